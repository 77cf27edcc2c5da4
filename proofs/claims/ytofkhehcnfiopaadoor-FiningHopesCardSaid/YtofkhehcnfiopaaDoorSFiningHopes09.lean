/- Parts of the walks of the laws on fining, those that FiningHopes needs: Sx16, F48, ItP, F49, F50, F51, Sx17, F52, F53, FewR. -/
import Derived.Test.YtofkhehcnfiopaaDoorSFiningHopes08
import Derived.Test.YtofkhehcnfiopaaDoorSFiningHopes07
import Derived.Test.YtofkhehcnfiopaaDoorProg
namespace Go.Proofs.YtofkhehcnfiopaaDoor.N
open Go Go.RowKit Go.Proofs
section
variable {C : Ctx} {fr : List (Nat × Value)} {hp hp' : List Res} {a : Act} {w : World} {ops : Array Oper} {Q : Exit → Act → World → Prop} {rest : List Oper}
  {d : Nat} {ty : TypeId} {pos : String} {after : Array Edge}
/-- A byte of a table of small numbers. -/
theorem lst_index_tab {x y : Operand} {t : TypeId} {s : ByteArray} {i N B : Nat} (hd : Nat.blt d C.N = true) (hx : ev fr x = some (.string s)) (hy : ev fr y = some (.int .u8 (i : Int))) (ht : C.P.underlying t = some .string)
    (hall : (List.range N).all (fun i => (s[i]?).any fun b => Nat.ble b.toNat B) = true) (hi : i < N) (k : ∀ n : Nat, n ≤ B → Lst C ops Q rest ((d, .int .u8 (n : Int)) :: fr) hp) :
    Lst C ops Q (⟨some d, .index t x y, ty, pos, after, none⟩ :: rest) fr hp := by
  have h1 := List.all_eq_true.1 hall i (List.mem_range.2 hi)
  cases hb : s[i]? with
  | none => rw [hb] at h1; cases h1
  | some b =>
    rw [hb] at h1
    refine lst_value _ hd (fun a w ha => ⟨w, ?_, ha⟩) (k b.toNat (by simpa [Nat.ble_eq] using h1))
    simp [execOp, ha.eval hx, ha.eval hy, Instr.index, asIntOf, run_underlying ht, hb]
theorem lst_make_cap {t e : TypeId} {x y : Operand} {n : Nat} (hd : Nat.blt d C.N = true) (hx : ev fr x = some (.int .i64 0)) (hy : ev fr y = some (.int .i64 (n : Int))) (ht : C.P.underlying t = some (.slice e)) (hz : TI C.P e (.int .i64 0) 1 8) (hn : n ≤ 1000000)
    (k : ∀ b, Lst C ops Q rest ((d, .slice (some ⟨b, 0, none⟩) 0 n) :: fr) (.row e 1 (some ⟨b, 0, none⟩) 0 n [] :: hp)) : Lst C ops Q (⟨some d, .makeSlice t x y, ty, pos, after, none⟩ :: rest) fr hp := by
  intro a w ha
  obtain ⟨i, hi, hz0, hs, hb⟩ := hz
  refine wpList_plain rfl fun K hK => ?_
  unfold Oper.wp
  have hm : (Instr.makeSlice t (.int .i64 0) (.int .i64 (n : Int))).run C.P w = .ok (.slice (some ⟨w.heap.size, 0, none⟩) 0 n) (w.alloc (.cells (ints (List.replicate n 0)).toArray e)) := by
    have h := run_makeSlice (P := C.P) w t e i (.int .i64 0) ht hi hz0 .i64 .i64 0 (n : Int) (by omega) (by omega) (by rw [hs]; simp; omega) (by rw [hb]; omega) (by omega)
    simp only [Int.toNat_natCast, hs, Nat.mul_one] at h
    rw [h, madeCells_ints]
    rfl
  have hr : (execOp a.eval ⟨some d, .makeSlice t x y, ty, pos, after, none⟩).run C.P w = .ok (.value (.slice (some ⟨w.heap.size, 0, none⟩) 0 n)) (w.alloc (.cells (ints (List.replicate n 0)).toArray e)) := by
    simp only [execOp, ha.eval hx, ha.eval hy, Sem.run_bind, hm, Result.andThen_ok, Sem.run_pure]
  rw [hr]
  refine hK _ _ (k w.heap.size _ _ (At.put ?_ (lt_of_blt hd) _))
  have h1 := ha.alloc (.cells (ints (List.replicate n 0)).toArray e)
  have hlen : (ints (List.replicate n 0)).length = n := by rw [ints_zeros, List.length_replicate]
  refine ⟨h1.size, h1.defs, h1.slots, h1.below, h1.base, fun r hr => ?_, ?_⟩
  · rcases List.mem_cons.1 hr with rfl | hr
    · have h2 := h1.own _ (List.mem_cons_self ..)
      exact ⟨by simp, .inr ⟨_, n, _, rfl, h2.1, h2.2, Nat.zero_le _, by unfold maxLen; omega, by rw [List.size_toArray, hlen, Nat.mul_one], by rw [Nat.zero_mul]; rfl⟩⟩
    · exact h1.own r (List.mem_cons_of_mem _ hr)
  · exact h1.apart
variable {r : Nat}
/-! More of rounds. -/
theorem opsR {P : Program} {ops : Array Oper} {Q : Exit → Act → World → Prop} (hQ : ∀ a w, Q .outgrown a w → False) (hops : ∀ (i : Nat) (o : Oper), ops[i]? = some o → ∀ c, o.op ≠ .defer c) : ∀ (l : List Nat) (a : Act) (w : World), wpOps P ops Q l a w → wpOpsIn (Fence.wide.inRound r) 0 P ops Q l a w
  | [], a, w, h => h
  | i :: l, a, w, h => by
    have ih := opsR (P := P) (ops := ops) (Q := Q) hQ hops l
    simp only [wpOps, wpOpsIn] at h ⊢
    cases ho : ops[i]? with
    | none => rw [ho] at h; exact ih _ _ h
    | some o =>
      rw [ho] at h
      dsimp only at h ⊢
      have hno := hops i o ho
      split at h
      · rename_i hw
        rw [if_pos hw]
        rcases h with h | ⟨_, a', w', h⟩
        · refine ⟨fun _ _ => trivial, ?_⟩
          rw [show (Fence.wide.inRound r).round = some r from rfl, Oper.semAt_some r _ _ hno]
          unfold Oper.wp at h
          generalize (execOp a.eval o).run P w = x at h ⊢
          match x, h with
          | .ok (.value v) w', h => exact ih _ _ h
          | .ok .skip w', h => exact ih _ _ h
          | .ok (.defer d) w', h => exact ih _ _ h
          | .ok (.enter f args) w', h =>
            refine ⟨fun hd => by simp [Fence.wide] at hd, (callsIn_round h).mono ?_⟩
            intro e w'' he
            cases e with
            | returned v => exact ih _ _ he
            | panicked ch => exact he
            | outgrown => exact he
          | .ok (.row row args) w', h => exact ⟨fun hd => by simp [Fence.wide] at hd, (rowsIn_wide steps_round h).mono fun v w'' he => ih _ _ he⟩
          | .halt (.panic v) w', h => exact h
        · exact (hQ a' w' h).elim
      · rename_i hw
        rw [if_neg hw]
        exact ⟨fun _ _ => trivial, ih _ _ h⟩
theorem codR_begin {id : Nat} {l : List Oper} {hpS : List Res} (bs : List Dk) (hm : C.P.follows .mixedOrders = true) (n : Nat) (hn : l.length = n) (lst : List Bool) (hl : Array.replicate n false = lst.toArray) (hno : (l.all fun o => match o.op with | .defer _ => false | _ => true) = true) [hs : Drp bs hp hpS] (h : Any C l.toArray Q hpS n lst.toArray fr hp) :
    CodR C r (.region id l.toArray true) Q fr hp := by
  intro a w ha
  refine wpIn_mono (Q := OnlyN Q) (wpIn_region_draw fun t => ?_) ?_
  · refine opsR (fun a w h => h) ?_ _ _ _ ?_
    · intro i o ho c hc
      have hmem : o ∈ l := List.mem_of_getElem? (by simpa using ho)
      have := List.all_eq_true.1 hno o hmem
      rw [hc] at this
      cases this
    · simp only [Region.schedule, hm, Bool.true_or, if_true]
      refine wpAny_sound _ t _ a _ (wpAny_of_held (S := Mem C hpS) _ _ _ _ ?_)
      have h1 := h a _ ha.drew
      rw [← hl] at h1
      simpa [hn] using h1
  · intro e a' w' he
    cases e with
    | normal => exact he
    | _ => exact he.elim
/-- A call of yield, out of the walk of the round. -/
theorem yield_body {P : Program} {N : Nat} {rec : Loop} {W : World} {vs : List Value} {frY frB : List (Nat × Value)} {R : Ending → World → Prop} (hl : W.heap[r]? = some (.loop rec)) (hready : rec.state = .ready) (hn : vs.length = rec.params.size)
    (hslots : At ⟨P, W.heap.size, W, N, []⟩ frY [] { tmps := (rec.params.zip vs.toArray).foldl (fun t (x : Tmp × Value) => t.setIfInBounds x.1 x.2) rec.tmps, defers := [] } W)
    (hassign : ∀ K : Act → World → Prop, Ex ⟨P, W.heap.size, W, N, []⟩ (Exit.then K (fun _ _ _ => False)) .normal frB [] → CodR ⟨P, W.heap.size, W, N, []⟩ r rec.assign (Exit.then K (fun _ _ _ => False)) frY [])
    (hbody : ∀ w1, Below W.heap.size W w1 → W.heap.size ≤ w1.heap.size → CodR ⟨P, w1.heap.size, w1.putObj r (.loop { rec with state := .busy }), N, []⟩ r rec.body (roundPost P r R) frB []) : YieldAt Fence.wide 0 P r vs.toArray W R := by
  refine ⟨_, _, _, _, run_yield hl (by simpa using hn), roundIn_of_wpIn trivial ?_⟩
  refine hassign _ ?_ _ _ hslots
  intro a w ha
  have hlt : r < W.heap.size := (Array.getElem?_eq_some_iff.1 hl).1
  have hl1 : w.heap[r]? = some (.loop rec) := (ha.below.block r hlt).trans hl
  refine ⟨_, run_beginRound hl1 hready, ?_⟩
  refine hbody w ha.below ha.base a _ ⟨ha.size, ha.defs, ha.slots, ?_, ?_, (fun r hr => by cases hr), List.nodup_nil⟩
  · exact Below.refl _ _
  · show w.heap.size ≤ (w.putObj r _).heap.size
    simp
/-- The round goes on. -/
theorem round_goes {P : Program} {N : Nat} {rec : Loop} {W w1 : World} {R : Ending → World → Prop} (hl : W.heap[r]? = some (.loop rec)) (hready : rec.state = .ready) (hpe : rec.pending = none) (hb : Below W.heap.size W w1) (hbs : W.heap.size ≤ w1.heap.size)
    (k : ∀ w', Grew W w' [] → R (.returned (.bool true)) w') : Ex ⟨P, w1.heap.size, w1.putObj r (.loop { rec with state := .busy }), N, []⟩ (roundPost P r R) .normal fr hp := by
  intro a w ha
  have hlt : r < W.heap.size := (Array.getElem?_eq_some_iff.1 hl).1
  have hl2 : w.heap[r]? = some (.loop { rec with state := .busy }) := by
    refine (ha.below.block r (by show r < w1.heap.size; omega)).trans ?_
    exact World.putObj_heap_same (by omega)
  have hr := run_endRound (P := P) none hl2
  refine ⟨_, _, hr, ?_⟩
  refine k _ ⟨?_, (fun r hr => by cases hr), List.nodup_nil⟩
  have hsize := ha.base
  refine ⟨?_, ?_, ?_, ?_, ?_⟩
  · exact ha.below.os.trans hb.os
  · exact ha.below.tape.trans hb.tape
  · exact ha.below.output.trans hb.output
  · have h3 := ha.base
    show W.heap.size ≤ (w.putObj r _).heap.size
    simp only [World.putObj_size]
    have h4 : w1.heap.size ≤ w.heap.size := h3
    omega
  · intro k hk
    by_cases e : k = r
    · subst e
      rw [World.putObj_heap_same (by have h3 : w1.heap.size ≤ w.heap.size := ha.base; omega), hl]
      obtain ⟨st, pe, _, _, _, _, _, _⟩ := rec
      simp only at hready hpe
      subst hready; subst hpe
      rfl
    · rw [World.putObj_heap_other e]
      refine (ha.below.block k (by show k < w1.heap.size; omega)).trans ?_
      rw [World.putObj_heap_other e]
      exact hb.block k hk
/-- The round returns. -/
theorem round_ret {rec : Loop} {R : Ending → World → Prop} (hu : Upd (.blk r (.loop { rec with state := .busy })) (.blk r (.loop { rec with state := .done, pending := some .ret })) hp hp')
    (k : ∀ a w', At C fr hp' a w' → R (.returned (.bool false)) w') : Ex C (roundPost C.P r R) .ret fr hp := by
  intro a w ha
  have hm := hu.mem
  have hb := ha.own _ hm
  have hr := run_endRound (P := C.P) (some .ret) hb.2
  refine ⟨_, _, hr, k a _ ?_⟩
  refine ha.turn hu (by
    refine ⟨rfl, rfl, rfl, by simp, fun k _ hk => World.putObj_heap_other (fun e => hk (by rw [e]; rfl))⟩) ⟨hb.1, ?_⟩ (fun k hk => .inl hk)
  exact World.putObj_heap_same (Array.getElem?_eq_some_iff.1 hb.2).1
theorem cell_lt {w : World} {p : Addr} {v : Value} (h : w.cell? p = some v) : p.block < w.heap.size := by
  unfold World.cell? at h
  rcases Nat.lt_or_ge p.block w.heap.size with h1 | h1
  · exact h1
  · rw [Array.getElem?_eq_none h1] at h
    cases h
theorem yieldAt_mono {P : Program} {args : Array Value} {W : World} {R R' : Ending → World → Prop} (h : YieldAt Fence.wide 0 P r args W R) (hr : ∀ e w', R e w' → R' e w') : YieldAt Fence.wide 0 P r args W R' := by
  obtain ⟨fn, tmps, assign, body, h1, h2⟩ := h
  exact ⟨fn, tmps, assign, body, h1, h2.mono hr⟩
end
end Go.Proofs.YtofkhehcnfiopaaDoor.N
namespace Go.Proofs.YtofkhehcnfiopaaDoor.N
open Go Go.RowKit Go.Proofs
theorem F.ent127 : Enters Tryd.prog 127 := enters_of Tryd.func127 rfl (by kernel_rfl)
theorem ones_c (s : Nat) (hs : s < 16) (w : World) : Calls Tryd.prog 127 #[.int .u8 (s : Int)] w fun e w' => ∃ n : Nat, n ≤ 4 ∧ e = .returned (.int .i64 (n : Int)) ∧ Grew w w' [] := by
  refine enter (N := 6) [(0, .int .u8 (s : Int))] Tryd.func127 rfl Tryd.ntmps127 rfl rfl ?_
  refine cod_seq ?_
  refine cod_region ?_
  refine lst_assign rfl rfl ?_
  refine lst_nil ?_
  refine ex_then ?_
  refine cod_seq ?_
  refine cod_region ?_
  refine lst_move rfl rfl ?_
  refine lst_index_tab (N := 16) (B := 4) rfl rfl rfl Tryd.underlying9 (by kernel_rfl) hs ?_
  intro n4 hn4
  refine lst_convert rfl rfl Tryd.underlying5 Tryd.underlying3 (wrap_i64' _ (by omega) (by omega)) ?_
  refine lst_assign rfl rfl ?_
  refine lst_nil ?_
  refine ex_then ?_
  refine cod_ret ?_
  exact ex_ret rfl (fun a w ha => res_one rfl rfl ha) (fun a w ha => ⟨n4, hn4, rfl, ha.grown (List.nil_sublist _)⟩)

theorem count_c (s : Nat) (hs : s < 16) (w : World) : Calls Tryd.prog 109 #[.int .u8 (s : Int)] w fun e w' => ∃ n : Nat, n ≤ 4 ∧ e = .returned (.int .i64 (n : Int)) ∧ Grew w w' [] := by
  refine enter (N := 5) [(0, .int .u8 (s : Int))] Tryd.func109 rfl Tryd.ntmps109 rfl rfl ?_
  refine cod_seq ?_
  refine cod_region ?_
  refine lst_assign rfl rfl ?_
  refine lst_nil ?_
  refine ex_then ?_
  refine cod_seq ?_
  refine cod_region ?_
  refine lst_move rfl rfl ?_
  refine lst_fn (X := Nat) (vs := [_]) (p := fun n => n ≤ 4) (val := fun n => .int .i64 (n : Int)) (rs := fun _ => []) rfl rfl F.ent127 (fun a w ha => ones_c s hs w) ?_
  intro n hn
  dsimp only [List.nil_append]
  refine lst_assign rfl rfl ?_
  refine lst_nil ?_
  refine ex_then ?_
  refine cod_ret ?_
  exact ex_ret rfl (fun a w ha => res_one rfl rfl ha) (fun a w ha => ⟨n, hn, rfl, ha.grown (List.nil_sublist _)⟩)

theorem sets_c (n : Nat) (w : World) : Calls Tryd.prog 108 #[.int .i64 (n : Int)] w fun e w' => ∃ b : Nat, e = .returned (.func (.func 125) ([] : List Value).toArray [.pointer (some ⟨b, 0, none⟩)].toArray) ∧ Grew w w' [.blk b (.cells [.int .i64 (n : Int)].toArray 3 (0, 0))] := by
  refine enter (N := 4) [(0, .int .i64 (n : Int))] Tryd.func108 rfl Tryd.ntmps108 rfl rfl ?_
  refine cod_seq ?_
  refine cod_region ?_
  refine lst_box rfl rfl ?_
  intro b1
  refine lst_assign rfl rfl ?_
  refine lst_nil ?_
  refine ex_then ?_
  refine cod_seq ?_
  refine cod_region ?_
  refine lst_makeFunc (fs := []) (cs := [_]) rfl rfl rfl ?_
  refine lst_assign rfl rfl ?_
  refine lst_nil ?_
  refine ex_then ?_
  refine cod_ret ?_
  exact ex_ret rfl (fun a w ha => res_one rfl rfl ha) (fun a w ha => ⟨b1, rfl, ha.grown (List.Sublist.refl _)⟩)

end Go.Proofs.YtofkhehcnfiopaaDoor.N
namespace Go.Proofs.YtofkhehcnfiopaaDoor.N
open Go Go.RowKit Go.Proofs
/-- A list that stands for a set of numbers below n. -/
def SetOk (n : Nat) (v : List Nat) : Prop := v.Pairwise (· < ·) ∧ ∀ i ∈ v, i < n
theorem setOk_nil (n : Nat) : SetOk n [] := ⟨.nil, fun i hi => absurd hi List.not_mem_nil⟩
theorem SetOk.snoc {n i : Nat} {v : List Nat} (h : SetOk n v) (hi : i < n) (hv : ∀ j ∈ v, j < i) : SetOk n (v ++ [i]) := by
  refine ⟨List.pairwise_append.2 ⟨h.1, List.pairwise_singleton .., fun a ha b hb => ?_⟩, fun j hj => ?_⟩
  · rw [List.mem_singleton.1 hb]; exact hv a ha
  · rcases List.mem_append.1 hj with h1 | h1
    · exact h.2 j h1
    · rw [List.mem_singleton.1 h1]; exact hi
theorem SetOk.mask {n : Nat} {v : List Nat} (h : SetOk n v) (hn : n ≤ 4) : maskL v < 16 := maskL_lt16 fun i hi => by have := h.2 i hi; omega
/-- Whatever lay from H on lies as it lay. -/
def KeepUp (H : Nat) (w w' : World) : Prop := True ∧ ∀ b, H ≤ b → b < w.heap.size → w'.heap[b]? = w.heap[b]?
theorem KeepUp.below {H : Nat} {w w1 w2 : World} (hs : w.heap.size ≤ w1.heap.size) (hb : Below w.heap.size w w1) (h : KeepUp H w1 w2) : KeepUp H w w2 :=
  ⟨trivial, fun b h1 h2 => (h.2 b h1 (by omega)).trans (hb.block b h2)⟩
theorem KeepUp.after {H : Nat} {w w1 w2 : World} (h : KeepUp H w w1) (hb : Below w1.heap.size w1 w2) : KeepUp H w w2 :=
  ⟨trivial, fun b h1 h2 => (hb.block b (by
    have h3 := h.2 b h1 h2
    rw [Array.getElem?_eq_getElem h2] at h3
    exact (Array.getElem?_eq_some_iff.1 h3).1)).trans (h.2 b h1 h2)⟩
/-- What a call of yield does: it goes on where P does not hold, it stops where P holds. -/
def YSpec (n r H : Nat) (W1 : World) (G : List Nat → Prop) (Jx : List Nat → World → Prop) : Prop :=
  ∀ (v : List Nat) (W : World), SetOk n v → Below H W1 W → H ≤ W.heap.size → YieldAt Fence.wide 0 Tryd.prog r [.int .u8 (maskL v : Nat)].toArray W fun e W' =>
    (e = .returned (.bool true) ∧ Grew W W' [] ∧ ¬ G v) ∨ (e = .returned (.bool false) ∧ G v ∧ Jx v W' ∧ KeepUp H W W')
abbrev fromV (yb nb fb : Nat) : Value := .func (.func 126) ([] : List Value).toArray [.pointer (some ⟨yb, 0, none⟩), .pointer (some ⟨nb, 0, none⟩), .pointer (some ⟨fb, 0, none⟩)].toArray
abbrev yieldV (r : Nat) : Value := .func (.yield r) #[] #[]
/-- The iterator's own variables. -/
structure ItS (n r H yb nb fb : Nat) (W1 w : World) : Prop where
  old : Below H W1 w
  size : H ≤ w.heap.size
  hy : H ≤ yb
  hf : H ≤ fb
  y : w.cell? ⟨yb, 0, none⟩ = some (yieldV r)
  n : w.cell? ⟨nb, 0, none⟩ = some (.int .i64 (n : Int))
  f : w.cell? ⟨fb, 0, none⟩ = some (fromV yb nb fb)
theorem ItS.later {n r H yb nb fb : Nat} {W1 w w' : World} (h : ItS n r H yb nb fb W1 w) (hb : Below w.heap.size w w') : ItS n r H yb nb fb W1 w' := by
  have hc : ∀ p v, w.cell? p = some v → w'.cell? p = some v := fun p v hv => (hb.cell (cell_lt hv)).trans hv
  exact ⟨h.old.trans (hb.mono h.size), Nat.le_trans h.size hb.size, h.hy, h.hf, hc _ _ h.y, hc _ _ h.n, hc _ _ h.f⟩
/-- How a walk through sets ends. -/
def FromR (n : Nat) (H : Nat) (G : List Nat → Prop) (Jx : List Nat → World → Prop) (pre : List Nat) (l : List (List Nat)) (w : World) (e : Ending) (w' : World) : Prop :=
  (e = .returned (.bool true) ∧ Grew w w' [] ∧ ∀ v ∈ l, ¬ G (pre ++ v)) ∨
  (e = .returned (.bool false) ∧ ∃ (i : Nat) (v : List Nat), l[i]? = some v ∧ G (pre ++ v) ∧ (∀ (j : Nat) (u : List Nat), j < i → l[j]? = some u → ¬ G (pre ++ u)) ∧ Jx (pre ++ v) w' ∧ KeepUp H w w')
/-- What is known where a walk was stopped. -/
def StopR (H : Nat) (G : List Nat → Prop) (Jx : List Nat → World → Prop) (pre : List Nat) (l : List (List Nat)) (w w' : World) : Prop :=
  ∃ (i : Nat) (v : List Nat), l[i]? = some v ∧ G (pre ++ v) ∧ (∀ (j : Nat) (u : List Nat), j < i → l[j]? = some u → ¬ G (pre ++ u)) ∧ Jx (pre ++ v) w' ∧ KeepUp H w w'
theorem stop_map {H : Nat} {G : List Nat → Prop} {Jx : List Nat → World → Prop} {pre : List Nat} {x : Nat} {l0 l : List (List Nat)} {w w' : World} (h0 : ∀ v ∈ l0, ¬ G (pre ++ v)) (h : StopR H G Jx (pre ++ [x]) l w w') (rest : List (List Nat)) :
    StopR H G Jx pre (l0 ++ l.map (x :: ·) ++ rest) w w' := by
  obtain ⟨i, v, h1, h2, h3, h4, h5⟩ := h
  have hi : i < l.length := (List.getElem?_eq_some_iff.1 h1).1
  have e : pre ++ x :: v = pre ++ [x] ++ v := by simp
  refine ⟨l0.length + i, x :: v, ?_, by rw [e]; exact h2, ?_, by rw [e]; exact h4, h5⟩
  · rw [List.append_assoc, List.getElem?_append_right (by omega), Nat.add_sub_cancel_left, List.getElem?_append_left (by rw [List.length_map]; exact hi), List.getElem?_map, h1]
    rfl
  · intro j u hj hu
    rcases Nat.lt_or_ge j l0.length with h6 | h6
    · rw [List.append_assoc, List.getElem?_append_left h6] at hu
      exact h0 u (List.mem_of_getElem? hu)
    · rw [List.append_assoc, List.getElem?_append_right h6, List.getElem?_append_left (by rw [List.length_map]; omega), List.getElem?_map] at hu
      obtain ⟨u', hu', rfl⟩ := Option.map_eq_some_iff.1 hu
      have := h3 (j - l0.length) u' (by omega) hu'
      rw [show pre ++ x :: u' = pre ++ [x] ++ u' by simp]
      exact this
theorem chs_split {n k f i : Nat} (h : f ≤ i) (hi : i < n) : ∃ rest, chsL n (k + 1) f = chsT n k f i ++ (chsL n k (i + 1)).map (i :: ·) ++ rest := by
  rw [← chsT_succ h]
  unfold chsL chsT
  have e : n - f = (i + 1 - f) + (n - (i + 1)) := by omega
  rw [e, ← List.range'_append_1, List.flatMap_append]
  exact ⟨_, rfl⟩
end Go.Proofs.YtofkhehcnfiopaaDoor.N
namespace Go.Proofs.YtofkhehcnfiopaaDoor.N
open Go Go.RowKit Go.Proofs
theorem F.ent126 : Enters Tryd.prog 126 := enters_of Tryd.func126 rfl (by kernel_rfl)
theorem F.one162 : One Tryd.prog 162 := ⟨by unfold aggB; rw [Tryd.underlying162], by rw [Tryd.underlying162]; simp⟩
theorem F.one163 : One Tryd.prog 163 := ⟨by unfold aggB; rw [Tryd.underlying163], by rw [Tryd.underlying163]; simp⟩
theorem from_0 (pre : List Nat) (f : Nat) (n r H yb nb fb : Nat) (W1 : World) (G : List Nat → Prop) (Jx : List Nat → World → Prop) (hn : n ≤ 4) (hJ : ∀ v W W', Jx v W → Below W.heap.size W W' → Jx v W') (hY : YSpec n r H W1 G Jx) (hp : SetOk n pre) (w : World) (hI : ItS n r H yb nb fb W1 w) : Calls Tryd.prog 126 #[.int .u8 (maskL pre : Nat), .int .i64 (f : Int), .int .i64 0, .pointer (some ⟨yb, 0, none⟩), .pointer (some ⟨nb, 0, none⟩), .pointer (some ⟨fb, 0, none⟩)] w (FromR n H G Jx pre (chsL n 0 f) w) := by
  refine enter (N := 33) [(0, .int .u8 (maskL pre : Nat)), (1, .int .i64 (f : Int)), (2, .int .i64 0), (3, .pointer (some ⟨yb, 0, none⟩)), (4, .pointer (some ⟨nb, 0, none⟩)), (5, .pointer (some ⟨fb, 0, none⟩))] Tryd.func126 rfl Tryd.ntmps126 rfl rfl ?_
  refine cod_seq ?_
  refine cod_region ?_
  refine lst_assign rfl rfl ?_
  refine lst_nil ?_
  refine ex_then ?_
  refine cod_seq ?_
  refine cod_seq ?_
  refine cod_region ?_
  refine lst_move rfl rfl ?_
  refine lst_int rfl rfl rfl bin_eql ?_
  refine lst_nil ?_
  refine ex_then ?_
  refine cod_cond_true rfl ?_
  refine cod_seq ?_
  refine cod_regionW ?_
  refine lstW_yld rfl rfl (yld_load_at (v := yieldV r) rfl F.one162 (fun a w' ha => ha.old hI.y (cell_lt hI.y))) ?_
  refine lstW_yld rfl rfl (yld_move rfl) ?_
  refine lstW_yield (hpT := []) (vs := [_]) (M := fun w' => G pre ∧ Jx pre w' ∧ KeepUp H w w') (¬ G pre) rfl rfl rfl (fun a w' ha => yieldAt_mono (hY pre w' hp (hI.old.trans (ha.below.mono hI.size)) (Nat.le_trans hI.size ha.base)) (fun e w2 h => ?_)) (fun hnG => ?_) (fun w2 hM => ?_)
  · rcases h with ⟨h1, h2, h3⟩ | ⟨h1, h2, h3, h4⟩
    · exact .inl ⟨h1, h3, ha.more h2⟩
    · exact .inr ⟨h1, h2, h3, h4.below ha.base ha.below⟩
  · skip
    refine lstW_yld rfl rfl (yld_assign rfl) ?_
    refine lstW_nil ?_
    refine ex_then ?_
    refine cod_ret ?_
    refine ex_then_ret ?_
    exact ex_ret rfl (fun a w ha => res_one rfl rfl ha) (fun a w' ha => .inl ⟨rfl, ha.grown (List.nil_sublist _), fun v hv => by rw [List.mem_singleton.1 hv, List.append_nil]; exact hnG⟩)
  · skip
    refine lstW_yld rfl rfl (yld_assign rfl) ?_
    refine lstW_nil ?_
    refine ex_then ?_
    refine cod_ret ?_
    refine ex_then_ret ?_
    exact ex_ret rfl (fun a w ha => res_one rfl rfl ha) (fun a w' ha => .inr ⟨rfl, 0, [], rfl, by rw [List.append_nil]; exact hM.1, fun j u hj => absurd hj (Nat.not_lt_zero _), by rw [List.append_nil]; exact hJ _ _ _ hM.2.1 ha.below, hM.2.2.after ha.below⟩)

theorem from_s (pre : List Nat) (f k : Nat) (n r H yb nb fb : Nat) (W1 : World) (G : List Nat → Prop) (Jx : List Nat → World → Prop) (hn : n ≤ 4) (hJ : ∀ v W W', Jx v W → Below W.heap.size W W' → Jx v W') (hY : YSpec n r H W1 G Jx) (hf : f ≤ 5) (hk : k + 1 ≤ 5) (hp : SetOk n pre) (hpf : ∀ j ∈ pre, j < f) (ih : ∀ (f : Nat) (pre : List Nat) (w : World), f ≤ 5 → SetOk n pre → (∀ j ∈ pre, j < f) → ItS n r H yb nb fb W1 w → Calls Tryd.prog 126 #[.int .u8 (maskL pre : Nat), .int .i64 (f : Int), .int .i64 (k : Int), .pointer (some ⟨yb, 0, none⟩), .pointer (some ⟨nb, 0, none⟩), .pointer (some ⟨fb, 0, none⟩)] w (FromR n H G Jx pre (chsL n k f) w)) (w : World) (hI : ItS n r H yb nb fb W1 w) : Calls Tryd.prog 126 #[.int .u8 (maskL pre : Nat), .int .i64 (f : Int), .int .i64 ((k + 1 : Nat) : Int), .pointer (some ⟨yb, 0, none⟩), .pointer (some ⟨nb, 0, none⟩), .pointer (some ⟨fb, 0, none⟩)] w (FromR n H G Jx pre (chsL n (k + 1) f) w) := by
  refine enter (N := 33) [(0, .int .u8 (maskL pre : Nat)), (1, .int .i64 (f : Int)), (2, .int .i64 ((k + 1 : Nat) : Int)), (3, .pointer (some ⟨yb, 0, none⟩)), (4, .pointer (some ⟨nb, 0, none⟩)), (5, .pointer (some ⟨fb, 0, none⟩))] Tryd.func126 rfl Tryd.ntmps126 rfl rfl ?_
  refine cod_seq ?_
  refine cod_region ?_
  refine lst_assign rfl rfl ?_
  refine lst_nil ?_
  refine ex_then ?_
  refine cod_seq ?_
  refine cod_seq ?_
  refine cod_region ?_
  refine lst_move rfl rfl ?_
  refine lst_int rfl rfl rfl bin_eql ?_
  refine lst_nil ?_
  refine ex_then ?_
  refine cod_cond_false rfl ?_
  refine cod_skip ?_
  refine ex_then ?_
  refine cod_seq ?_
  refine cod_seq ?_
  refine cod_region ?_
  refine lst_move rfl rfl ?_
  refine lst_assign rfl rfl ?_
  refine lst_nil ?_
  refine ex_then ?_
  refine cod_block ?_
  refine cod_loop (G := Nat) (fun i => f ≤ i ∧ i ≤ max f n ∧ ∀ v ∈ chsT n k f i, ¬ G (pre ++ v)) (fun i => n - i) (fun i => [(0, .int .u8 (maskL pre : Nat)), (2, .int .i64 ((k + 1 : Nat) : Int)), (3, .pointer (some ⟨yb, 0, none⟩)), (4, .pointer (some ⟨nb, 0, none⟩)), (5, .pointer (some ⟨fb, 0, none⟩)), (10, .int .i64 (i : Int))]) (fun i => []) f ⟨Nat.le_refl _, Nat.le_max_left _ _, fun v hv => absurd hv (by rw [chsT_self]; exact List.not_mem_nil)⟩ (by repeat (first | exact Sub.nil _ | refine Sub.cons rfl ?_)) (by repeat (first | exact List.Sublist.refl _ | exact List.nil_sublist _ | refine List.Sublist.cons_cons _ ?_ | refine List.Sublist.cons _ ?_)) ?_
  intro i hi
  (try dsimp only at hi ⊢)
  refine cod_seq ?_
  refine cod_seq ?_
  refine cod_region ?_
  refine lst_move rfl rfl ?_
  refine lst_load_at (v := .int .i64 (n : Int)) rfl rfl F.one3 (fun a w' ha => ha.old hI.n (cell_lt hI.n)) ?_
  refine lst_int rfl rfl rfl bin_lss ?_
  refine lst_nil ?_
  refine ex_then ?_
  refine cod_cond_dec rfl (fun hc1 => ?_) (fun hc1 => ?_)
  · skip
    have hin : i < n := by omega
    have hm8 : maskL pre < 256 := by have := hp.mask hn; omega
    refine cod_skip ?_
    refine ex_then ?_
    refine cod_seq ?_
    refine cod_block ?_
    refine cod_seq ?_
    refine anyG_start (fun w' => w'.cell? ⟨fb, 0, none⟩ = some (fromV yb nb fb)) F.follows 11 rfl [false, false, false, false, false, false, false, false, false, false, false] rfl (fun a w' ha => ha.old hI.f (cell_lt hI.f)) ?_
    refine anyG_take (listed' := [true, false, false, false, false, false, false, false, false, false, false].toArray) 0 rfl rfl rfl (by kernel_rfl) (by kernel_rfl) (by kernel_rfl) (fun w' hS => yld_load_at (v := fromV yb nb fb) rfl F.one163 (fun a w'' ha => ha.old hS (cell_lt hS))) rfl ?_
    refine anyG_take (listed' := [true, true, false, false, false, false, false, false, false, false, false].toArray) 1 rfl rfl rfl (by kernel_rfl) (by kernel_rfl) (by kernel_rfl) (fun w' hS => yld_move rfl) rfl ?_
    refine anyG_take (listed' := [true, true, true, false, false, false, false, false, false, false, false].toArray) 2 rfl rfl rfl (by kernel_rfl) (by kernel_rfl) (by kernel_rfl) (fun w' hS => yld_move rfl) rfl ?_
    refine anyG_take (listed' := [true, true, true, true, false, false, false, false, false, false, false].toArray) 3 rfl rfl rfl (by kernel_rfl) (by kernel_rfl) (by kernel_rfl) (fun w' hS => yld_shl rfl rfl (by omega) (shl_u8 (by omega))) rfl ?_
    refine anyG_take (listed' := [true, true, true, true, true, false, false, false, false, false, false].toArray) 4 rfl rfl rfl (by kernel_rfl) (by kernel_rfl) (by kernel_rfl) (fun w' hS => yld_int rfl rfl (fun w => bin_or w (r := ((maskL (pre ++ [i]) : Nat) : Int)) (by rw [maskL_snoc]; exact u8_or _ _ hm8 (shl8_lt (by omega))))) rfl ?_
    refine anyG_take (listed' := [true, true, true, true, true, true, false, false, false, false, false].toArray) 5 rfl rfl rfl (by kernel_rfl) (by kernel_rfl) (by kernel_rfl) (fun w' hS => yld_move rfl) rfl ?_
    refine anyG_take (listed' := [true, true, true, true, true, true, true, false, false, false, false].toArray) 6 rfl rfl rfl (by kernel_rfl) (by kernel_rfl) (by kernel_rfl) (fun w' hS => yld_int rfl rfl (fun w => bin_add w (wrap_i64' _ (by omega) (by omega)))) rfl ?_
    refine anyG_take (listed' := [true, true, true, true, true, true, true, true, false, false, false].toArray) 7 rfl rfl rfl (by kernel_rfl) (by kernel_rfl) (by kernel_rfl) (fun w' hS => yld_move rfl) rfl ?_
    refine anyG_take (listed' := [true, true, true, true, true, true, true, true, true, false, false].toArray) 8 rfl rfl rfl (by kernel_rfl) (by kernel_rfl) (by kernel_rfl) (fun w' hS => yld_int rfl rfl (fun w => bin_sub w (show IntKind.i64.wrap (((k + 1 : Nat) : Int) - 1) = ((k : Nat) : Int) from by rw [wrap_i64' _ (by omega) (by omega)]; omega))) rfl ?_
    refine anyG_one (listed' := [true, true, true, true, true, true, true, true, true, true, false].toArray) 9 (by kernel_rfl) rfl rfl ?_
    refine lst_call_two (hpT := []) (first := []) (cap := [.pointer (some ⟨yb, 0, none⟩), .pointer (some ⟨nb, 0, none⟩), .pointer (some ⟨fb, 0, none⟩)]) (vs := [_, _, _]) (vT := .bool true) (vF := .bool false) (M := fun w' => StopR H G Jx (pre ++ [i]) (chsL n k (i + 1)) w w') (∀ v ∈ chsL n k (i + 1), ¬ G ((pre ++ [i]) ++ v)) rfl rfl rfl F.ent126 (fun a w' ha => (ih (i + 1) (pre ++ [i]) w' (by omega) (hp.snoc (by omega) (fun j hj => by have := hpf j hj; omega)) (fun j hj => by rcases List.mem_append.1 hj with h1 | h1; exact Nat.lt_of_lt_of_le (hpf j h1) (by omega); rw [List.mem_singleton.1 h1]; omega) (hI.later ha.below)).mono (fun e w2 h => ?_)) (fun hnG => ?_) (fun w2 hM => ?_)
    · rcases h with ⟨h1, h2, h3⟩ | ⟨h1, i', v, h2, h3, h4, h5, h6⟩
      · exact .inl ⟨h1, h3, ha.more h2⟩
      · exact .inr ⟨h1, i', v, h2, h3, h4, h5, h6.below ha.base ha.below⟩
    · skip
      refine lst_nil ?_
      refine exG_next rfl (fun a w' ha => ha.old hI.f (cell_lt hI.f)) ?_
      refine anyG_take (listed' := [true, true, true, true, true, true, true, true, true, true, true].toArray) 10 rfl rfl rfl (by kernel_rfl) (by kernel_rfl) (by kernel_rfl) (fun w' hS => yld_not rfl) rfl ?_
      refine anyG_done rfl (by kernel_rfl) ?_
      refine ex_then ?_
      refine cod_cond_false rfl ?_
      refine cod_skip ?_
      refine ex_block_normal ?_
      refine ex_then ?_
      refine cod_region ?_
      refine lst_move rfl rfl ?_
      refine lst_int rfl rfl rfl (fun w => bin_add w (wrap_i64' _ (by omega) (by omega))) ?_
      refine lst_assign rfl rfl ?_
      refine lst_nil ?_
      refine ex_round (i + 1) ⟨by omega, by have := Nat.le_max_right f n; omega, fun v hv => by
        rw [chsT_succ hi.1] at hv
        rcases List.mem_append.1 hv with h1 | h1
        · exact hi.2.2 v h1
        · obtain ⟨u, hu, rfl⟩ := List.mem_map.1 h1
          rw [show pre ++ i :: u = (pre ++ [i]) ++ u by simp]
          exact hnG u hu⟩ (by (try dsimp only); omega) (by repeat (first | exact Sub.nil _ | refine Sub.cons rfl ?_)) (by repeat (first | exact List.Sublist.refl _ | exact List.nil_sublist _ | refine List.Sublist.cons_cons _ ?_ | refine List.Sublist.cons _ ?_))
    · skip
      have hfb2 : w2.cell? ⟨fb, 0, none⟩ = some (fromV yb nb fb) := by
        obtain ⟨_, _, _, _, _, _, h6⟩ := hM
        exact (World.cell?_of_block (h6.2 fb hI.hf (cell_lt hI.f))).trans hI.f
      refine lst_nil ?_
      refine exG_next rfl (fun a w' ha => ha.old hfb2 (cell_lt hfb2)) ?_
      refine anyG_take (listed' := [true, true, true, true, true, true, true, true, true, true, true].toArray) 10 rfl rfl rfl (by kernel_rfl) (by kernel_rfl) (by kernel_rfl) (fun w' hS => yld_not rfl) rfl ?_
      refine anyG_done rfl (by kernel_rfl) ?_
      refine ex_then ?_
      refine cod_cond_true rfl ?_
      refine cod_seq ?_
      refine cod_region ?_
      refine lst_assign rfl rfl ?_
      refine lst_nil ?_
      refine ex_then ?_
      refine cod_ret ?_
      refine ex_block_ret ?_
      refine ex_then_ret ?_
      refine ex_then_ret ?_
      refine ex_block_ret ?_
      refine ex_then_ret ?_
      exact ex_ret rfl (fun a w ha => res_one rfl rfl ha) (fun a w' ha => .inr ⟨rfl, by
        obtain ⟨rest, hrest⟩ := chs_split (k := k) hi.1 hin
        rw [hrest]
        obtain ⟨i', v, h1, h2, h3, h4, h5⟩ := stop_map hi.2.2 hM rest
        exact ⟨i', v, h1, h2, h3, hJ _ _ _ h4 ha.below, h5.after ha.below⟩⟩)
  · skip
    refine cod_exit ?_
    refine ex_then_exit ?_
    refine ex_then_exit ?_
    refine ex_block_exit ?_
    refine ex_then ?_
    refine cod_seq ?_
    refine cod_region ?_
    refine lst_assign rfl rfl ?_
    refine lst_nil ?_
    refine ex_then ?_
    refine cod_ret ?_
    exact ex_ret rfl (fun a w ha => res_one rfl rfl ha) (fun a w' ha => .inl ⟨rfl, ha.grown (List.nil_sublist _), fun v hv => hi.2.2 v (by rw [chsT_end (i := i) (by omega)]; exact hv)⟩)

theorem from_c (n r H yb nb fb : Nat) (W1 : World) (G : List Nat → Prop) (Jx : List Nat → World → Prop) (hn : n ≤ 4) (hJ : ∀ v W W', Jx v W → Below W.heap.size W W' → Jx v W') (hY : YSpec n r H W1 G Jx) : ∀ (k : Nat), k ≤ 5 → ∀ (f : Nat) (pre : List Nat) (w : World), f ≤ 5 → SetOk n pre → (∀ j ∈ pre, j < f) → ItS n r H yb nb fb W1 w → Calls Tryd.prog 126 #[.int .u8 (maskL pre : Nat), .int .i64 (f : Int), .int .i64 (k : Int), .pointer (some ⟨yb, 0, none⟩), .pointer (some ⟨nb, 0, none⟩), .pointer (some ⟨fb, 0, none⟩)] w (FromR n H G Jx pre (chsL n k f) w)
  | 0, _, f, pre, w, _, hp, _, hI => from_0 pre f n r H yb nb fb W1 G Jx hn hJ hY hp w hI
  | k + 1, hk, f, pre, w, hf, hp, hpf, hI => from_s pre f k n r H yb nb fb W1 G Jx hn hJ hY hf hk hp hpf (from_c n r H yb nb fb W1 G Jx hn hJ hY k (by omega)) w hI
end Go.Proofs.YtofkhehcnfiopaaDoor.N
namespace Go.Proofs.YtofkhehcnfiopaaDoor.N
open Go Go.RowKit Go.Proofs
theorem F.ti163 : TI Tryd.prog 163 (.nilFunc) 1 8 := TI.of (by kernel_rfl)
theorem it_c (n r nb : Nat) (G : List Nat → Prop) (Jx : List Nat → World → Prop) (hn : n ≤ 4) (hJ : ∀ v W W', Jx v W → Below W.heap.size W W' → Jx v W') (w : World) (hnb : w.cell? ⟨nb, 0, none⟩ = some (.int .i64 (n : Int))) (hY : YSpec n r w.heap.size w G Jx) : Calls Tryd.prog 125 #[yieldV r, .pointer (some ⟨nb, 0, none⟩)] w fun e w' => (∃ v, e = .returned v) ∧ (((∀ k, k ≤ n → ∀ v ∈ chsL n k 0, ¬ G v) ∧ Grew w w' []) ∨ ∃ W, FewS n G W ∧ SetOk n W ∧ Jx W w') := by
  refine enter (N := 16) [(0, yieldV r), (1, .pointer (some ⟨nb, 0, none⟩))] Tryd.func125 rfl Tryd.ntmps125 rfl rfl ?_
  refine cod_seq ?_
  refine cod_region ?_
  refine lst_box rfl rfl ?_
  intro b2
  refine lst_nil ?_
  refine ex_then ?_
  refine cod_seq ?_
  refine cod_region ?_
  refine lst_alloc rfl F.ti163 ?_
  intro b3
  refine lst_nil ?_
  refine ex_then ?_
  refine cod_seq ?_
  refine cod_region ?_
  refine lst_makeFunc (fs := []) (cs := [_, _, _]) rfl rfl rfl ?_
  refine lst_store rfl rfl F.ti163 rfl ?_
  refine lst_nil ?_
  refine ex_then ?_
  refine cod_seq ?_
  refine cod_region ?_
  refine lst_load_at (v := .int .i64 (n : Int)) rfl rfl F.one3 (fun a w' ha => ha.old hnb (cell_lt hnb)) ?_
  refine lst_int rfl rfl rfl (fun w => bin_add w (wrap_i64' _ (by omega) (by omega))) ?_
  refine lst_move rfl rfl ?_
  refine lst_nil ?_
  refine ex_then ?_
  refine cod_block ?_
  refine cod_loop (G := Nat) (fun k => k ≤ n + 1 ∧ ∀ j, j < k → ∀ v ∈ chsL n j 0, ¬ G v) (fun k => n + 1 - k) (fun k => [(3, .pointer (some ⟨b3, 0, none⟩)), (7, .int .i64 ((n : Int) + 1)), (8, .int .i64 (k : Int))]) (fun k => .blk b3 (.cells [fromV b2 nb b3].toArray 163 (0, 0)) :: [.blk b2 (.cells [yieldV r].toArray 162 (0, 0))]) 0 ⟨Nat.zero_le _, fun j hj => absurd hj (Nat.not_lt_zero _)⟩ (by repeat (first | exact Sub.nil _ | refine Sub.cons rfl ?_)) (by repeat (first | exact List.Sublist.refl _ | exact List.nil_sublist _ | refine List.Sublist.cons_cons _ ?_ | refine List.Sublist.cons _ ?_)) ?_
  intro k hk
  (try dsimp only at hk ⊢)
  refine cod_seq ?_
  refine cod_region ?_
  refine lst_int rfl rfl rfl bin_lss ?_
  refine lst_nil ?_
  refine ex_then ?_
  refine cod_seq ?_
  refine cod_cond_dec rfl (fun hc0 => ?_) (fun hc0 => ?_)
  · skip
    have hkn : k ≤ n := by omega
    refine cod_skip ?_
    refine ex_then ?_
    refine cod_seq ?_
    refine cod_block ?_
    refine cod_seq ?_
    refine cod_region ?_
    refine lst_move rfl rfl ?_
    refine lst_assign rfl rfl ?_
    refine lst_nil ?_
    refine ex_then ?_
    refine cod_seq ?_
    refine cod_region ?_
    refine lst_load rfl rfl F.one163 ?_
    refine lst_move rfl rfl ?_
    refine lst_call_two (hpT := .blk b3 (.cells [fromV b2 nb b3].toArray 163 (0, 0)) :: [.blk b2 (.cells [yieldV r].toArray 162 (0, 0))]) (first := []) (cap := [.pointer (some ⟨b2, 0, none⟩), .pointer (some ⟨nb, 0, none⟩), .pointer (some ⟨b3, 0, none⟩)]) (vs := [_, _, _]) (vT := .bool true) (vF := .bool false) (M := fun w' => StopR w.heap.size G Jx [] (chsL n k 0) w w') (∀ v ∈ chsL n k 0, ¬ G ([] ++ v)) rfl rfl rfl F.ent126 (fun a w' ha => (from_c n r w.heap.size b2 nb b3 w G Jx hn hJ hY k (by omega) 0 [] w' (by omega) (setOk_nil n) (fun j hj => absurd hj List.not_mem_nil) (⟨ha.below, ha.base, (ha.own _ (InB.mem (b := b2))).1, (ha.own _ (InB.mem (b := b3))).1, cell_of_blk (ha.mem_blk (InB.mem (b := b2))) rfl, ha.old hnb (cell_lt hnb), cell_of_blk (ha.mem_blk (InB.mem (b := b3))) rfl⟩ : ItS n r w.heap.size b2 nb b3 w w')).mono (fun e w2 h => ?_)) (fun hnG => ?_) (fun w2 hM => ?_)
    · rcases h with ⟨h1, h2, h3⟩ | ⟨h1, i', v, h2, h3, h4, h5, h6⟩
      · exact .inl ⟨h1, h3, ha.more h2⟩
      · exact .inr ⟨h1, i', v, h2, h3, h4, h5, h6.below ha.base ha.below⟩
    · skip
      refine lst_not rfl rfl ?_
      refine lst_nil ?_
      refine ex_then ?_
      refine cod_cond_false rfl ?_
      refine cod_skip ?_
      refine ex_block_normal ?_
      refine ex_then ?_
      refine cod_region ?_
      refine lst_int rfl rfl rfl (fun w => bin_add w (wrap_i64' _ (by omega) (by omega))) ?_
      refine lst_move rfl rfl ?_
      refine lst_nil ?_
      refine ex_round (k + 1) ⟨by omega, fun j hj v hv => by
        rcases Nat.lt_succ_iff_lt_or_eq.1 hj with h1 | rfl
        · exact hk.2 j h1 v hv
        · exact hnG v hv⟩ (by (try dsimp only); omega) (by repeat (first | exact Sub.nil _ | refine Sub.cons rfl ?_)) (by repeat (first | exact List.Sublist.refl _ | exact List.nil_sublist _ | refine List.Sublist.cons_cons _ ?_ | refine List.Sublist.cons _ ?_))
    · skip
      refine lst_not rfl rfl ?_
      refine lst_nil ?_
      refine ex_then ?_
      refine cod_cond_true rfl ?_
      refine cod_ret ?_
      refine ex_block_ret ?_
      refine ex_then_ret ?_
      refine ex_then_ret ?_
      refine ex_block_ret ?_
      exact ex_ret rfl (fun a w ha => res_none rfl ha) (fun a w' ha => ⟨⟨_, rfl⟩, .inr (by
        obtain ⟨i', v, h1, h2, h3, h4, _⟩ := hM
        exact ⟨v, ⟨k, i', h1, h2, ⟨fun j u hj hu => hk.2 j hj u hu, h3⟩⟩, ⟨chs_sorted (List.mem_of_getElem? h1), fun i hi => ((chs_mem (List.mem_of_getElem? h1)).2 i hi).2⟩, hJ _ _ _ h4 ha.below⟩)⟩)
  · skip
    refine cod_exit ?_
    refine ex_then_exit ?_
    refine ex_then_exit ?_
    refine ex_block_exit ?_
    exact ex_end rfl (fun a w ha => res_none rfl ha) (fun a w' ha => ⟨⟨_, rfl⟩, .inl ⟨fun j hj => hk.2 j (by omega), ha.grown (List.nil_sublist _)⟩⟩)

end Go.Proofs.YtofkhehcnfiopaaDoor.N
namespace Go.Proofs.YtofkhehcnfiopaaDoor.N
open Go Go.RowKit Go.Proofs
theorem rd_now {C : Ctx} {fr : List (Nat × Value)} {hp : List Res} {a : Act} {w : World} (ha : At C fr hp a w) {α : Type} {cells : α → List Value} {size : Nat} {A : Option Addr} {l : List α} (hB : C.w0.heap.size = C.B) (h : RdL cells size C.w0 A l) : RdL cells size w A l :=
  h.later (by rw [hB]; exact ha.below)
theorem rd_at {C : Ctx} {fr : List (Nat × Value)} {hp : List Res} {a : Act} {w : World} (ha : At C fr hp a w) {α : Type} {cells : α → List Value} {size g k j : Nat} {l : List α} {x : α} {u : Value} (hB : C.w0.heap.size = C.B) (h : RdL cells size C.w0 (some ⟨g, 0, none⟩) l) (hk : l[k]? = some x) (hu : (cells x)[j]? = some u) :
    w.cell? ⟨g, 0 + k * size + j, none⟩ = some u := by
  obtain ⟨b, o, h1, h2, h3⟩ := rd_now ha hB h (by have := (List.getElem?_eq_some_iff.1 hk).1; omega)
  cases h1
  exact h3 k x hk j u hu
theorem prices2_c {C : Ctx} {fr : List (Nat × Value)} {T : List Res} {a : Act} {w : World} (hC : C.P = Tryd.prog) {ags : List Ag} {used p cg N : Nat} {aA : Option Addr} (hok : Oks ags) (hu : used < 256) (hp : p < 64) (hN64 : N ≤ 1000) (hN : (roundP ags used (iterP ags used p N) 64).2 = false) (hB : C.w0.heap.size = C.B) (hRd : RdL Ag.cells 5 C.w0 aA ags) (hA0 : 0 < ags.length → ∃ g, aA = some ⟨g, 0, none⟩) (ha : At C fr (T) a w) : Calls C.P 88 #[.agg [.slice aA ags.length cg, .int .u8 (used : Int)].toArray, .int .u8 (p : Int)] w fun e w' => ∃ j b, j ≤ N ∧ (roundP ags used (iterP ags used p j) 64).2 = false ∧ e = .returned (.pointer (some ⟨b, 0, none⟩)) ∧ At C fr (.blk b (.cells (mcells (.func (.func 116) #[] #[]) (iterP ags used p (j + 1))).toArray 99 (0, 0)) :: T) a w' := by
  obtain ⟨P, B, w0, N0, ds⟩ := C
  obtain rfl : P = Tryd.prog := hC
  refine enter_in (N := 71) [(0, .agg [.slice aA ags.length cg, .int .u8 (used : Int)].toArray), (1, .int .u8 (p : Int))] ha Tryd.func88 rfl Tryd.ntmps88 rfl rfl ?_
  refine cod_seq ?_
  refine cod_region ?_
  refine lst_box rfl rfl ?_
  intro b2
  refine lst_assign rfl rfl ?_
  refine lst_nil ?_
  refine ex_then ?_
  refine cod_scope_jumps 0 (G := Nat × Nat) (fun g => g.1 ≤ N) (fun g => N - g.1) (fun g => [(1, .int .u8 (p : Int)), (2, .pointer (some ⟨b2, 0, none⟩)), (5, .pointer (some ⟨g.2, 0, none⟩))]) (fun g => .blk g.2 (.cells (mcells (.func (.func 116) #[] #[]) (iterP ags used p g.1)).toArray 99 (0, 0)) :: .blk b2 (.cells [.slice aA ags.length cg, .int .u8 (used : Int)].toArray 75 (0, 0)) :: T) rfl ?_ ?_
  · skip
    refine cod_seq ?_
    refine cod_region ?_
    refine lst_build (vs := [(0, _)]) (l := mcells (.func (.func 116) #[] #[]) (initP p 0)) rfl rfl (fun w => Go.run_build w 99 _ _ (by kernel_rfl)) ?_
    refine lst_box (l := mcells (.func (.func 116) #[] #[]) (initP p 0)) (hl := mcells_box _ rfl _) rfl rfl ?_
    intro b13
    refine lst_assign rfl rfl ?_
    refine lst_nil ?_
    refine ex_then ?_
    refine cod_seq ?_
    refine cod_seq ?_
    refine cod_region ?_
    refine lst_move rfl rfl ?_
    refine lst_nil ?_
    refine ex_then ?_
    refine cod_block ?_
    refine cod_loop (G := Nat) (fun k => k ≤ 64) (fun k => 64 - k) (fun k => [(1, .int .u8 (p : Int)), (2, .pointer (some ⟨b2, 0, none⟩)), (5, .pointer (some ⟨b13, 0, none⟩)), (14, .int .i64 (k : Int))]) (fun k => .blk b13 (.cells (mcells (.func (.func 116) #[] #[]) (initP p k)).toArray 99 (0, 0)) :: .blk b2 (.cells [.slice aA ags.length cg, .int .u8 (used : Int)].toArray 75 (0, 0)) :: T) 0 (Nat.zero_le _) (by repeat (first | exact Sub.nil _ | refine Sub.cons rfl ?_)) (by repeat (first | exact List.Sublist.refl _ | exact List.nil_sublist _ | refine List.Sublist.cons_cons _ ?_ | refine List.Sublist.cons _ ?_)) ?_
    intro k hk
    (try dsimp only at hk ⊢)
    refine cod_seq ?_
    refine cod_region ?_
    refine lst_int rfl rfl rfl bin_lss ?_
    refine lst_nil ?_
    refine ex_then ?_
    refine cod_seq ?_
    refine cod_cond_dec rfl (fun hc0 => ?_) (fun hc0 => ?_)
    · skip
      have hk64 : k < 64 := by omega
      refine cod_skip ?_
      refine ex_then ?_
      refine cod_seq ?_
      refine cod_block ?_
      refine cod_seq ?_
      refine cod_region ?_
      refine lst_move rfl rfl ?_
      refine lst_assign rfl rfl ?_
      refine lst_nil ?_
      refine ex_then ?_
      refine any_begin [.b b13] F.follows 11 rfl [false, false, false, false, false, false, false, false, false, false, false] rfl ?_
      refine any_take (listed' := [true, false, false, false, false, false, false, false, false, false, false].toArray) 0 rfl rfl rfl (by kernel_rfl) (by kernel_rfl) (by kernel_rfl) (by repeat (first | exact List.Sublist.refl _ | exact List.nil_sublist _ | refine List.Sublist.cons_cons _ ?_ | refine List.Sublist.cons _ ?_)) (yld_move rfl) rfl ?_
      refine any_take (listed' := [true, true, false, false, false, false, false, false, false, false, false].toArray) 1 rfl rfl rfl (by kernel_rfl) (by kernel_rfl) (by kernel_rfl) (by repeat (first | exact List.Sublist.refl _ | exact List.nil_sublist _ | refine List.Sublist.cons_cons _ ?_ | refine List.Sublist.cons _ ?_)) (yld_move rfl) rfl ?_
      refine any_take (listed' := [true, true, true, false, false, false, false, false, false, false, false].toArray) 2 rfl rfl rfl (by kernel_rfl) (by kernel_rfl) (by kernel_rfl) (by repeat (first | exact List.Sublist.refl _ | exact List.nil_sublist _ | refine List.Sublist.cons_cons _ ?_ | refine List.Sublist.cons _ ?_)) (yld_move rfl) rfl ?_
      refine any_take (listed' := [true, true, true, true, false, false, false, false, false, false, false].toArray) 3 rfl rfl rfl (by kernel_rfl) (by kernel_rfl) (by kernel_rfl) (by repeat (first | exact List.Sublist.refl _ | exact List.nil_sublist _ | refine List.Sublist.cons_cons _ ?_ | refine List.Sublist.cons _ ?_)) (yld_convert rfl Tryd.underlying3 Tryd.underlying77 (wrap_u8 _ (by omega))) rfl ?_
      refine any_take (listed' := [true, true, true, true, true, false, false, false, false, false, false].toArray) 4 rfl rfl rfl (by kernel_rfl) (by kernel_rfl) (by kernel_rfl) (by repeat (first | exact List.Sublist.refl _ | exact List.nil_sublist _ | refine List.Sublist.cons_cons _ ?_ | refine List.Sublist.cons _ ?_)) (yld_move rfl) rfl ?_
      refine any_take (listed' := [true, true, true, true, true, false, true, false, false, false, false].toArray) 6 rfl rfl rfl (by kernel_rfl) (by kernel_rfl) (by kernel_rfl) (by repeat (first | exact List.Sublist.refl _ | exact List.nil_sublist _ | refine List.Sublist.cons_cons _ ?_ | refine List.Sublist.cons _ ?_)) (yld_nilCheck rfl) rfl ?_
      refine any_take (listed' := [true, true, true, true, true, false, true, true, false, false, false].toArray) 7 rfl rfl rfl (by kernel_rfl) (by kernel_rfl) (by kernel_rfl) (by repeat (first | exact List.Sublist.refl _ | exact List.nil_sublist _ | refine List.Sublist.cons_cons _ ?_ | refine List.Sublist.cons _ ?_)) (yld_field_z rfl F.fi99_1 F.ti97) rfl ?_
      refine any_one (listed' := [true, true, true, true, true, true, true, true, false, false, false].toArray) 5 (by kernel_rfl) rfl rfl ?_
      refine lst_fn0 (vs := [_, _]) rfl rfl F.ent81 (fun a w ha => clear_c k p (by omega) (by omega) w) ?_
      refine lst_nil ?_
      refine any_next (by repeat (first | exact List.Sublist.refl _ | exact List.nil_sublist _ | refine List.Sublist.cons_cons _ ?_ | refine List.Sublist.cons _ ?_)) ?_
      refine any_take (listed' := [true, true, true, true, true, true, true, true, true, false, false].toArray) 8 rfl rfl rfl (by kernel_rfl) (by kernel_rfl) (by kernel_rfl) (by repeat (first | exact List.Sublist.refl _ | exact List.nil_sublist _ | refine List.Sublist.cons_cons _ ?_ | refine List.Sublist.cons _ ?_)) (yld_index_arr (j := _) rfl rfl Tryd.underlying97 F.ti95 rfl (by omega)) rfl ?_
      refine any_take (listed' := [true, true, true, true, true, true, true, true, true, true, false].toArray) 9 rfl rfl rfl (by kernel_rfl) (by kernel_rfl) (by kernel_rfl) (by repeat (first | exact List.Sublist.refl _ | exact List.nil_sublist _ | refine List.Sublist.cons_cons _ ?_ | refine List.Sublist.cons _ ?_)) (yld_field rfl F.fi95_2 F.ti4) rfl ?_
      refine any_one (listed' := [true, true, true, true, true, true, true, true, true, true, true].toArray) 10 (by kernel_rfl) rfl rfl ?_
      refine lst_store_any rfl rfl F.ti4 (by rw [mcells_len, (Bd.init p k).1]; omega) (show mcells (.func (.func 116) #[] #[]) (initP p (k + 1)) = _ from by rw [← initP_set p hk64]; exact mcells_known (.func (.func 116) #[] #[]) (initP p k) (initP_get p hk64) _) UpB.upd ?_
      refine lst_nil ?_
      refine any_next (by repeat (first | exact List.Sublist.refl _ | exact List.nil_sublist _ | refine List.Sublist.cons_cons _ ?_ | refine List.Sublist.cons _ ?_)) ?_
      refine any_done rfl (by kernel_rfl) ?_
      refine ex_block_normal ?_
      refine ex_then ?_
      refine cod_region ?_
      refine lst_int rfl rfl rfl (fun w => bin_add w (wrap_i64' _ (by omega) (by omega))) ?_
      refine lst_move rfl rfl ?_
      refine lst_nil ?_
      refine ex_round (k + 1) (by omega) (by (try dsimp only); omega) (by repeat (first | exact Sub.nil _ | refine Sub.cons rfl ?_)) (by repeat (first | exact List.Sublist.refl _ | exact List.nil_sublist _ | refine List.Sublist.cons_cons _ ?_ | refine List.Sublist.cons _ ?_))
    · skip
      refine cod_exit ?_
      refine ex_then_exit ?_
      refine ex_then_exit ?_
      refine ex_block_exit ?_
      refine ex_then ?_
      refine cod_seq ?_
      refine cod_label ?_
      refine ex_then ?_
      refine cod_seq ?_
      refine cod_region ?_
      obtain rfl : k = 64 := by omega
      obtain ⟨j, hj⟩ : ∃ j, j = 0 := ⟨0, rfl⟩
      have hjN : j ≤ N := by omega
      rw [show initP p 64 = iterP ags used p j from by rw [hj]; rfl]
      refine lst_assign rfl rfl ?_
      refine lst_nil ?_
      refine ex_then ?_
      refine cod_seq ?_
      refine cod_seq ?_
      refine cod_region ?_
      refine lst_move rfl rfl ?_
      refine lst_nil ?_
      refine ex_then ?_
      refine cod_block ?_
      refine cod_loop (G := Nat) (fun k => k ≤ 64) (fun k => 64 - k) (fun k => [(1, .int .u8 (p : Int)), (2, .pointer (some ⟨b2, 0, none⟩)), (5, .pointer (some ⟨b13, 0, none⟩)), (7, .bool (roundP ags used (iterP ags used p j) k).2), (28, .int .i64 (k : Int))]) (fun k => .blk b13 (.cells (mcells (.func (.func 116) #[] #[]) (roundP ags used (iterP ags used p j) k).1).toArray 99 (0, 0)) :: .blk b2 (.cells [.slice aA ags.length cg, .int .u8 (used : Int)].toArray 75 (0, 0)) :: T) 0 (Nat.zero_le _) (by repeat (first | exact Sub.nil _ | refine Sub.cons rfl ?_)) (by repeat (first | exact List.Sublist.refl _ | exact List.nil_sublist _ | refine List.Sublist.cons_cons _ ?_ | refine List.Sublist.cons _ ?_)) ?_
      intro k hk
      (try dsimp only at hk ⊢)
      refine cod_seq ?_
      refine cod_region ?_
      refine lst_int rfl rfl rfl bin_lss ?_
      refine lst_nil ?_
      refine ex_then ?_
      refine cod_seq ?_
      refine cod_cond_dec rfl (fun hc1 => ?_) (fun hc1 => ?_)
      · skip
        have hk64 : k < 64 := by omega
        refine cod_skip ?_
        refine ex_then ?_
        refine cod_seq ?_
        refine cod_block ?_
        refine cod_seq ?_
        refine cod_region ?_
        refine lst_move rfl rfl ?_
        refine lst_assign rfl rfl ?_
        refine lst_nil ?_
        refine ex_then ?_
        refine cod_seq ?_
        refine cod_region ?_
        refine lst_loadN rfl rfl F.agg75 F.ti75 ?_
        refine lst_move rfl rfl ?_
        refine lst_convert rfl rfl Tryd.underlying3 Tryd.underlying77 (wrap_u8 _ (by omega)) ?_
        refine lst_fn (X := Option Addr × Nat) (vs := [_, _]) (p := fun _ => True) (val := fun x => .slice x.1 (canTo ags used k ags.length).length x.2) (rs := fun x => [.row 3 1 x.1 (canTo ags used k ags.length).length x.2 (ints (canTo ags used k ags.length))]) rfl rfl F.ent89 (fun a w ha => (can_c aA cg ags used k hok hu (by omega) w (rd_now ha hB hRd)).mono (fun e w' h => by obtain ⟨A', c', h1, h2⟩ := h; exact ⟨(A', c'), trivial, h1, h2⟩)) ?_
        rintro ⟨cA, cc⟩ -
        dsimp only [List.cons_append, List.nil_append]
        refine lst_len rfl rfl Tryd.underlying25 ?_
        refine lst_move rfl rfl ?_
        refine lst_nil ?_
        refine ex_then ?_
        refine cod_block ?_
        refine cod_loop (G := Nat) (fun t => t ≤ (canTo ags used k ags.length).length) (fun t => (canTo ags used k ags.length).length - t) (fun t => [(1, .int .u8 (p : Int)), (2, .pointer (some ⟨b2, 0, none⟩)), (5, .pointer (some ⟨b13, 0, none⟩)), (7, .bool (relaxF ags k (roundP ags used (iterP ags used p j) k) ((canTo ags used k ags.length).take t)).2), (28, .int .i64 (k : Int)), (8, .int .i64 (k : Int)), (34, .slice cA (canTo ags used k ags.length).length cc), (35, .int .i64 ((canTo ags used k ags.length).length : Int)), (36, .int .i64 (t : Int))]) (fun t => .row 3 1 cA (canTo ags used k ags.length).length cc (ints (canTo ags used k ags.length)) :: .blk b13 (.cells (mcells (.func (.func 116) #[] #[]) (relaxF ags k (roundP ags used (iterP ags used p j) k) ((canTo ags used k ags.length).take t)).1).toArray 99 (0, 0)) :: .blk b2 (.cells [.slice aA ags.length cg, .int .u8 (used : Int)].toArray 75 (0, 0)) :: T) 0 (Nat.zero_le _) (by repeat (first | exact Sub.nil _ | refine Sub.cons rfl ?_)) (by repeat (first | exact List.Sublist.refl _ | exact List.nil_sublist _ | refine List.Sublist.cons_cons _ ?_ | refine List.Sublist.cons _ ?_)) ?_
        intro t ht
        (try dsimp only at hk ⊢)
        refine cod_seq ?_
        refine cod_region ?_
        refine lst_int rfl rfl rfl bin_lss ?_
        refine lst_nil ?_
        refine ex_then ?_
        refine cod_seq ?_
        refine cod_cond_dec rfl (fun hc2 => ?_) (fun hc2 => ?_)
        · skip
          have ht' : t < (canTo ags used k ags.length).length := by omega
          have hcl := canTo_len ags used k ags.length
          have hol := hok.1
          obtain ⟨i, hci⟩ : ∃ i, (canTo ags used k ags.length)[t]? = some i := ⟨_, List.getElem?_eq_getElem ht'⟩
          obtain ⟨hi', _, _⟩ := canTo_mem (List.mem_of_getElem? hci)
          obtain ⟨gA, hgA⟩ := hA0 (show 0 < ags.length by omega)
          subst hgA
          obtain ⟨x, hx⟩ : ∃ x, ags[i]? = some x := ⟨_, List.getElem?_eq_getElem hi'⟩
          have hxo : x.ok := hok.2 x (List.mem_of_getElem? hx)
          have hxd : ags.getD i default = x := by rw [List.getD_eq_getElem?_getD, hx]; rfl
          have hBd := Bd.at (used := used) (p := p) hok j k t (by omega)
          have hsn := relaxF_snoc (ags := ags) (f := k) (s := (roundP ags used (iterP ags used p j) k)) hci
          obtain ⟨ps, ch, hpc⟩ : ∃ ps ch, (relaxF ags k (roundP ags used (iterP ags used p j) k) ((canTo ags used k ags.length).take t)) = (ps, ch) := ⟨_, _, rfl⟩
          rw [hpc] at hBd hsn ⊢
          have hps : ps[k]? = some (ps.getD k default) := getD_some (by rw [hBd.1]; exact hk64)
          have hkl : k < ps.length := by rw [hBd.1]; exact hk64
          dsimp only
          refine cod_skip ?_
          refine ex_then ?_
          refine cod_seq ?_
          refine cod_block ?_
          refine cod_seq ?_
          refine cod_region ?_
          refine lst_index_row (j := t) rfl rfl rfl Tryd.underlying25 F.ti3 rfl ht' rfl rfl ?_
          intro gC hgC
          refine lst_load_row (v := .int .i64 (i : Int)) rfl rfl F.one3 hgC (ints_get hci) ?_
          refine lst_assign rfl rfl ?_
          refine lst_nil ?_
          refine ex_then ?_
          refine cod_seq ?_
          refine cod_region ?_
          refine lst_move rfl rfl ?_
          refine lst_field_z rfl rfl F.fi75_0 F.ti72 ?_
          refine lst_load rfl rfl F.one72 ?_
          refine lst_move rfl rfl ?_
          refine lst_index (j := i) rfl rfl rfl Tryd.underlying72 F.ti89 rfl hi' ?_
          refine lst_loadN_at (l := [.int .i64 (x.needs : Int), .int .i64 (x.no : Int), .int .i64 (x.takes : Int), .int .i64 (x.leaves : Int), .int .i64 (x.cost : Int)]) rfl rfl F.agg89 F.ti89 rfl (fun a w ha j u hu => rd_at ha hB hRd hx hu) ?_
          refine lst_move rfl rfl ?_
          refine lst_convert rfl rfl Tryd.underlying3 Tryd.underlying77 (wrap_u8 _ (by omega)) ?_
          refine lst_call (X := Unit) (first := []) (cap := []) (vs := [_, _, _]) (p := fun _ => True) (val := fun _ => .agg [.int .i64 ((afterP ps x k).cost : Int), .int .i64 ((afterP ps x k).puts : Int), .bool (afterP ps x k).known].toArray) (rs := fun _ => .blk b13 (.cells (mcells (.func (.func 116) #[] #[]) ps).toArray 99 (0, 0)) :: .row 3 1 cA (canTo ags used k ags.length).length cc (ints (canTo ags used k ags.length)) :: .blk b2 (.cells [.slice (some ⟨gA, 0, none⟩) ags.length cg, .int .u8 (used : Int)].toArray 75 (0, 0)) :: T) rfl rfl rfl F.ent90 (fun a w ha => (after_c (bm := b13) (x := x) (f := k) (T := .row 3 1 cA (canTo ags used k ags.length).length cc (ints (canTo ags used k ags.length)) :: .blk b2 (.cells [.slice (some ⟨gA, 0, none⟩) ags.length cg, .int .u8 (used : Int)].toArray 75 (0, 0)) :: T) rfl hxo hk64 hBd (by omega) (ha.pck (by repeat (first | exact Pck.nil _ | exact Pck.refl _ | (apply Pck.cons; focus ((repeat (first | exact Rem.here _ | apply Rem.there)); done)) | refine Pck.skip _ ?_)))).mono (fun e w' h => ⟨(), trivial, h.1, h.2⟩)) ?_
          rintro ⟨⟩ -
          dsimp only
          refine lst_alloc rfl F.ti95 ?_
          intro b11
          refine lst_store rfl rfl F.ti95 rfl ?_
          refine lst_nil ?_
          refine ex_then ?_
          refine cod_seq ?_
          refine any_begin [] F.follows 12 rfl [false, false, false, false, false, false, false, false, false, false, false, false] rfl ?_
          refine any_take (listed' := [true, false, false, false, false, false, false, false, false, false, false, false].toArray) 0 rfl rfl rfl (by kernel_rfl) (by kernel_rfl) (by kernel_rfl) (by repeat (first | exact List.Sublist.refl _ | exact List.nil_sublist _ | refine List.Sublist.cons_cons _ ?_ | refine List.Sublist.cons _ ?_)) (yld_move rfl) rfl ?_
          refine any_take (listed' := [true, true, false, false, false, false, false, false, false, false, false, false].toArray) 1 rfl rfl rfl (by kernel_rfl) (by kernel_rfl) (by kernel_rfl) (by repeat (first | exact List.Sublist.refl _ | exact List.nil_sublist _ | refine List.Sublist.cons_cons _ ?_ | refine List.Sublist.cons _ ?_)) (yld_nilCheck rfl) rfl ?_
          refine any_take (listed' := [true, true, true, false, false, false, false, false, false, false, false, false].toArray) 2 rfl rfl rfl (by kernel_rfl) (by kernel_rfl) (by kernel_rfl) (by repeat (first | exact List.Sublist.refl _ | exact List.nil_sublist _ | refine List.Sublist.cons_cons _ ?_ | refine List.Sublist.cons _ ?_)) (yld_field_z rfl F.fi99_0 F.ti96) rfl ?_
          refine any_take (listed' := [true, true, true, true, false, false, false, false, false, false, false, false].toArray) 3 rfl rfl rfl (by kernel_rfl) (by kernel_rfl) (by kernel_rfl) (by repeat (first | exact List.Sublist.refl _ | exact List.nil_sublist _ | refine List.Sublist.cons_cons _ ?_ | refine List.Sublist.cons _ ?_)) (yld_load_at rfl F.one96 (fun a w ha => cell_of_blk (ha.mem_blk (InB.mem (b := b13))) rfl)) rfl ?_
          refine any_take (listed' := [true, true, true, true, true, false, false, false, false, false, false, false].toArray) 4 rfl rfl rfl (by kernel_rfl) (by kernel_rfl) (by kernel_rfl) (by repeat (first | exact List.Sublist.refl _ | exact List.nil_sublist _ | refine List.Sublist.cons_cons _ ?_ | refine List.Sublist.cons _ ?_)) (yld_loadN rfl F.agg95 F.ti95) rfl ?_
          refine any_take (listed' := [true, true, true, true, true, true, false, false, false, false, false, false].toArray) 5 rfl rfl rfl (by kernel_rfl) (by kernel_rfl) (by kernel_rfl) (by repeat (first | exact List.Sublist.refl _ | exact List.nil_sublist _ | refine List.Sublist.cons_cons _ ?_ | refine List.Sublist.cons _ ?_)) (yld_move rfl) rfl ?_
          refine any_take (listed' := [true, true, true, true, true, true, true, false, false, false, false, false].toArray) 6 rfl rfl rfl (by kernel_rfl) (by kernel_rfl) (by kernel_rfl) (by repeat (first | exact List.Sublist.refl _ | exact List.nil_sublist _ | refine List.Sublist.cons_cons _ ?_ | refine List.Sublist.cons _ ?_)) (yld_move rfl) rfl ?_
          refine any_take (listed' := [true, true, true, true, true, true, true, true, false, false, false, false].toArray) 7 rfl rfl rfl (by kernel_rfl) (by kernel_rfl) (by kernel_rfl) (by repeat (first | exact List.Sublist.refl _ | exact List.nil_sublist _ | refine List.Sublist.cons_cons _ ?_ | refine List.Sublist.cons _ ?_)) (yld_nilCheck rfl) rfl ?_
          refine any_take (listed' := [true, true, true, true, true, true, true, true, true, false, false, false].toArray) 8 rfl rfl rfl (by kernel_rfl) (by kernel_rfl) (by kernel_rfl) (by repeat (first | exact List.Sublist.refl _ | exact List.nil_sublist _ | refine List.Sublist.cons_cons _ ?_ | refine List.Sublist.cons _ ?_)) (yld_field_z rfl F.fi99_1 F.ti97) rfl ?_
          refine any_take (listed' := [true, true, true, true, true, true, true, true, true, true, false, false].toArray) 9 rfl rfl rfl (by kernel_rfl) (by kernel_rfl) (by kernel_rfl) (by repeat (first | exact List.Sublist.refl _ | exact List.nil_sublist _ | refine List.Sublist.cons_cons _ ?_ | refine List.Sublist.cons _ ?_)) (yld_index_arr (j := k) rfl rfl Tryd.underlying97 F.ti95 rfl hk64) rfl ?_
          refine any_take (listed' := [true, true, true, true, true, true, true, true, true, true, true, false].toArray) 10 rfl rfl rfl (by kernel_rfl) (by kernel_rfl) (by kernel_rfl) (by repeat (first | exact List.Sublist.refl _ | exact List.nil_sublist _ | refine List.Sublist.cons_cons _ ?_ | refine List.Sublist.cons _ ?_)) (yld_loadN_at (l := [.int .i64 ((ps.getD k default).cost : Int), .int .i64 ((ps.getD k default).puts : Int), .bool (ps.getD k default).known]) rfl F.agg95 F.ti95 rfl (fun a w ha j u hu => cell_of_blk (ha.mem_blk (InB.mem (b := b13))) (mcells_get _ ps hps hu))) rfl ?_
          refine any_one (listed' := [true, true, true, true, true, true, true, true, true, true, true, true].toArray) 11 (by kernel_rfl) rfl rfl ?_
          refine lst_call (X := Unit) (first := []) (cap := []) (vs := [_, _]) (p := fun _ => True) (val := fun _ => .bool (lessP (afterP ps x k) (ps.getD k default))) (rs := fun _ => .blk b11 (.cells [.int .i64 ((afterP ps x k).cost : Int), .int .i64 ((afterP ps x k).puts : Int), .bool (afterP ps x k).known].toArray 95 (0, 0)) :: .blk b13 (.cells (mcells (.func (.func 116) #[] #[]) ps).toArray 99 (0, 0)) :: .row 3 1 cA (canTo ags used k ags.length).length cc (ints (canTo ags used k ags.length)) :: .blk b2 (.cells [.slice (some ⟨gA, 0, none⟩) ags.length cg, .int .u8 (used : Int)].toArray 75 (0, 0)) :: T) rfl rfl rfl F.ent116 (fun a w ha => (less_c (afterP ps x k) (ps.getD k default) w).mono (fun e w' h => by exact ⟨(), trivial, h.1, ha.more h.2⟩)) ?_
          rintro ⟨⟩ -
          dsimp only
          refine lst_nil ?_
          refine any_next (by repeat (first | exact List.Sublist.refl _ | exact List.nil_sublist _ | refine List.Sublist.cons_cons _ ?_ | refine List.Sublist.cons _ ?_)) ?_
          refine any_done rfl (by kernel_rfl) ?_
          refine ex_then ?_
          refine cod_cond_bool rfl (fun hc3 => ?_) (fun hc3 => ?_)
          · skip
            have hr : relax ags k (ps, ch) i = (ps.set k (afterP ps x k), true) := by unfold relax; rw [hxd]; exact if_pos hc3
            rw [hr] at hsn
            refine any_begin [.b b13] F.follows 8 rfl [false, false, false, false, false, false, false, false] rfl ?_
            refine any_take (listed' := [true, false, false, false, false, false, false, false].toArray) 0 rfl rfl rfl (by kernel_rfl) (by kernel_rfl) (by kernel_rfl) (by repeat (first | exact List.Sublist.refl _ | exact List.nil_sublist _ | refine List.Sublist.cons_cons _ ?_ | refine List.Sublist.cons _ ?_)) (yld_move rfl) rfl ?_
            refine any_take (listed' := [true, true, false, false, false, false, false, false].toArray) 1 rfl rfl rfl (by kernel_rfl) (by kernel_rfl) (by kernel_rfl) (by repeat (first | exact List.Sublist.refl _ | exact List.nil_sublist _ | refine List.Sublist.cons_cons _ ?_ | refine List.Sublist.cons _ ?_)) (yld_move rfl) rfl ?_
            refine any_take (listed' := [true, true, true, false, false, false, false, false].toArray) 2 rfl rfl rfl (by kernel_rfl) (by kernel_rfl) (by kernel_rfl) (by repeat (first | exact List.Sublist.refl _ | exact List.nil_sublist _ | refine List.Sublist.cons_cons _ ?_ | refine List.Sublist.cons _ ?_)) (yld_loadN rfl F.agg95 F.ti95) rfl ?_
            refine any_take (listed' := [true, true, true, true, false, false, false, false].toArray) 3 rfl rfl rfl (by kernel_rfl) (by kernel_rfl) (by kernel_rfl) (by repeat (first | exact List.Sublist.refl _ | exact List.nil_sublist _ | refine List.Sublist.cons_cons _ ?_ | refine List.Sublist.cons _ ?_)) (yld_nilCheck rfl) rfl ?_
            refine any_take (listed' := [true, true, true, true, true, false, false, false].toArray) 4 rfl rfl rfl (by kernel_rfl) (by kernel_rfl) (by kernel_rfl) (by repeat (first | exact List.Sublist.refl _ | exact List.nil_sublist _ | refine List.Sublist.cons_cons _ ?_ | refine List.Sublist.cons _ ?_)) (yld_field_z rfl F.fi99_1 F.ti97) rfl ?_
            refine any_take (listed' := [true, true, true, true, true, true, false, false].toArray) 5 rfl rfl rfl (by kernel_rfl) (by kernel_rfl) (by kernel_rfl) (by repeat (first | exact List.Sublist.refl _ | exact List.nil_sublist _ | refine List.Sublist.cons_cons _ ?_ | refine List.Sublist.cons _ ?_)) (yld_index_arr (j := k) rfl rfl Tryd.underlying97 F.ti95 rfl hk64) rfl ?_
            refine any_one (listed' := [true, true, true, true, true, true, true, false].toArray) 6 (by kernel_rfl) rfl rfl ?_
            refine lst_store (hs := mcells_splice (.func (.func 116) #[] #[]) ps hkl (afterP ps x k)) rfl rfl F.ti95 rfl ?_
            refine lst_nil ?_
            refine any_next (by repeat (first | exact List.Sublist.refl _ | exact List.nil_sublist _ | refine List.Sublist.cons_cons _ ?_ | refine List.Sublist.cons _ ?_)) ?_
            refine any_take (listed' := [true, true, true, true, true, true, true, true].toArray) 7 rfl rfl rfl (by kernel_rfl) (by kernel_rfl) (by kernel_rfl) (by repeat (first | exact List.Sublist.refl _ | exact List.nil_sublist _ | refine List.Sublist.cons_cons _ ?_ | refine List.Sublist.cons _ ?_)) (yld_assign rfl) rfl ?_
            refine any_done rfl (by kernel_rfl) ?_
            refine ex_block_normal ?_
            refine ex_then ?_
            refine cod_region ?_
            refine lst_int rfl rfl rfl (fun w => bin_add w (wrap_i64' _ (by omega) (by omega))) ?_
            refine lst_move rfl rfl ?_
            refine lst_nil ?_
            refine ex_round' (t + 1) (by omega) (by (try dsimp only); omega) (by (try dsimp only); rw [hsn]; repeat (first | exact Sub.nil _ | refine Sub.cons rfl ?_)) (by (try dsimp only); rw [hsn]; repeat (first | exact Pck.nil _ | exact Pck.refl _ | (apply Pck.cons; focus ((repeat (first | exact Rem.here _ | apply Rem.there)); done)) | refine Pck.skip _ ?_))
          · skip
            have hr : relax ags k (ps, ch) i = (ps, ch) := by unfold relax; rw [hxd]; exact if_neg (by rw [hc3]; exact Bool.false_ne_true)
            rw [hr] at hsn
            refine cod_skip ?_
            refine ex_block_normal ?_
            refine ex_then ?_
            refine cod_region ?_
            refine lst_int rfl rfl rfl (fun w => bin_add w (wrap_i64' _ (by omega) (by omega))) ?_
            refine lst_move rfl rfl ?_
            refine lst_nil ?_
            refine ex_round' (t + 1) (by omega) (by (try dsimp only); omega) (by (try dsimp only); rw [hsn]; repeat (first | exact Sub.nil _ | refine Sub.cons rfl ?_)) (by (try dsimp only); rw [hsn]; repeat (first | exact Pck.nil _ | exact Pck.refl _ | (apply Pck.cons; focus ((repeat (first | exact Rem.here _ | apply Rem.there)); done)) | refine Pck.skip _ ?_))
        · skip
          obtain rfl : t = (canTo ags used k ags.length).length := by omega
          rw [List.take_length]
          refine cod_exit ?_
          refine ex_then_exit ?_
          refine ex_then_exit ?_
          refine ex_block_exit ?_
          refine ex_block_normal ?_
          refine ex_then ?_
          refine cod_region ?_
          refine lst_int rfl rfl rfl (fun w => bin_add w (wrap_i64' _ (by omega) (by omega))) ?_
          refine lst_move rfl rfl ?_
          refine lst_nil ?_
          refine ex_round (k + 1) (by omega) (by (try dsimp only); omega) (by repeat (first | exact Sub.nil _ | refine Sub.cons rfl ?_)) (by repeat (first | exact List.Sublist.refl _ | exact List.nil_sublist _ | refine List.Sublist.cons_cons _ ?_ | refine List.Sublist.cons _ ?_))
      · skip
        obtain rfl : k = 64 := by omega
        refine cod_exit ?_
        refine ex_then_exit ?_
        refine ex_then_exit ?_
        refine ex_block_exit ?_
        refine ex_then ?_
        refine cod_seq ?_
        refine cod_seq ?_
        refine cod_region ?_
        refine lst_move rfl rfl ?_
        refine lst_nil ?_
        refine ex_then ?_
        refine cod_cond_bool rfl (fun hc4 => ?_) (fun hc4 => ?_)
        · skip
          have hjN' : j < N := by
            rcases Nat.lt_or_ge j N with h | h
            · exact h
            · obtain rfl : j = N := by omega
              rw [hN] at hc4; cases hc4
          refine cod_goto ?_
          refine ex_then_goto ?_
          exact ex_jump_goto (j + 1, b13) (by (try dsimp only); omega) (by repeat (first | exact Sub.nil _ | refine Sub.cons rfl ?_)) (by repeat (first | exact Pck.nil _ | exact Pck.refl _ | (apply Pck.cons; focus ((repeat (first | exact Rem.here _ | apply Rem.there)); done)) | refine Pck.skip _ ?_))
        · skip
          refine cod_skip ?_
          refine ex_then ?_
          refine cod_seq ?_
          refine cod_region ?_
          refine lst_move rfl rfl ?_
          refine lst_assign rfl rfl ?_
          refine lst_nil ?_
          refine ex_then ?_
          refine cod_ret ?_
          refine ex_jump_ret ?_
          exact ex_ret rfl (fun a w ha => res_one rfl rfl ha) (fun _ _ ha' => ⟨j, b13, hjN, hc4, rfl, ha.back (ha'.pck (by repeat (first | exact Pck.nil _ | exact Pck.refl _ | (apply Pck.cons; focus ((repeat (first | exact Rem.here _ | apply Rem.there)); done)) | refine Pck.skip _ ?_)))⟩)
  · skip
    rintro ⟨j, b13⟩ hjN
    dsimp only at hjN ⊢
    refine cod_seq ?_
    refine cod_skip ?_
    refine ex_then ?_
    refine cod_seq ?_
    refine cod_region ?_
    refine lst_assign rfl rfl ?_
    refine lst_nil ?_
    refine ex_then ?_
    refine cod_seq ?_
    refine cod_seq ?_
    refine cod_region ?_
    refine lst_move rfl rfl ?_
    refine lst_nil ?_
    refine ex_then ?_
    refine cod_block ?_
    refine cod_loop (G := Nat) (fun k => k ≤ 64) (fun k => 64 - k) (fun k => [(1, .int .u8 (p : Int)), (2, .pointer (some ⟨b2, 0, none⟩)), (5, .pointer (some ⟨b13, 0, none⟩)), (7, .bool (roundP ags used (iterP ags used p j) k).2), (28, .int .i64 (k : Int))]) (fun k => .blk b13 (.cells (mcells (.func (.func 116) #[] #[]) (roundP ags used (iterP ags used p j) k).1).toArray 99 (0, 0)) :: .blk b2 (.cells [.slice aA ags.length cg, .int .u8 (used : Int)].toArray 75 (0, 0)) :: T) 0 (Nat.zero_le _) (by repeat (first | exact Sub.nil _ | refine Sub.cons rfl ?_)) (by repeat (first | exact List.Sublist.refl _ | exact List.nil_sublist _ | refine List.Sublist.cons_cons _ ?_ | refine List.Sublist.cons _ ?_)) ?_
    intro k hk
    (try dsimp only at hk ⊢)
    refine cod_seq ?_
    refine cod_region ?_
    refine lst_int rfl rfl rfl bin_lss ?_
    refine lst_nil ?_
    refine ex_then ?_
    refine cod_seq ?_
    refine cod_cond_dec rfl (fun hc1 => ?_) (fun hc1 => ?_)
    · skip
      have hk64 : k < 64 := by omega
      refine cod_skip ?_
      refine ex_then ?_
      refine cod_seq ?_
      refine cod_block ?_
      refine cod_seq ?_
      refine cod_region ?_
      refine lst_move rfl rfl ?_
      refine lst_assign rfl rfl ?_
      refine lst_nil ?_
      refine ex_then ?_
      refine cod_seq ?_
      refine cod_region ?_
      refine lst_loadN rfl rfl F.agg75 F.ti75 ?_
      refine lst_move rfl rfl ?_
      refine lst_convert rfl rfl Tryd.underlying3 Tryd.underlying77 (wrap_u8 _ (by omega)) ?_
      refine lst_fn (X := Option Addr × Nat) (vs := [_, _]) (p := fun _ => True) (val := fun x => .slice x.1 (canTo ags used k ags.length).length x.2) (rs := fun x => [.row 3 1 x.1 (canTo ags used k ags.length).length x.2 (ints (canTo ags used k ags.length))]) rfl rfl F.ent89 (fun a w ha => (can_c aA cg ags used k hok hu (by omega) w (rd_now ha hB hRd)).mono (fun e w' h => by obtain ⟨A', c', h1, h2⟩ := h; exact ⟨(A', c'), trivial, h1, h2⟩)) ?_
      rintro ⟨cA, cc⟩ -
      dsimp only [List.cons_append, List.nil_append]
      refine lst_len rfl rfl Tryd.underlying25 ?_
      refine lst_move rfl rfl ?_
      refine lst_nil ?_
      refine ex_then ?_
      refine cod_block ?_
      refine cod_loop (G := Nat) (fun t => t ≤ (canTo ags used k ags.length).length) (fun t => (canTo ags used k ags.length).length - t) (fun t => [(1, .int .u8 (p : Int)), (2, .pointer (some ⟨b2, 0, none⟩)), (5, .pointer (some ⟨b13, 0, none⟩)), (7, .bool (relaxF ags k (roundP ags used (iterP ags used p j) k) ((canTo ags used k ags.length).take t)).2), (28, .int .i64 (k : Int)), (8, .int .i64 (k : Int)), (34, .slice cA (canTo ags used k ags.length).length cc), (35, .int .i64 ((canTo ags used k ags.length).length : Int)), (36, .int .i64 (t : Int))]) (fun t => .row 3 1 cA (canTo ags used k ags.length).length cc (ints (canTo ags used k ags.length)) :: .blk b13 (.cells (mcells (.func (.func 116) #[] #[]) (relaxF ags k (roundP ags used (iterP ags used p j) k) ((canTo ags used k ags.length).take t)).1).toArray 99 (0, 0)) :: .blk b2 (.cells [.slice aA ags.length cg, .int .u8 (used : Int)].toArray 75 (0, 0)) :: T) 0 (Nat.zero_le _) (by repeat (first | exact Sub.nil _ | refine Sub.cons rfl ?_)) (by repeat (first | exact List.Sublist.refl _ | exact List.nil_sublist _ | refine List.Sublist.cons_cons _ ?_ | refine List.Sublist.cons _ ?_)) ?_
      intro t ht
      (try dsimp only at hk ⊢)
      refine cod_seq ?_
      refine cod_region ?_
      refine lst_int rfl rfl rfl bin_lss ?_
      refine lst_nil ?_
      refine ex_then ?_
      refine cod_seq ?_
      refine cod_cond_dec rfl (fun hc2 => ?_) (fun hc2 => ?_)
      · skip
        have ht' : t < (canTo ags used k ags.length).length := by omega
        have hcl := canTo_len ags used k ags.length
        have hol := hok.1
        obtain ⟨i, hci⟩ : ∃ i, (canTo ags used k ags.length)[t]? = some i := ⟨_, List.getElem?_eq_getElem ht'⟩
        obtain ⟨hi', _, _⟩ := canTo_mem (List.mem_of_getElem? hci)
        obtain ⟨gA, hgA⟩ := hA0 (show 0 < ags.length by omega)
        subst hgA
        obtain ⟨x, hx⟩ : ∃ x, ags[i]? = some x := ⟨_, List.getElem?_eq_getElem hi'⟩
        have hxo : x.ok := hok.2 x (List.mem_of_getElem? hx)
        have hxd : ags.getD i default = x := by rw [List.getD_eq_getElem?_getD, hx]; rfl
        have hBd := Bd.at (used := used) (p := p) hok j k t (by omega)
        have hsn := relaxF_snoc (ags := ags) (f := k) (s := (roundP ags used (iterP ags used p j) k)) hci
        obtain ⟨ps, ch, hpc⟩ : ∃ ps ch, (relaxF ags k (roundP ags used (iterP ags used p j) k) ((canTo ags used k ags.length).take t)) = (ps, ch) := ⟨_, _, rfl⟩
        rw [hpc] at hBd hsn ⊢
        have hps : ps[k]? = some (ps.getD k default) := getD_some (by rw [hBd.1]; exact hk64)
        have hkl : k < ps.length := by rw [hBd.1]; exact hk64
        dsimp only
        refine cod_skip ?_
        refine ex_then ?_
        refine cod_seq ?_
        refine cod_block ?_
        refine cod_seq ?_
        refine cod_region ?_
        refine lst_index_row (j := t) rfl rfl rfl Tryd.underlying25 F.ti3 rfl ht' rfl rfl ?_
        intro gC hgC
        refine lst_load_row (v := .int .i64 (i : Int)) rfl rfl F.one3 hgC (ints_get hci) ?_
        refine lst_assign rfl rfl ?_
        refine lst_nil ?_
        refine ex_then ?_
        refine cod_seq ?_
        refine cod_region ?_
        refine lst_move rfl rfl ?_
        refine lst_field_z rfl rfl F.fi75_0 F.ti72 ?_
        refine lst_load rfl rfl F.one72 ?_
        refine lst_move rfl rfl ?_
        refine lst_index (j := i) rfl rfl rfl Tryd.underlying72 F.ti89 rfl hi' ?_
        refine lst_loadN_at (l := [.int .i64 (x.needs : Int), .int .i64 (x.no : Int), .int .i64 (x.takes : Int), .int .i64 (x.leaves : Int), .int .i64 (x.cost : Int)]) rfl rfl F.agg89 F.ti89 rfl (fun a w ha j u hu => rd_at ha hB hRd hx hu) ?_
        refine lst_move rfl rfl ?_
        refine lst_convert rfl rfl Tryd.underlying3 Tryd.underlying77 (wrap_u8 _ (by omega)) ?_
        refine lst_call (X := Unit) (first := []) (cap := []) (vs := [_, _, _]) (p := fun _ => True) (val := fun _ => .agg [.int .i64 ((afterP ps x k).cost : Int), .int .i64 ((afterP ps x k).puts : Int), .bool (afterP ps x k).known].toArray) (rs := fun _ => .blk b13 (.cells (mcells (.func (.func 116) #[] #[]) ps).toArray 99 (0, 0)) :: .row 3 1 cA (canTo ags used k ags.length).length cc (ints (canTo ags used k ags.length)) :: .blk b2 (.cells [.slice (some ⟨gA, 0, none⟩) ags.length cg, .int .u8 (used : Int)].toArray 75 (0, 0)) :: T) rfl rfl rfl F.ent90 (fun a w ha => (after_c (bm := b13) (x := x) (f := k) (T := .row 3 1 cA (canTo ags used k ags.length).length cc (ints (canTo ags used k ags.length)) :: .blk b2 (.cells [.slice (some ⟨gA, 0, none⟩) ags.length cg, .int .u8 (used : Int)].toArray 75 (0, 0)) :: T) rfl hxo hk64 hBd (by omega) (ha.pck (by repeat (first | exact Pck.nil _ | exact Pck.refl _ | (apply Pck.cons; focus ((repeat (first | exact Rem.here _ | apply Rem.there)); done)) | refine Pck.skip _ ?_)))).mono (fun e w' h => ⟨(), trivial, h.1, h.2⟩)) ?_
        rintro ⟨⟩ -
        dsimp only
        refine lst_alloc rfl F.ti95 ?_
        intro b11
        refine lst_store rfl rfl F.ti95 rfl ?_
        refine lst_nil ?_
        refine ex_then ?_
        refine cod_seq ?_
        refine any_begin [] F.follows 12 rfl [false, false, false, false, false, false, false, false, false, false, false, false] rfl ?_
        refine any_take (listed' := [true, false, false, false, false, false, false, false, false, false, false, false].toArray) 0 rfl rfl rfl (by kernel_rfl) (by kernel_rfl) (by kernel_rfl) (by repeat (first | exact List.Sublist.refl _ | exact List.nil_sublist _ | refine List.Sublist.cons_cons _ ?_ | refine List.Sublist.cons _ ?_)) (yld_move rfl) rfl ?_
        refine any_take (listed' := [true, true, false, false, false, false, false, false, false, false, false, false].toArray) 1 rfl rfl rfl (by kernel_rfl) (by kernel_rfl) (by kernel_rfl) (by repeat (first | exact List.Sublist.refl _ | exact List.nil_sublist _ | refine List.Sublist.cons_cons _ ?_ | refine List.Sublist.cons _ ?_)) (yld_nilCheck rfl) rfl ?_
        refine any_take (listed' := [true, true, true, false, false, false, false, false, false, false, false, false].toArray) 2 rfl rfl rfl (by kernel_rfl) (by kernel_rfl) (by kernel_rfl) (by repeat (first | exact List.Sublist.refl _ | exact List.nil_sublist _ | refine List.Sublist.cons_cons _ ?_ | refine List.Sublist.cons _ ?_)) (yld_field_z rfl F.fi99_0 F.ti96) rfl ?_
        refine any_take (listed' := [true, true, true, true, false, false, false, false, false, false, false, false].toArray) 3 rfl rfl rfl (by kernel_rfl) (by kernel_rfl) (by kernel_rfl) (by repeat (first | exact List.Sublist.refl _ | exact List.nil_sublist _ | refine List.Sublist.cons_cons _ ?_ | refine List.Sublist.cons _ ?_)) (yld_load_at rfl F.one96 (fun a w ha => cell_of_blk (ha.mem_blk (InB.mem (b := b13))) rfl)) rfl ?_
        refine any_take (listed' := [true, true, true, true, true, false, false, false, false, false, false, false].toArray) 4 rfl rfl rfl (by kernel_rfl) (by kernel_rfl) (by kernel_rfl) (by repeat (first | exact List.Sublist.refl _ | exact List.nil_sublist _ | refine List.Sublist.cons_cons _ ?_ | refine List.Sublist.cons _ ?_)) (yld_loadN rfl F.agg95 F.ti95) rfl ?_
        refine any_take (listed' := [true, true, true, true, true, true, false, false, false, false, false, false].toArray) 5 rfl rfl rfl (by kernel_rfl) (by kernel_rfl) (by kernel_rfl) (by repeat (first | exact List.Sublist.refl _ | exact List.nil_sublist _ | refine List.Sublist.cons_cons _ ?_ | refine List.Sublist.cons _ ?_)) (yld_move rfl) rfl ?_
        refine any_take (listed' := [true, true, true, true, true, true, true, false, false, false, false, false].toArray) 6 rfl rfl rfl (by kernel_rfl) (by kernel_rfl) (by kernel_rfl) (by repeat (first | exact List.Sublist.refl _ | exact List.nil_sublist _ | refine List.Sublist.cons_cons _ ?_ | refine List.Sublist.cons _ ?_)) (yld_move rfl) rfl ?_
        refine any_take (listed' := [true, true, true, true, true, true, true, true, false, false, false, false].toArray) 7 rfl rfl rfl (by kernel_rfl) (by kernel_rfl) (by kernel_rfl) (by repeat (first | exact List.Sublist.refl _ | exact List.nil_sublist _ | refine List.Sublist.cons_cons _ ?_ | refine List.Sublist.cons _ ?_)) (yld_nilCheck rfl) rfl ?_
        refine any_take (listed' := [true, true, true, true, true, true, true, true, true, false, false, false].toArray) 8 rfl rfl rfl (by kernel_rfl) (by kernel_rfl) (by kernel_rfl) (by repeat (first | exact List.Sublist.refl _ | exact List.nil_sublist _ | refine List.Sublist.cons_cons _ ?_ | refine List.Sublist.cons _ ?_)) (yld_field_z rfl F.fi99_1 F.ti97) rfl ?_
        refine any_take (listed' := [true, true, true, true, true, true, true, true, true, true, false, false].toArray) 9 rfl rfl rfl (by kernel_rfl) (by kernel_rfl) (by kernel_rfl) (by repeat (first | exact List.Sublist.refl _ | exact List.nil_sublist _ | refine List.Sublist.cons_cons _ ?_ | refine List.Sublist.cons _ ?_)) (yld_index_arr (j := k) rfl rfl Tryd.underlying97 F.ti95 rfl hk64) rfl ?_
        refine any_take (listed' := [true, true, true, true, true, true, true, true, true, true, true, false].toArray) 10 rfl rfl rfl (by kernel_rfl) (by kernel_rfl) (by kernel_rfl) (by repeat (first | exact List.Sublist.refl _ | exact List.nil_sublist _ | refine List.Sublist.cons_cons _ ?_ | refine List.Sublist.cons _ ?_)) (yld_loadN_at (l := [.int .i64 ((ps.getD k default).cost : Int), .int .i64 ((ps.getD k default).puts : Int), .bool (ps.getD k default).known]) rfl F.agg95 F.ti95 rfl (fun a w ha j u hu => cell_of_blk (ha.mem_blk (InB.mem (b := b13))) (mcells_get _ ps hps hu))) rfl ?_
        refine any_one (listed' := [true, true, true, true, true, true, true, true, true, true, true, true].toArray) 11 (by kernel_rfl) rfl rfl ?_
        refine lst_call (X := Unit) (first := []) (cap := []) (vs := [_, _]) (p := fun _ => True) (val := fun _ => .bool (lessP (afterP ps x k) (ps.getD k default))) (rs := fun _ => .blk b11 (.cells [.int .i64 ((afterP ps x k).cost : Int), .int .i64 ((afterP ps x k).puts : Int), .bool (afterP ps x k).known].toArray 95 (0, 0)) :: .blk b13 (.cells (mcells (.func (.func 116) #[] #[]) ps).toArray 99 (0, 0)) :: .row 3 1 cA (canTo ags used k ags.length).length cc (ints (canTo ags used k ags.length)) :: .blk b2 (.cells [.slice (some ⟨gA, 0, none⟩) ags.length cg, .int .u8 (used : Int)].toArray 75 (0, 0)) :: T) rfl rfl rfl F.ent116 (fun a w ha => (less_c (afterP ps x k) (ps.getD k default) w).mono (fun e w' h => by exact ⟨(), trivial, h.1, ha.more h.2⟩)) ?_
        rintro ⟨⟩ -
        dsimp only
        refine lst_nil ?_
        refine any_next (by repeat (first | exact List.Sublist.refl _ | exact List.nil_sublist _ | refine List.Sublist.cons_cons _ ?_ | refine List.Sublist.cons _ ?_)) ?_
        refine any_done rfl (by kernel_rfl) ?_
        refine ex_then ?_
        refine cod_cond_bool rfl (fun hc3 => ?_) (fun hc3 => ?_)
        · skip
          have hr : relax ags k (ps, ch) i = (ps.set k (afterP ps x k), true) := by unfold relax; rw [hxd]; exact if_pos hc3
          rw [hr] at hsn
          refine any_begin [.b b13] F.follows 8 rfl [false, false, false, false, false, false, false, false] rfl ?_
          refine any_take (listed' := [true, false, false, false, false, false, false, false].toArray) 0 rfl rfl rfl (by kernel_rfl) (by kernel_rfl) (by kernel_rfl) (by repeat (first | exact List.Sublist.refl _ | exact List.nil_sublist _ | refine List.Sublist.cons_cons _ ?_ | refine List.Sublist.cons _ ?_)) (yld_move rfl) rfl ?_
          refine any_take (listed' := [true, true, false, false, false, false, false, false].toArray) 1 rfl rfl rfl (by kernel_rfl) (by kernel_rfl) (by kernel_rfl) (by repeat (first | exact List.Sublist.refl _ | exact List.nil_sublist _ | refine List.Sublist.cons_cons _ ?_ | refine List.Sublist.cons _ ?_)) (yld_move rfl) rfl ?_
          refine any_take (listed' := [true, true, true, false, false, false, false, false].toArray) 2 rfl rfl rfl (by kernel_rfl) (by kernel_rfl) (by kernel_rfl) (by repeat (first | exact List.Sublist.refl _ | exact List.nil_sublist _ | refine List.Sublist.cons_cons _ ?_ | refine List.Sublist.cons _ ?_)) (yld_loadN rfl F.agg95 F.ti95) rfl ?_
          refine any_take (listed' := [true, true, true, true, false, false, false, false].toArray) 3 rfl rfl rfl (by kernel_rfl) (by kernel_rfl) (by kernel_rfl) (by repeat (first | exact List.Sublist.refl _ | exact List.nil_sublist _ | refine List.Sublist.cons_cons _ ?_ | refine List.Sublist.cons _ ?_)) (yld_nilCheck rfl) rfl ?_
          refine any_take (listed' := [true, true, true, true, true, false, false, false].toArray) 4 rfl rfl rfl (by kernel_rfl) (by kernel_rfl) (by kernel_rfl) (by repeat (first | exact List.Sublist.refl _ | exact List.nil_sublist _ | refine List.Sublist.cons_cons _ ?_ | refine List.Sublist.cons _ ?_)) (yld_field_z rfl F.fi99_1 F.ti97) rfl ?_
          refine any_take (listed' := [true, true, true, true, true, true, false, false].toArray) 5 rfl rfl rfl (by kernel_rfl) (by kernel_rfl) (by kernel_rfl) (by repeat (first | exact List.Sublist.refl _ | exact List.nil_sublist _ | refine List.Sublist.cons_cons _ ?_ | refine List.Sublist.cons _ ?_)) (yld_index_arr (j := k) rfl rfl Tryd.underlying97 F.ti95 rfl hk64) rfl ?_
          refine any_one (listed' := [true, true, true, true, true, true, true, false].toArray) 6 (by kernel_rfl) rfl rfl ?_
          refine lst_store (hs := mcells_splice (.func (.func 116) #[] #[]) ps hkl (afterP ps x k)) rfl rfl F.ti95 rfl ?_
          refine lst_nil ?_
          refine any_next (by repeat (first | exact List.Sublist.refl _ | exact List.nil_sublist _ | refine List.Sublist.cons_cons _ ?_ | refine List.Sublist.cons _ ?_)) ?_
          refine any_take (listed' := [true, true, true, true, true, true, true, true].toArray) 7 rfl rfl rfl (by kernel_rfl) (by kernel_rfl) (by kernel_rfl) (by repeat (first | exact List.Sublist.refl _ | exact List.nil_sublist _ | refine List.Sublist.cons_cons _ ?_ | refine List.Sublist.cons _ ?_)) (yld_assign rfl) rfl ?_
          refine any_done rfl (by kernel_rfl) ?_
          refine ex_block_normal ?_
          refine ex_then ?_
          refine cod_region ?_
          refine lst_int rfl rfl rfl (fun w => bin_add w (wrap_i64' _ (by omega) (by omega))) ?_
          refine lst_move rfl rfl ?_
          refine lst_nil ?_
          refine ex_round' (t + 1) (by omega) (by (try dsimp only); omega) (by (try dsimp only); rw [hsn]; repeat (first | exact Sub.nil _ | refine Sub.cons rfl ?_)) (by (try dsimp only); rw [hsn]; repeat (first | exact Pck.nil _ | exact Pck.refl _ | (apply Pck.cons; focus ((repeat (first | exact Rem.here _ | apply Rem.there)); done)) | refine Pck.skip _ ?_))
        · skip
          have hr : relax ags k (ps, ch) i = (ps, ch) := by unfold relax; rw [hxd]; exact if_neg (by rw [hc3]; exact Bool.false_ne_true)
          rw [hr] at hsn
          refine cod_skip ?_
          refine ex_block_normal ?_
          refine ex_then ?_
          refine cod_region ?_
          refine lst_int rfl rfl rfl (fun w => bin_add w (wrap_i64' _ (by omega) (by omega))) ?_
          refine lst_move rfl rfl ?_
          refine lst_nil ?_
          refine ex_round' (t + 1) (by omega) (by (try dsimp only); omega) (by (try dsimp only); rw [hsn]; repeat (first | exact Sub.nil _ | refine Sub.cons rfl ?_)) (by (try dsimp only); rw [hsn]; repeat (first | exact Pck.nil _ | exact Pck.refl _ | (apply Pck.cons; focus ((repeat (first | exact Rem.here _ | apply Rem.there)); done)) | refine Pck.skip _ ?_))
      · skip
        obtain rfl : t = (canTo ags used k ags.length).length := by omega
        rw [List.take_length]
        refine cod_exit ?_
        refine ex_then_exit ?_
        refine ex_then_exit ?_
        refine ex_block_exit ?_
        refine ex_block_normal ?_
        refine ex_then ?_
        refine cod_region ?_
        refine lst_int rfl rfl rfl (fun w => bin_add w (wrap_i64' _ (by omega) (by omega))) ?_
        refine lst_move rfl rfl ?_
        refine lst_nil ?_
        refine ex_round (k + 1) (by omega) (by (try dsimp only); omega) (by repeat (first | exact Sub.nil _ | refine Sub.cons rfl ?_)) (by repeat (first | exact List.Sublist.refl _ | exact List.nil_sublist _ | refine List.Sublist.cons_cons _ ?_ | refine List.Sublist.cons _ ?_))
    · skip
      obtain rfl : k = 64 := by omega
      refine cod_exit ?_
      refine ex_then_exit ?_
      refine ex_then_exit ?_
      refine ex_block_exit ?_
      refine ex_then ?_
      refine cod_seq ?_
      refine cod_seq ?_
      refine cod_region ?_
      refine lst_move rfl rfl ?_
      refine lst_nil ?_
      refine ex_then ?_
      refine cod_cond_bool rfl (fun hc4 => ?_) (fun hc4 => ?_)
      · skip
        have hjN' : j < N := by
          rcases Nat.lt_or_ge j N with h | h
          · exact h
          · obtain rfl : j = N := by omega
            rw [hN] at hc4; cases hc4
        refine cod_goto ?_
        refine ex_then_goto ?_
        exact ex_jump_again (j + 1, b13) (by (try dsimp only); omega) (by (try dsimp only); omega) (by repeat (first | exact Sub.nil _ | refine Sub.cons rfl ?_)) (by repeat (first | exact Pck.nil _ | exact Pck.refl _ | (apply Pck.cons; focus ((repeat (first | exact Rem.here _ | apply Rem.there)); done)) | refine Pck.skip _ ?_))
      · skip
        refine cod_skip ?_
        refine ex_then ?_
        refine cod_seq ?_
        refine cod_region ?_
        refine lst_move rfl rfl ?_
        refine lst_assign rfl rfl ?_
        refine lst_nil ?_
        refine ex_then ?_
        refine cod_ret ?_
        refine ex_jump_ret ?_
        exact ex_ret rfl (fun a w ha => res_one rfl rfl ha) (fun _ _ ha' => ⟨j, b13, hjN, hc4, rfl, ha.back (ha'.pck (by repeat (first | exact Pck.nil _ | exact Pck.refl _ | (apply Pck.cons; focus ((repeat (first | exact Rem.here _ | apply Rem.there)); done)) | refine Pck.skip _ ?_)))⟩)

theorem hopeful2_c {C : Ctx} {fr : List (Nat × Value)} {T : List Res} {a : Act} {w : World} (hC : C.P = Tryd.prog) {ags : List Ag} {used p cg : Nat} {aA : Option Addr} (hok : Oks ags) (hu : used < 256) (hp : p < 64) (hB : C.w0.heap.size = C.B) (hRd : RdL Ag.cells 5 C.w0 aA ags) (hA0 : 0 < ags.length → ∃ g, aA = some ⟨g, 0, none⟩) (ha : At C fr (T) a w) : Calls C.P 100 #[.agg [.slice aA ags.length cg, .int .u8 (used : Int)].toArray, .int .u8 (p : Int)] w fun e w' => ∃ n, SetN n (Clr ags used p) ∧ e = .returned (.int .u64 (n : Int)) ∧ At C fr T a w' := by
  obtain ⟨P, B, w0, N0, ds⟩ := C
  obtain rfl : P = Tryd.prog := hC
  (try dsimp only at hB)
  (try dsimp only at hN)
  refine enter_in (N := 26) [(0, .agg [.slice aA ags.length cg, .int .u8 (used : Int)].toArray), (1, .int .u8 (p : Int))] ha Tryd.func100 rfl Tryd.ntmps100 rfl rfl ?_
  refine cod_seq ?_
  refine cod_region ?_
  refine lst_box rfl rfl ?_
  intro b2
  refine lst_assign rfl rfl ?_
  refine lst_nil ?_
  refine ex_then ?_
  refine cod_seq ?_
  refine cod_region ?_
  refine lst_assign rfl rfl ?_
  refine lst_nil ?_
  refine ex_then ?_
  refine cod_seq ?_
  refine cod_seq ?_
  refine cod_region ?_
  refine lst_loadN rfl rfl F.agg75 F.ti75 ?_
  refine lst_move rfl rfl ?_
  refine lst_call (X := Nat × Nat) (first := []) (cap := []) (vs := [_, _]) (p := fun y => (roundP ags used (iterP ags used p y.1) 64).2 = false) (val := fun y => .pointer (some ⟨y.2, 0, none⟩)) (rs := fun y => .blk y.2 (.cells (mcells (.func (.func 116) #[] #[]) (iterP ags used p (y.1 + 1))).toArray 99 (0, 0)) :: .blk b2 (.cells [.slice aA ags.length cg, .int .u8 (used : Int)].toArray 75 (0, 0)) :: T) rfl rfl rfl F.ent88 (fun a w ha => by
    obtain ⟨N, h64, hN⟩ := fix_all (ags := ags) (used := used) (p := p) hok
    exact (prices2_c rfl hok hu hp h64 hN (by exact hB) (by exact hRd) hA0 ha).mono (fun e w' h => by obtain ⟨j, b, h1, h2, h3, h4⟩ := h; exact ⟨(j, b), h2, h3, h4⟩)) ?_
  rintro ⟨j, bm⟩ hfx
  dsimp only at hfx ⊢
  have hsame : iterP ags used p (j + 1) = iterP ags used p j := (round_ch 64 hfx).1
  rw [hsame]
  have hBd := Bd.iter (used := used) (p := p) hok j
  have hkn : ∀ f, f < 64 → (((iterP ags used p j).getD f default).known = true ↔ Clr ags used p f) := fun f hf => known_clr hok hfx hf
  obtain ⟨ps, hpsd⟩ : ∃ ps, iterP ags used p j = ps := ⟨_, rfl⟩
  rw [hpsd] at hBd hkn hfx ⊢
  refine lst_nilCheck rfl rfl ?_
  refine lst_field_z rfl rfl F.fi99_1 F.ti97 ?_
  refine lst_loadN_at (l := ps.flatMap Pr.cells) rfl rfl F.agg97 F.ti97 (by have := mcells_len (.func (.func 116) #[] #[]) ps; rw [hBd.1] at this; simp [mcells] at this; simpa using this) (fun a w ha j u hu => cell_of_blk (ha.mem_blk (InB.mem (b := bm))) (by rw [Nat.add_comm 1 j]; exact hu)) ?_
  refine lst_move rfl rfl ?_
  refine lst_nil ?_
  refine ex_then ?_
  refine cod_block ?_
  refine cod_loop' (G := Nat × Nat) (fun g => g.1 ≤ 64 ∧ g.2 < 18446744073709551616 ∧ ∀ f, f < 64 → (g.2.testBit f = true ↔ f < g.1 ∧ Clr ags used p f)) (fun g => 64 - g.1) (fun g => [(1, .int .u8 (p : Int)), (5, .int .u64 (g.2 : Int)), (13, .agg (ps.flatMap Pr.cells).toArray), (14, .int .i64 (g.1 : Int))]) (fun g => T) (0, 0) ⟨Nat.zero_le _, by decide, fun f _ => ⟨fun h => by simp at h, fun h => absurd h.1 (by omega)⟩⟩ (by repeat (first | exact Sub.nil _ | refine Sub.cons rfl ?_)) (by repeat (first | exact Pck.nil _ | exact Pck.refl _ | (apply Pck.cons; focus ((repeat (first | exact Rem.here _ | apply Rem.there)); done)) | refine Pck.skip _ ?_)) ?_
  rintro ⟨k, n⟩ ⟨hk64, hn, hI⟩
  dsimp only at hk64 hn hI ⊢
  refine cod_seq ?_
  refine cod_region ?_
  refine lst_int rfl rfl rfl bin_lss ?_
  refine lst_nil ?_
  refine ex_then ?_
  refine cod_seq ?_
  refine cod_cond_dec rfl (fun hc0 => ?_) (fun hc0 => ?_)
  · skip
    have hk' : k < 64 := by omega
    refine cod_skip ?_
    refine ex_then ?_
    refine cod_seq ?_
    refine cod_block ?_
    refine cod_seq ?_
    refine cod_region ?_
    refine lst_move rfl rfl ?_
    refine lst_index_v (j := k) (l := [.int .i64 ((ps.getD k default).cost : Int), .int .i64 ((ps.getD k default).puts : Int), .bool (ps.getD k default).known]) rfl rfl rfl Tryd.underlying97 F.agg95 F.ti95 rfl hk' (drop_pr ps k (by rw [hBd.1]; exact hk')) ?_
    refine lst_alloc rfl F.ti95 ?_
    intro b7
    refine lst_assign rfl rfl ?_
    refine lst_store rfl rfl F.ti95 rfl ?_
    refine lst_nil ?_
    refine ex_then ?_
    refine cod_seq ?_
    refine cod_region ?_
    refine lst_field_z rfl rfl F.fi95_2 F.ti4 ?_
    refine lst_load rfl rfl F.one4 ?_
    refine lst_nil ?_
    refine ex_then ?_
    refine cod_cond_bool rfl (fun hc1 => ?_) (fun hc1 => ?_)
    · skip
      refine cod_region ?_
      refine lst_move rfl rfl ?_
      refine lst_move rfl rfl ?_
      refine lst_convert rfl rfl Tryd.underlying3 Tryd.underlying77 (wrap_u8 _ (by omega)) ?_
      refine lst_fn0 (vs := [_, _]) rfl rfl F.ent121 (fun a w ha => mwith_c n k hn hk' w) ?_
      refine lst_assign rfl rfl ?_
      refine lst_nil ?_
      refine ex_block_normal ?_
      refine ex_then ?_
      refine cod_region ?_
      refine lst_int rfl rfl rfl (fun w => bin_add w (wrap_i64' _ (by omega) (by omega))) ?_
      refine lst_move rfl rfl ?_
      refine lst_nil ?_
      refine ex_round' (k + 1, n ||| 1 <<< k) ⟨by omega, or_one_lt hn hk', fun f hf => ?_⟩ (by (try dsimp only); omega) (by repeat (first | exact Sub.nil _ | refine Sub.cons rfl ?_)) (by repeat (first | exact Pck.nil _ | exact Pck.refl _ | (apply Pck.cons; focus ((repeat (first | exact Rem.here _ | apply Rem.there)); done)) | refine Pck.skip _ ?_))
      rw [testBit_or_one, Bool.or_eq_true, decide_eq_true_eq, hI f hf]
      have := (hkn k hk').1 hc1
      constructor
      · rintro (h | h)
        · exact ⟨by omega, h.2⟩
        · subst h; exact ⟨by omega, this⟩
      · rintro ⟨h1, h2⟩
        rcases Nat.lt_or_ge f k with h | h
        · exact .inl ⟨h, h2⟩
        · exact .inr (by omega)
    · skip
      refine cod_skip ?_
      refine ex_block_normal ?_
      refine ex_then ?_
      refine cod_region ?_
      refine lst_int rfl rfl rfl (fun w => bin_add w (wrap_i64' _ (by omega) (by omega))) ?_
      refine lst_move rfl rfl ?_
      refine lst_nil ?_
      refine ex_round' (k + 1, n) ⟨by omega, hn, fun f hf => ?_⟩ (by (try dsimp only); omega) (by repeat (first | exact Sub.nil _ | refine Sub.cons rfl ?_)) (by repeat (first | exact Pck.nil _ | exact Pck.refl _ | (apply Pck.cons; focus ((repeat (first | exact Rem.here _ | apply Rem.there)); done)) | refine Pck.skip _ ?_))
      rw [hI f hf]
      have hno : ¬ Clr ags used p k := fun h => by have := (hkn k hk').2 h; rw [hc1] at this; cases this
      constructor
      · rintro ⟨h1, h2⟩
        exact ⟨by omega, h2⟩
      · rintro ⟨h1, h2⟩
        rcases Nat.lt_or_ge f k with h | h
        · exact ⟨h, h2⟩
        · obtain rfl : f = k := by omega
          exact absurd h2 hno
  · skip
    refine cod_exit ?_
    refine ex_then_exit ?_
    refine ex_then_exit ?_
    refine ex_block_exit ?_
    refine ex_then ?_
    refine cod_seq ?_
    refine cod_region ?_
    refine lst_move rfl rfl ?_
    refine lst_assign rfl rfl ?_
    refine lst_nil ?_
    refine ex_then ?_
    refine cod_ret ?_
    obtain rfl : k = 64 := by omega
    exact ex_ret rfl (fun a w ha => res_one rfl rfl ha) (fun _ _ ha' => ⟨n, ⟨hn, fun f hf => (hI f hf).trans ⟨fun h => h.2, fun h => ⟨hf, h⟩⟩⟩, rfl, ha.back (ha'.pck (by repeat (first | exact Pck.nil _ | exact Pck.refl _ | (apply Pck.cons; focus ((repeat (first | exact Rem.here _ | apply Rem.there)); done)) | refine Pck.skip _ ?_)))⟩)

end Go.Proofs.YtofkhehcnfiopaaDoor.N
namespace Go.Proofs.YtofkhehcnfiopaaDoor.N
open Go Go.RowKit Go.Proofs
theorem caught_retIn (p : Option Addr) (w : World) : CallsDIn Fence.wide 0 Tryd.prog 74 #[.pointer p] .returning w fun e u w' => e = .returned (.tuple #[]) ∧ u = .returning ∧ w' = w := by
  refine callsDIn_of_wpSIn Tryd.func74 rfl trivial fun c₀ cs hu => ?_
  apply wpSIn_seq
  apply wpSIn_region
  simp [wpOpsSIn, go_sem, recoverD, hu, Tryd.ntmps74, Exit.thenS, Instr.typeAssert, Fence.wide, Oper.about]
  apply wpSIn_seq
  apply wpSIn_region
  simp [wpOpsSIn, go_sem, Exit.thenS, Fence.wide, Oper.about]
  refine wpSIn_cond (t := false) (by simp [Act.eval, Array.replicate]) ?_
  refine wpSIn_of_wpIn rfl (wpIn_skip ?_)
  simp only [bodyPostS]
  exact ⟨trivial, .returning, by rw [← hu], .tuple #[], by simp [results, Tryd.f74], by simp⟩
section
variable {C : Ctx} {fr : List (Nat × Value)} {hp hp' : List Res} {a : Act} {w : World} {Q : Exit → Act → World → Prop} {r : Nat}
/-- The statement, in terms of what is the call's own. -/
theorem cod_range2 {g : Operand} {ps : Array Tmp} {assign body : Code} {gf : FuncId} {lb : List Value} (hg : ev fr g = some (.func (.func gf) #[] lb.toArray)) (he : Enters C.P gf)
    (h : ∀ a w, At C fr hp a w → ∀ (r D : Nat) (rec : Loop) (W1 : World), rec.state = .ready → rec.pending = none → rec.tmps = a.tmps → rec.params = ps → rec.assign = assign → rec.body = body →
      r < W1.heap.size → D < W1.heap.size → At C fr (.blk r (.loop rec) :: .blk D (.deferred (some [])) :: hp) a W1 →
      Calls C.P gf (#[.func (.yield r) #[] #[]] ++ lb.toArray) W1 fun e w3 => (∃ v, e = .returned v) ∧ ∃ st pe, st ≠ .busy ∧ w3.heap[r]? = some (.loop { rec with state := st, pending := pe }) ∧
        (pe = none ∧ Q .normal { a with defers := { target := .collected D, args := #[] } :: a.defers } (w3.putObj r (.loop { rec with state := .exhausted, pending := pe })) ∨
         pe = some .ret ∧ Q .ret { a with defers := { target := .collected D, args := #[] } :: a.defers } (w3.putObj r (.loop { rec with state := .exhausted, pending := pe })))) :
    Cod C (.rangeFunc g ps assign body) Q fr hp := by
  refine cod_range hg he fun a w ha fn => ?_
  have h1 := (ha.alloc (.deferred (some []))).alloc (.loop (recOf fn a ps assign body w.heap.size .ready none))
  have h2 : (w.alloc (.deferred (some []))).heap.size = w.heap.size + 1 := by simp
  rw [h2] at h1
  have h3 := h a w ha (w.heap.size + 1) w.heap.size (recOf fn a ps assign body w.heap.size .ready none) _ rfl rfl rfl rfl rfl rfl (by simp) (by simp; omega) h1
  exact h3.mono fun e w3 hh => hh
theorem Mem.later {w' : World} (h : Mem C hp w) (hb : Below w.heap.size w w') : Mem C hp w' :=
  ⟨h.1.trans (hb.mono h.2.1), Nat.le_trans h.2.1 hb.size, fun r hr => Res.keep (h.2.2.1 r hr) (fun k hk => hb.block k (Res.lt (h.2.2.1 r hr) k hk).2), h.2.2.2⟩
theorem At.mem (ha : At C fr hp a w) : Mem C hp w := ha.toMem (List.Sublist.refl _)
/-- All that lies from H on. -/
def upRes (H : Nat) (W : World) : List Res := (List.range' H (W.heap.size - H)).map fun b => .blk b (W.heap.getD b default)
theorem upRes_ids (H : Nat) (W : World) : (upRes H W).filterMap Res.id = List.range' H (W.heap.size - H) := by
  unfold upRes
  rw [List.filterMap_map]
  rw [show (Res.id ∘ fun b => Res.blk b (W.heap.getD b default)) = some from rfl, List.filterMap_some]
theorem At.withUp {H : Nat} (ha : At C fr hp a w) (hH : C.B ≤ H) (hlt : ∀ k, k ∈ hp.filterMap Res.id → k < H) : At C fr (hp ++ upRes H w) a w := by
  refine ⟨ha.size, ha.defs, ha.slots, ha.below, ha.base, ?_, ?_⟩
  · intro r hr
    rcases List.mem_append.1 hr with h1 | h1
    · exact ha.own r h1
    · obtain ⟨b, hb, rfl⟩ := List.mem_map.1 h1
      have := List.mem_range'_1.1 hb
      refine ⟨by omega, ?_⟩
      rw [Array.getElem?_eq_getElem (by omega)]
      simp [Array.getD, show b < w.heap.size by omega]
  · rw [List.filterMap_append, List.nodup_append, upRes_ids]
    refine ⟨ha.apart, List.nodup_range', ?_⟩
    intro x hx y hy e
    subst e
    have h1 := hlt x hx
    have h2 := List.mem_range'_1.1 hy
    omega
theorem keepUp_of {H : Nat} {W : World} (ha : At C fr hp a w) (hs : ∀ r ∈ upRes H W, r ∈ hp) : KeepUp H W w := by
  refine ⟨trivial, fun b h1 h2 => ?_⟩
  have hm : Res.blk b (W.heap.getD b default) ∈ upRes H W := List.mem_map.2 ⟨b, List.mem_range'_1.2 ⟨h1, by omega⟩, rfl⟩
  rw [ha.mem_blk (hs _ hm), Array.getElem?_eq_getElem h2]
  simp [Array.getD, h2]
theorem KeepUp.sub {H : Nat} {W W2 w' : World} (hs : W.heap.size ≤ W2.heap.size) (h2 : ∀ b, H ≤ b → b < W.heap.size → W2.heap[b]? = W.heap[b]?) (h : KeepUp H W2 w') : KeepUp H W w' :=
  ⟨trivial, fun b h1 hb => (h.2 b h1 (by omega)).trans (h2 b h1 hb)⟩
theorem codR_of_eq {c c' : Code} (h : c = c') (k : CodR C r c' Q fr hp) : CodR C r c Q fr hp := h ▸ k
/-- The slots of a round. -/
theorem slots_round {N d : Nat} {v : Value} {tmps : Array Value} (ha : At C fr hp a w) (ht : tmps = a.tmps) (hN : C.N = N) (hd : Nat.blt d N = true) (W : World) :
    At ⟨C.P, W.heap.size, W, N, []⟩ ((d, v) :: fr) [] { tmps := (#[d].zip [v].toArray).foldl (fun t (x : Tmp × Value) => t.setIfInBounds x.1 x.2) tmps, defers := [] } W := by
  subst ht; subst hN
  have h0 : At ⟨C.P, W.heap.size, W, C.N, []⟩ fr [] { tmps := a.tmps, defers := [] } W := ⟨ha.size, rfl, ha.slots, Below.refl _ _, Nat.le_refl _, (fun r hr => by cases hr), List.nodup_nil⟩
  have e : (#[d].zip [v].toArray).foldl (fun t (x : Tmp × Value) => t.setIfInBounds x.1 x.2) a.tmps = a.tmps.setIfInBounds d v := by simp
  rw [e]
  exact h0.put (lt_of_blt hd) v
/-- .. of what is walked there on the wider ground. -/
theorem At.noDefers {P : Program} {B N : Nat} {w0 : World} {ds : List Deferred} (ha : At ⟨P, B, w0, N, ds⟩ fr hp a w) : At ⟨P, B, w0, N, []⟩ fr hp { a with defers := [] } w :=
  ⟨ha.size, rfl, ha.slots, ha.below, ha.base, ha.own, ha.apart⟩
theorem At.putRec {rec rec' : Loop} (ha : At C fr (.blk r (.loop rec) :: hp) a w) : At C fr (.blk r (.loop rec') :: hp) a (w.putObj r (.loop rec')) := by
  have hb := ha.own _ (List.mem_cons_self ..)
  refine ha.turn (Upd.head hp) ⟨rfl, rfl, rfl, by simp, fun k _ hk => World.putObj_heap_other (fun e => hk (by rw [e]; rfl))⟩ ⟨hb.1, ?_⟩ (fun k hk => .inl hk)
  exact World.putObj_heap_same (Array.getElem?_eq_some_iff.1 hb.2).1
theorem res_cc {fn : Func} {t u : Nat} {ty ct ty' ct' : TypeId} {x y : Value} {b b' : Nat} (h : fn.results = #[.cell t ty, .cell u ty']) (ht : look fr t = some (.pointer (some ⟨b, 0, none⟩))) (hu : look fr u = some (.pointer (some ⟨b', 0, none⟩))) (h1 : One C.P ty) (h2 : One C.P ty')
    [hm : InB b (.cells [x].toArray ct (0, 0)) hp] [hm' : InB b' (.cells [y].toArray ct' (0, 0)) hp] (ha : At C fr hp a w) : (results fn a.tmps).run C.P w = .ok (.tuple #[x, y]) w := by
  have e1 := ha.slots t _ ht
  have e2 := ha.slots u _ hu
  have c1 : w.cell? ⟨b, 0, none⟩ = some x := cell_of_blk (ha.mem_blk hm.mem) rfl
  have c2 : w.cell? ⟨b', 0, none⟩ = some y := cell_of_blk (ha.mem_blk hm'.mem) rfl
  have l1 : (loadVar ty ⟨b, 0, none⟩).run C.P w = .ok x w := by simp [loadVar, run_isAgg h1.1 h1.2, c1]
  have l2 : (loadVar ty' ⟨b', 0, none⟩).run C.P w = .ok y w := by simp [loadVar, run_isAgg h2.1 h2.2, c2]
  simp only [results, h, Array.getD_eq_getD_getElem?] at e1 e2 ⊢
  simp [e1, e2, run_asAddr, l1, l2]
/-- The end of a function that was left out of a round. -/
theorem marks_ret {B N D b : Nat} {w0 : World} {fn : Func} {R : Ending → World → Prop} {rec : Loop} {hp : List Res} {tmps : Array Value} {w : World} (hm : Mem ⟨Tryd.prog, B, w0, N, [caughtD b]⟩ (.blk r (.loop rec) :: .blk D (.deferred (some [])) :: hp) w) (rec' : Loop)
    (k : ∀ w', Mem ⟨Tryd.prog, B, w0, N, [caughtD b]⟩ hp w' → ∃ v, (results fn tmps).run Tryd.prog w' = .ok v w' ∧ R (.returned v) w') :
    LeavesInM Fence.wide 0 Tryd.prog fn tmps R [{ target := .collected D, args := #[] }, caughtD b] .returning (w.putObj r (.loop rec')) := by
  have at0 : At ⟨Tryd.prog, B, w0, 0, []⟩ [] (.blk r (.loop rec) :: .blk D (.deferred (some [])) :: hp) ⟨#[], []⟩ w := ⟨rfl, rfl, (fun t v h => (by cases h)), hm.1, hm.2.1, hm.2.2.1, hm.2.2.2⟩
  have at1 := (at0.putRec (rec' := rec')).permed (List.Perm.swap _ _ _)
  have hD := (at1.own _ (List.mem_cons_self ..)).2
  have at2 : At ⟨Tryd.prog, B, w0, 0, []⟩ [] (.blk D (.deferred none) :: .blk r (.loop rec') :: hp) ⟨#[], []⟩ ((w.putObj r (.loop rec')).putObj D (.deferred none)) := by
    refine at1.turn (Upd.head _) ⟨rfl, rfl, rfl, by simp, fun k _ hk => World.putObj_heap_other (fun e => hk (by rw [e]; rfl))⟩ ⟨(at1.own _ (List.mem_cons_self ..)).1, ?_⟩ (fun k hk => .inl hk)
    exact World.putObj_heap_same (Array.getElem?_eq_some_iff.1 hD).1
  have at3 := at2.drop_res ((List.Sublist.cons _ (List.Sublist.cons _ (List.Sublist.refl hp))))
  obtain ⟨v, h1, h2⟩ := k _ ⟨at3.below, at3.base, at3.own, at3.apart⟩
  refine ⟨by simp, .inl ⟨D, _, rfl, run_takeDeferred hD, by simp, .inr ⟨fun hd => by simp [Fence.wide] at hd, _, _, 74, _, rfl, caught_enters b _, fun _ _ => trivial, (caught_retIn _ _).mono ?_⟩⟩⟩
  rintro e u w' ⟨rfl, rfl, rfl⟩
  exact ⟨v, h1, h2⟩
end
end Go.Proofs.YtofkhehcnfiopaaDoor.N
namespace Go.Proofs.YtofkhehcnfiopaaDoor.N
open Go Go.RowKit Go.Proofs
theorem F.ent108 : Enters Tryd.prog 108 := enters_of Tryd.func108 rfl (by kernel_rfl)
theorem F.ent109 : Enters Tryd.prog 109 := enters_of Tryd.func109 rfl (by kernel_rfl)
theorem F.ent125 : Enters Tryd.prog 125 := enters_of Tryd.func125 rfl (by kernel_rfl)
theorem F.one116 : One Tryd.prog 116 := ⟨by unfold aggB; rw [Tryd.underlying116], by rw [Tryd.underlying116]; simp⟩
theorem F.ti116 : TI Tryd.prog 116 (.int .u64 0) 1 8 := TI.of (by kernel_rfl)
theorem Fewest_ok (A : Option Addr) (c : Nat) (ags : List Ag) (hok : Oks ags) (p : Nat) (hp : p < 64) (w : World) (hA : RdL Ag.cells 5 w A ags) : Calls Tryd.prog 67 #[.slice A ags.length c, .int .i64 (p : Int)] w fun e w' => ∃ (W : List Nat) (A' : Option Addr) (c' : Nat), FewS ags.length (asAll ags p) W ∧ SetOk ags.length W ∧ e = .returned (.tuple #[.slice A' W.length c', .int .i64 0]) ∧ Grew w w' [.row 3 1 A' W.length c' (ints W)] := by
  have hua : usedAll ags.length < 256 := by have := usedAll_lt hok.1; omega
  refine enter_marks (N := 50) [(0, .slice A ags.length c), (1, .int .i64 (p : Int))] Tryd.func67 rfl Tryd.ntmps67 rfl rfl ?_
  refine cod_seq ?_
  refine cod_region ?_
  refine lst_alloc rfl F.ti25 ?_
  intro b4
  refine lst_alloc rfl F.ti35 ?_
  intro b5
  refine lst_nil ?_
  refine ex_then ?_
  refine cod_seq ?_
  refine cod_region ?_
  refine lst_defer (first := []) (cap := []) (vs := [_]) rfl rfl ?_
  refine lst_nil ?_
  refine ex_then ?_
  refine cod_seq ?_
  refine cod_region ?_
  refine lst_move rfl rfl ?_
  refine lst_fn (X := Option Addr × Nat) (vs := [_]) (p := fun _ => True) (val := fun x => .agg [.slice x.1 ags.length x.2, .int .u8 (usedAll ags.length : Nat)].toArray) (rs := fun x => [.row 89 5 x.1 ags.length x.2 (ags.flatMap Ag.cells)]) rfl rfl F.ent75 (fun a w ha => (begin_ok A c ags hok w (hA.later ha.below)).mono (fun e w' h => by obtain ⟨A', c', h1, h2⟩ := h; exact ⟨(A', c'), trivial, h1, h2⟩)) ?_
  rintro ⟨aA, cg⟩ -
  dsimp only [List.cons_append, List.nil_append]
  refine lst_alloc rfl F.ti75 ?_
  intro b6
  refine lst_store rfl rfl F.ti75 rfl ?_
  refine lst_nil ?_
  refine ex_then ?_
  refine cod_seq ?_
  refine cod_region ?_
  refine lst_move rfl rfl ?_
  refine lst_fn0 (vs := [_]) rfl rfl F.ent76 (fun a w ha => melt_ok p hp w) ?_
  refine lst_alloc rfl F.ti77 ?_
  intro b7
  refine lst_store rfl rfl F.ti77 rfl ?_
  refine lst_nil ?_
  refine ex_then ?_
  refine cod_seq ?_
  refine cod_region ?_
  refine lst_loadN rfl rfl F.agg75 F.ti75 ?_
  refine lst_load rfl rfl F.one77 ?_
  refine lst_call (X := Nat) (first := []) (cap := []) (vs := [_, _]) (p := fun n => SetN n (Clr ags (usedAll ags.length) p)) (val := fun n => .int .u64 (n : Int)) (rs := fun _ => .blk b7 (.cells [.int .u8 (p : Int)].toArray 77 (0, 0)) :: .blk b6 (.cells [.slice aA ags.length cg, .int .u8 (usedAll ags.length : Nat)].toArray 75 (0, 0)) :: .row 89 5 aA ags.length cg (ags.flatMap Ag.cells) :: .blk b5 (.cells [.int .i64 0].toArray 35 (0, 0)) :: [.blk b4 (.cells [.slice none 0 0].toArray 25 (0, 0))]) rfl rfl rfl F.ent100 (fun a w ha => (hopeful_c rfl hok hua hp (by simp) ha).mono (fun e w' h => by obtain ⟨n, h1, h2, h3⟩ := h; exact ⟨n, h1, h2, h3⟩)) ?_
  rintro due hdue
  dsimp only
  refine lst_alloc rfl F.ti116 ?_
  intro b8
  refine lst_store rfl rfl F.ti116 rfl ?_
  refine lst_nil ?_
  refine ex_then ?_
  refine cod_seq ?_
  refine cod_seq ?_
  refine cod_region ?_
  refine lst_field_z rfl rfl F.fi75_0 F.ti72 ?_
  refine lst_load rfl rfl F.one72 ?_
  refine lst_len rfl rfl Tryd.underlying72 ?_
  refine lst_fn (X := Nat) (vs := [_]) (p := fun _ => True) (val := fun b => .func (.func 125) ([] : List Value).toArray [.pointer (some ⟨b, 0, none⟩)].toArray) (rs := fun b => [.blk b (.cells [.int .i64 (ags.length : Int)].toArray 3 (0, 0))]) rfl rfl F.ent108 (fun a w ha => (sets_c ags.length w).mono (fun e w' h => by obtain ⟨b, h1, h2⟩ := h; exact ⟨b, trivial, h1, h2⟩)) ?_
  rintro nb -
  dsimp only [List.cons_append, List.nil_append]
  refine lst_nil ?_
  refine ex_then ?_
  refine cod_block ?_
  refine cod_range2 (lb := [.pointer (some ⟨nb, 0, none⟩)]) rfl F.ent125 (fun a0 w0 ha0 r D rec W1 hst hpe htm hps has hbo hr1 hD1 hR => ?_)
  have hn4 := hok.1
  refine (it_c ags.length r nb (asAll ags p) (fun v w' => ∃ A' c', Mem ⟨Tryd.prog, w.heap.size, w, 50, [caughtD b5]⟩ (.blk r (.loop { rec with state := .done, pending := some .ret }) :: .blk D (.deferred (some [])) :: .blk b4 (.cells [.slice A' v.length c'].toArray 25 (0, 0)) :: .blk b5 (.cells [.int .i64 0].toArray 35 (0, 0)) :: [.row 3 1 A' v.length c' (ints v)]) w') hn4 ?_ W1 ?_ ?_).mono ?_
  · rintro v W W' ⟨A', c', hm⟩ hb
    exact ⟨A', c', hm.later hb⟩
  · exact cell_of_blk (hR.mem_blk (InB.mem (b := nb))) rfl
  · intro v W hv hbel hsz
    have hat := hR.later hbel
    have hm16 : maskL v < 16 := hv.mask hn4
    refine yield_body (rec := rec) (N := 50) (vs := [.int .u8 (maskL v : Nat)]) (frY := (23, .int .u8 (maskL v : Nat)) :: _) (frB := [(9, .int .u8 (maskL v : Nat)), (4, .pointer (some ⟨b4, 0, none⟩)), (5, .pointer (some ⟨b5, 0, none⟩)), (6, .pointer (some ⟨b6, 0, none⟩)), (7, .pointer (some ⟨b7, 0, none⟩)), (8, .pointer (some ⟨b8, 0, none⟩))]) ((hat.own _ (List.mem_cons_self ..)).2) hst (by rw [hps]; rfl) (by rw [hps]; exact slots_round hat htm rfl rfl W) ?_ ?_
    · intro K hK
      rw [has]
      refine codR_region (fun _ _ h => h) (by rfl) ?_
      refine lst_assign rfl rfl ?_
      refine lst_nil ?_
      exact fun a w ha => hK a w (ha.drop_slots (by repeat (first | exact Sub.nil _ | refine Sub.cons rfl ?_)))
    · intro w1 hw1 hs1
      obtain ⟨rb, hrb⟩ : ∃ rb : Loop, rb = { rec with state := .busy } := ⟨_, rfl⟩
      rw [← hrb]
      refine codR_of_eq hbo ?_
      have hat2 := (hat.later hw1).putRec (rec' := rb)
      have hat3 := hat2.noDefers.withUp (H := W1.heap.size) hR.base (fun k hk => (hR.ids_lt k hk).2)
      have hszW : (w1.putObj r (.loop rb)).heap.size = w1.heap.size := by simp
      have h6 := hat2.mem_blk (InB.mem (b := b6))
      have h7 := cell_of_blk (o := 0) (hat2.mem_blk (InB.mem (b := b7))) rfl
      have h8 := cell_of_blk (o := 0) (hat2.mem_blk (InB.mem (b := b8))) rfl
      have hRd : RdL Ag.cells 5 (w1.putObj r (.loop rb)) aA ags := row_reads hat2 (cells := Ag.cells) (e := 89) (c := cg) (n := ags.length) (fun _ => rfl) (InR.mem (A := aA)) rfl
      have hA0 : 0 < ags.length → ∃ g, aA = some ⟨g, 0, none⟩ := fun h => row_some (hat2.own _ (InR.mem (A := aA))) h
      refine codR_block ?_
      refine codR_seq ?_
      refine codR_region (fun _ _ h => h) (by rfl) ?_
      refine lst_loadN_at (l := [.slice aA ags.length cg, .int .u8 (usedAll ags.length : Nat)]) rfl rfl F.agg75 F.ti75 rfl (fun a w' ha j u hu => ha.old (by rw [Nat.zero_add]; exact cell_of_blk h6 hu) (by have := cell_lt (cell_of_blk h6 (o := 0) rfl); rw [hszW] at this; exact this)) ?_
      refine lst_alloc rfl F.ti75 ?_
      intro b10
      refine lst_store rfl rfl F.ti75 rfl ?_
      refine lst_nil ?_
      refine exR_then ?_
      refine codR_seq ?_
      refine codR_region (fun _ _ h => h) (by rfl) ?_
      refine lst_move rfl rfl ?_
      refine lst_field_z rfl rfl F.fi75_1 F.ti73 ?_
      refine lst_store rfl rfl F.ti73 rfl ?_
      refine lst_nil ?_
      refine exR_then ?_
      refine codR_seq ?_
      refine codR_seq ?_
      refine codR_begin [] F.follows 5 rfl [false, false, false, false, false] rfl (by rfl) ?_
      refine any_take (listed' := [true, false, false, false, false].toArray) 0 rfl rfl rfl (by kernel_rfl) (by kernel_rfl) (by kernel_rfl) (by repeat (first | exact List.Sublist.refl _ | exact List.nil_sublist _ | refine List.Sublist.cons_cons _ ?_ | refine List.Sublist.cons _ ?_)) (yld_loadN rfl F.agg75 F.ti75) rfl ?_
      refine any_take (listed' := [true, true, false, false, false].toArray) 1 rfl rfl rfl (by kernel_rfl) (by kernel_rfl) (by kernel_rfl) (by repeat (first | exact List.Sublist.refl _ | exact List.nil_sublist _ | refine List.Sublist.cons_cons _ ?_ | refine List.Sublist.cons _ ?_)) (yld_load_at (v := .int .u8 (p : Int)) rfl F.one77 (fun a w' ha => ha.old h7 (by have := cell_lt h7; rw [hszW] at this; exact this))) rfl ?_
      refine any_take (listed' := [true, true, false, true, false].toArray) 3 rfl rfl rfl (by kernel_rfl) (by kernel_rfl) (by kernel_rfl) (by repeat (first | exact List.Sublist.refl _ | exact List.nil_sublist _ | refine List.Sublist.cons_cons _ ?_ | refine List.Sublist.cons _ ?_)) (yld_load_at (v := .int .u64 (due : Int)) rfl F.one116 (fun a w' ha => ha.old h8 (by have := cell_lt h8; rw [hszW] at this; exact this))) rfl ?_
      refine any_one (listed' := [true, true, true, true, false].toArray) 2 (by kernel_rfl) rfl rfl ?_
      refine lst_call (X := Nat) (first := []) (cap := []) (vs := [_, _]) (p := fun n => SetN n (Clr ags (maskL v) p)) (val := fun n => .int .u64 (n : Int)) (rs := fun _ => [.blk b10 (.cells [.slice aA ags.length cg, .int .u8 (maskL v : Nat)].toArray 75 (0, 0))]) rfl rfl rfl F.ent100 (fun a w ha => (hopeful2_c rfl hok (show maskL v < 256 by omega) hp (by exact hszW) (by exact hRd) hA0 ha).mono (fun e w' h => by obtain ⟨n, h1, h2, h3⟩ := h; exact ⟨n, h1, h2, h3⟩)) ?_
      rintro n hset
      dsimp only
      refine lst_nil ?_
      refine any_next (by repeat (first | exact List.Sublist.refl _ | exact List.nil_sublist _ | refine List.Sublist.cons_cons _ ?_ | refine List.Sublist.cons _ ?_)) ?_
      refine any_take (listed' := [true, true, true, true, true].toArray) 4 rfl rfl rfl (by kernel_rfl) (by kernel_rfl) (by kernel_rfl) (by repeat (first | exact List.Sublist.refl _ | exact List.nil_sublist _ | refine List.Sublist.cons_cons _ ?_ | refine List.Sublist.cons _ ?_)) (yld_int rfl rfl bin_neq) rfl ?_
      refine any_done rfl (by kernel_rfl) ?_
      refine exR_then ?_
      refine codR_cond_dec rfl (fun hc0 => ?_) (fun hc0 => ?_)
      · skip
        have hnG : ¬ asAll ags p v := fun h => hc0 ((sets_eq hv.2 hset hdue).2 h)
        refine codR_exit ?_
        refine ex_then_exit ?_
        refine ex_block_exit ?_
        subst hrb
        exact round_goes (W := W) ((hat.own _ (List.mem_cons_self ..)).2) hst hpe hw1 hs1 (fun w' hg => .inl ⟨rfl, hg, hnG⟩)
      · skip
        have hG : asAll ags p v := (sets_eq hv.2 hset hdue).1 (by simpa using hc0)
        refine codR_widen hat3 rfl rfl hszW.symm rfl rfl ?_
        dsimp only [List.cons_append, List.nil_append]
        refine codR_skip ?_
        refine exR_then ?_
        refine codR_seq ?_
        refine codR_region (fun _ _ h => h) (by rfl) ?_
        refine lst_move rfl rfl ?_
        refine lst_fn (X := Nat) (vs := [_]) (p := fun n => n ≤ 4) (val := fun n => .int .i64 (n : Int)) (rs := fun _ => []) rfl rfl F.ent109 (fun a w ha => count_c (maskL v) hm16 w) ?_
        intro cn hcn
        dsimp only [List.nil_append]
        refine lst_make_cap rfl rfl rfl Tryd.underlying25 F.ti3 (by omega) ?_
        intro b34
        refine lst_store rfl rfl F.ti25 rfl ?_
        refine lst_nil ?_
        refine exR_then ?_
        refine codR_seq ?_
        refine codR_seq ?_
        refine codR_region (fun _ _ h => h) (by rfl) ?_
        refine lst_field_z rfl rfl F.fi75_0 F.ti72 ?_
        refine lst_load rfl rfl F.one72 ?_
        refine lst_len rfl rfl Tryd.underlying72 ?_
        refine lst_move rfl rfl ?_
        refine lst_nil ?_
        refine exR_then ?_
        refine codR_block ?_
        refine codR_loop' (G := Nat × Option Addr × Nat) (fun g => g.1 ≤ ags.length) (fun g => ags.length - g.1) (fun g => [(4, .pointer (some ⟨b4, 0, none⟩)), (5, .pointer (some ⟨b5, 0, none⟩)), (9, .int .u8 (maskL v : Nat)), (37, .int .i64 (ags.length : Int)), (38, .int .i64 (g.1 : Int))]) (fun g => .blk b4 (.cells [.slice g.2.1 (outL v g.1).length g.2.2].toArray 25 (0, 0)) :: .row 3 1 g.2.1 (outL v g.1).length g.2.2 (ints (outL v g.1)) :: .blk r (.loop rb) :: .blk D (.deferred (some [])) :: .blk b5 (.cells [.int .i64 0].toArray 35 (0, 0)) :: upRes W1.heap.size (w1.putObj r (.loop rb))) (0, some ⟨b34, 0, none⟩, cn) (Nat.zero_le _) (by repeat (first | exact Sub.nil _ | refine Sub.cons rfl ?_)) (by repeat (first | exact Pck.nil _ | exact Pck.refl _ | (apply Pck.cons; focus ((repeat (first | exact Rem.here _ | apply Rem.there)); done)) | refine Pck.skip _ ?_)) ?_
        rintro ⟨k, A1, c1⟩ hk
        dsimp only at hk ⊢
        refine codR_seq ?_
        refine codR_region (fun _ _ h => h) (by rfl) ?_
        refine lst_int rfl rfl rfl bin_lss ?_
        refine lst_nil ?_
        refine exR_then ?_
        refine codR_seq ?_
        refine codR_cond_dec rfl (fun hc1 => ?_) (fun hc1 => ?_)
        · skip
          have hk' : k < ags.length := by omega
          refine codR_skip ?_
          refine exR_then ?_
          refine codR_seq ?_
          refine codR_block ?_
          refine codR_seq ?_
          refine codR_region (fun _ _ h => h) (by rfl) ?_
          refine lst_move rfl rfl ?_
          refine lst_assign rfl rfl ?_
          refine lst_nil ?_
          refine exR_then ?_
          refine codR_seq ?_
          refine codR_region (fun _ _ h => h) (by rfl) ?_
          refine lst_move rfl rfl ?_
          refine lst_move rfl rfl ?_
          refine lst_fn0 (vs := [_, _]) rfl rfl F.ent110 (fun a w ha => set_has_c (maskL v) k (show maskL v < 256 by omega) w) ?_
          refine lst_nil ?_
          refine exR_then ?_
          refine codR_cond_bool rfl (fun hc2 => ?_) (fun hc2 => ?_)
          · skip
            refine codR_region (fun _ _ h => h) (by rfl) ?_
            refine lst_load rfl rfl F.one25 ?_
            refine lst_move rfl rfl ?_
            refine lst_lit (vs := [(0, _)]) rfl rfl Tryd.underlying25 F.ti3 rfl rfl rfl ?_
            intro b46
            refine lst_append rfl rfl rfl Tryd.underlying25 F.ti3 rfl rfl rfl (by have := outL_len v k; unfold maxLen; omega) (by have := outL_len v k; omega) ?_
            intro A2 c2
            refine lst_store rfl rfl F.ti25 rfl ?_
            refine lst_nil ?_
            refine ex_block_normal ?_
            refine exR_then ?_
            refine codR_region (fun _ _ h => h) (by rfl) ?_
            refine lst_int rfl rfl rfl (fun w => bin_add w (wrap_i64' _ (by omega) (by omega))) ?_
            refine lst_move rfl rfl ?_
            refine lst_nil ?_
            have hkv : k ∈ v := by rw [maskL_bit] at hc2; exact of_decide_eq_true hc2
            have e := outL_yes hkv
            refine ex_round' (k + 1, A2, c2) (by (try dsimp only); omega) (by (try dsimp only); omega) (by repeat (first | exact Sub.nil _ | refine Sub.cons rfl ?_)) (by (try dsimp only); rw [e, ints_snoc, List.length_append, List.length_singleton]; repeat (first | exact Pck.nil _ | exact Pck.refl _ | (apply Pck.cons; focus ((repeat (first | exact Rem.here _ | apply Rem.there)); done)) | refine Pck.skip _ ?_))
          · skip
            refine codR_skip ?_
            refine ex_block_normal ?_
            refine exR_then ?_
            refine codR_region (fun _ _ h => h) (by rfl) ?_
            refine lst_int rfl rfl rfl (fun w => bin_add w (wrap_i64' _ (by omega) (by omega))) ?_
            refine lst_move rfl rfl ?_
            refine lst_nil ?_
            have hkv : k ∉ v := by rw [maskL_bit] at hc2; exact of_decide_eq_false hc2
            have e := outL_no hkv
            refine ex_round' (k + 1, A1, c1) (by (try dsimp only); omega) (by (try dsimp only); omega) (by repeat (first | exact Sub.nil _ | refine Sub.cons rfl ?_)) (by (try dsimp only); rw [e]; repeat (first | exact Pck.nil _ | exact Pck.refl _ | (apply Pck.cons; focus ((repeat (first | exact Rem.here _ | apply Rem.there)); done)) | refine Pck.skip _ ?_))
        · skip
          obtain rfl : k = ags.length := by omega
          have hov : outL v ags.length = v := outL_all hv.1 hv.2
          rw [hov]
          refine codR_exit ?_
          refine ex_then_exit ?_
          refine ex_then_exit ?_
          refine ex_block_exit ?_
          refine exR_then ?_
          refine codR_seq ?_
          refine codR_region (fun _ _ h => h) (by rfl) ?_
          refine lst_load rfl rfl F.one25 ?_
          refine lst_store rfl rfl F.ti25 rfl ?_
          refine lst_store rfl rfl F.ti35 rfl ?_
          refine lst_nil ?_
          refine exR_then ?_
          refine codR_ret ?_
          refine ex_block_ret ?_
          subst hrb
          refine round_ret (rec := rec) (UpB.upd (b := r)) (fun a w' ha => .inr ⟨rfl, hG, ⟨A1, c1, (At.pck ha (by repeat (first | exact Pck.nil _ | exact Pck.refl _ | (apply Pck.cons; focus ((repeat (first | exact Rem.here _ | apply Rem.there)); done)) | refine Pck.skip _ ?_))).mem⟩, KeepUp.sub (H := W1.heap.size) (W := W) (W2 := w1.putObj r (.loop { rec with state := .busy })) (by simp only [World.putObj_size]; exact hs1) (fun b hb1 hb2 => (World.putObj_heap_other (by omega)).trans (hw1.block b hb2)) (keepUp_of ha (fun r hr => by simp [hr]))⟩)
  · rintro e w3 ⟨hv, h⟩
    refine ⟨hv, ?_⟩
    rcases h with ⟨hno, _⟩ | ⟨v, hfew, hvok, A', c', hm⟩
    · exact absurd asAll_all (hno ags.length (Nat.le_refl _) (List.range' 0 ags.length) (by rw [chs_all _ _ 0 (by omega)]; exact List.mem_singleton_self _))
    · refine ⟨.done, some .ret, by simp, (hm.2.2.1 _ (List.mem_cons_self ..)).2, .inr ⟨rfl, ?_⟩⟩
      show LeavesInM _ _ _ _ _ _ (_ :: a0.defers) _ _
      rw [ha0.defs]
      refine marks_ret hm _ (fun w' hm' => ⟨_, res_cc (a := a0) (C := ⟨Tryd.prog, w.heap.size, w, 50, _⟩) (fn := Tryd.f67) rfl rfl rfl F.one25 F.one35 ⟨ha0.size, ha0.defs, ha0.slots, hm'.1, hm'.2.1, hm'.2.2.1, hm'.2.2.2⟩, v, A', c', hfew, hvok, rfl, ?_⟩)
      exact ⟨hm'.1, fun r hr => hm'.2.2.1 r (by simp at hr; simp [hr]), (List.Sublist.filterMap _ (List.Sublist.cons _ (List.Sublist.cons _ (List.Sublist.refl _)))).nodup hm'.2.2.2⟩

end Go.Proofs.YtofkhehcnfiopaaDoor.N
namespace Go.Proofs.YtofkhehcnfiopaaDoor.N
open Go Go.RowKit Go.Proofs

theorem Only_c (A B : Option Addr) (c cb : Nat) (ags : List Ag) (l : List Nat) (hl4 : l.length ≤ 4) (hlt : ∀ i ∈ l, i < ags.length) (w : World) (hA : RdL Ag.cells 5 w A ags) (hB : RdL ncell 1 w B l) : Calls Tryd.prog 70 #[.slice A ags.length c, .slice B l.length cb] w fun e w' => ∃ A' c', e = .returned (.slice A' (onlyL ags l).length c') ∧ Grew w w' [.row 24 5 A' (onlyL ags l).length c' ((onlyL ags l).flatMap Ag.cells)] := by
  refine enter (N := 24) [(0, .slice A ags.length c), (1, .slice B l.length cb)] Tryd.func70 rfl Tryd.ntmps70 rfl rfl ?_
  refine cod_seq ?_
  refine cod_region ?_
  refine lst_assign rfl rfl ?_
  refine lst_nil ?_
  refine ex_then ?_
  refine cod_seq ?_
  refine cod_region ?_
  refine lst_assign rfl rfl ?_
  refine lst_nil ?_
  refine ex_then ?_
  refine cod_seq ?_
  refine cod_seq ?_
  refine cod_region ?_
  refine lst_assign rfl rfl ?_
  refine lst_nil ?_
  refine ex_then ?_
  refine cod_block ?_
  refine cod_nil 24 5 ?_
  refine cod_loop' (G := Nat × Option Addr × Nat) (fun g => g.1 ≤ l.length) (fun g => l.length - g.1) (fun g => [(0, .slice A ags.length c), (1, .slice B l.length cb), (5, .slice g.2.1 (onlyL ags (l.take g.1)).length g.2.2), (6, .int .i64 (g.1 : Int))]) (fun g => [.row 24 5 g.2.1 (onlyL ags (l.take g.1)).length g.2.2 ((onlyL ags (l.take g.1)).flatMap Ag.cells)]) (0, none, 0) (Nat.zero_le _) (by repeat (first | exact Sub.nil _ | refine Sub.cons rfl ?_)) (by repeat (first | exact Pck.nil _ | exact Pck.refl _ | (apply Pck.cons; focus ((repeat (first | exact Rem.here _ | apply Rem.there)); done)) | refine Pck.skip _ ?_)) ?_
  rintro ⟨k, A1, c1⟩ hk
  dsimp only at hk ⊢
  refine cod_seq ?_
  refine cod_seq ?_
  refine cod_region ?_
  refine lst_move rfl rfl ?_
  refine lst_move rfl rfl ?_
  refine lst_len rfl rfl Tryd.underlying25 ?_
  refine lst_int rfl rfl rfl bin_lss ?_
  refine lst_nil ?_
  refine ex_then ?_
  refine cod_cond_dec rfl (fun hc0 => ?_) (fun hc0 => ?_)
  · skip
    have hk' : k < l.length := by omega
    obtain ⟨m, hm⟩ : ∃ m, l[k]? = some m := ⟨_, List.getElem?_eq_getElem hk'⟩
    have hml : m < ags.length := hlt m (List.mem_of_getElem? hm)
    obtain ⟨b, o, rfl, hb, hcell⟩ := hB (by omega)
    obtain ⟨b', o', rfl, hb', hcell'⟩ := hA (by omega)
    obtain ⟨x, hx⟩ : ∃ x, ags[m]? = some x := ⟨_, List.getElem?_eq_getElem hml⟩
    have hxd : ags.getD m default = x := by rw [List.getD_eq_getElem?_getD, hx]; rfl
    have e : onlyL ags (l.take (k + 1)) = onlyL ags (l.take k) ++ [x] := by unfold onlyL; rw [List.take_add_one, hm, List.map_append]; simp [hxd, hx]
    have hol : (onlyL ags (l.take k)).length = k := by rw [onlyL_len, List.length_take]; omega
    refine cod_skip ?_
    refine ex_then ?_
    refine cod_seq ?_
    refine cod_block ?_
    refine cod_region ?_
    refine lst_move rfl rfl ?_
    refine lst_move rfl rfl ?_
    refine lst_move rfl rfl ?_
    refine lst_move rfl rfl ?_
    refine lst_index (j := k) rfl rfl rfl Tryd.underlying25 F.ti3 rfl hk' ?_
    refine lst_load_at (v := .int .i64 (m : Int)) rfl rfl F.one3 (fun a w ha => ha.old (hcell k m hm 0 _ rfl) hb) ?_
    refine lst_index (j := m) rfl rfl rfl Tryd.underlying22 F.ti24 rfl hml ?_
    refine lst_loadN_at (l := [.int .i64 (x.needs : Int), .int .i64 (x.no : Int), .int .i64 (x.takes : Int), .int .i64 (x.leaves : Int), .int .i64 (x.cost : Int)]) rfl rfl F.agg24 F.ti24 rfl (fun a w ha j u hu => ha.old (hcell' m x hx j u hu) hb') ?_
    refine lst_litN (vs := [(0, _)]) [_, _, _, _, _] rfl rfl Tryd.underlying22 F.ti24 rfl rfl rfl ⟨rfl, [_, _, _, _, _], [], rfl, rfl, rfl, rfl⟩ ?_
    intro b21
    refine lst_append rfl rfl rfl Tryd.underlying22 F.ti24 rfl rfl rfl (by unfold maxLen; omega) (by omega) ?_
    intro A2 c2
    refine lst_assign rfl rfl ?_
    refine lst_nil ?_
    refine ex_block_normal ?_
    refine ex_then ?_
    refine cod_region ?_
    refine lst_move rfl rfl ?_
    refine lst_int rfl rfl rfl (fun w => bin_add w (wrap_i64' _ (by omega) (by omega))) ?_
    refine lst_assign rfl rfl ?_
    refine lst_nil ?_
    refine ex_round' (k + 1, A2, c2) (by (try dsimp only); omega) (by (try dsimp only); omega) (by (try dsimp only); rw [e, List.length_append, List.length_singleton]; repeat (first | exact Sub.nil _ | refine Sub.cons rfl ?_)) (by (try dsimp only); rw [e, List.length_append, List.length_singleton, List.flatMap_append, List.flatMap_singleton]; repeat (first | exact Pck.nil _ | exact Pck.refl _ | (apply Pck.cons; focus ((repeat (first | exact Rem.here _ | apply Rem.there)); done)) | refine Pck.skip _ ?_))
  · skip
    obtain rfl : k = l.length := by omega
    rw [List.take_length]
    refine cod_exit ?_
    refine ex_then_exit ?_
    refine ex_then_exit ?_
    refine ex_block_exit ?_
    refine ex_then ?_
    refine cod_seq ?_
    refine cod_region ?_
    refine lst_move rfl rfl ?_
    refine lst_assign rfl rfl ?_
    refine lst_nil ?_
    refine ex_then ?_
    refine cod_ret ?_
    exact ex_ret rfl (fun a w ha => res_one rfl rfl ha) (fun a w ha => ⟨A1, c1, rfl, ha.grown (List.Sublist.refl _)⟩)

end Go.Proofs.YtofkhehcnfiopaaDoor.N
namespace Go.Proofs.YtofkhehcnfiopaaDoor.N
open Go Go.RowKit Go.Proofs
/-- Whether the same of the first m melts are hopeless. -/
def sameL (L M : List Nat) (m : Nat) : Bool := (List.range m).all fun j => decide (L.getD j 0 = farN) == decide (M.getD j 0 = farN)
theorem sameL_succ (L M : List Nat) (m : Nat) : sameL L M (m + 1) = (sameL L M m && (decide (L.getD m 0 = farN) == decide (M.getD m 0 = farN))) := by
  unfold sameL
  rw [List.range_succ, List.all_append]
  simp
theorem sameL_iff {ags : List Ag} {l : List Nat} {p : Nat} {L M : List Nat} (hL : Dst (onlyL ags l) (usedAll (onlyL ags l).length) p L) (hM : Dst ags (usedAll ags.length) p M) : sameL L M 64 = true ↔ asAll ags p l := by
  unfold sameL
  rw [List.all_eq_true]
  have key : ∀ m, m < 64 → ((decide (L.getD m 0 = farN) == decide (M.getD m 0 = farN)) = true ↔ (Clr (onlyL ags l) (usedAll (onlyL ags l).length) p m ↔ Clr ags (usedAll ags.length) p m)) := by
    intro m hm
    have h1 := hL.far m hm
    have h2 := hM.far m hm
    rw [beq_iff_eq, decide_eq_decide, h1, h2]
    constructor
    · intro h
      exact ⟨fun a => Classical.byContradiction fun b => h.2 b a, fun a => Classical.byContradiction fun b => h.1 b a⟩
    · intro h
      rw [h]
  constructor
  · intro h m hm
    exact (key m hm).1 (h m (List.mem_range.2 hm))
  · intro h m hm
    exact (key m (List.mem_range.1 hm)).2 (h m (List.mem_range.1 hm))
theorem chs_top (n : Nat) : List.range' 0 n ∈ chsL n n 0 := by rw [chs_all n n 0 (by omega)]; exact List.mem_singleton_self _
theorem SeenC.top {ags : List Ag} {p k : Nat} (h : SeenC ags.length (asAll ags p) (k + 1) 0) : k + 1 ≤ ags.length := by
  rcases Nat.lt_or_ge ags.length (k + 1) with h1 | h1
  · exact absurd asAll_all (h.less ags.length _ h1 (chs_top _))
  · exact h1
end Go.Proofs.YtofkhehcnfiopaaDoor.N
