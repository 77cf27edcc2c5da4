/- Parts of the walks of the laws on fining, those that FiningWays needs: M18, M19, M20, M21, Bits, Mod, F1, Sx3, F2, Team, Sx4, F3. -/
import Derived.Test.YtofkhehcnfiopaaDoorSFiningWays02
import Derived.Conc.LeavingOf
import Derived.Test.YtofkhehcnfiopaaDoorSFiningWays01
import Derived.Test.YtofkhehcnfiopaaDoorProg
import Derived.DeepKeys3
namespace Go.Proofs.YtofkhehcnfiopaaDoor.N
open Go Go.RowKit Go.Conc
set_option autoImplicit false
set_option linter.unusedSectionVars false

/-! From a law's contract in company to its row. -/
/-- What the call is shown of the world in which it begins. -/
def unview : Obj → Obj
  | .view _ _ => blank
  | o => o
def seenW (W : World) : World := { W with heap := W.heap.map unview, output := Gst.enc ⟨0, [], []⟩ }
def Viewed (W : World) (b : Nat) : Prop := ∃ p t, W.heap[b]? = some (.view p t)
theorem heap_seenW (W : World) (b : Nat) : (seenW W).heap[b]? = (W.heap[b]?).map unview := by simp [seenW]
theorem hid_seenW (W : World) : Hid (Viewed W) (fun _ => False) W (seenW W) := by
  refine ⟨rfl, rfl, rfl, by simp [seenW], fun b ⟨p, t, h⟩ => (Array.getElem?_eq_some_iff.1 h).1, fun b h => h.elim, fun b ⟨p, t, h⟩ => ⟨0, (0, 0), by rw [heap_seenW, h]; rfl⟩, fun b h => h.elim, fun b hv _ => ?_, fun b o ho => ?_⟩
  · rw [heap_seenW]
    cases h : W.heap[b]? with
    | none => rfl
    | some o =>
      cases o with
      | view p t => exact absurd ⟨p, t, h⟩ hv
      | _ => rfl
  · rw [heap_seenW] at ho
    cases h : W.heap[b]? with
    | none => rw [h] at ho; cases ho
    | some o' =>
      rw [h] at ho
      simp only [Option.map_some, Option.some.injEq] at ho
      subst ho
      cases o' <;> trivial
theorem cell_seenW {W : World} {p : Addr} {u : Value} (h : W.cell? p = some u) : (seenW W).cell? p = some u := by
  unfold World.cell? at *
  rw [heap_seenW]
  cases hb : W.heap[p.block]? with
  | none => rw [hb] at h; cases h
  | some o =>
    rw [hb] at h
    cases o <;> first | exact h | cases h
section
variable {P : Program} {W : World} {f : FuncId} {args : Array Value} {Post : Value → World → Prop}
theorem below_real {F : Nat → Prop} {w w' v' : World} (hk : Kept F (fun _ => False) w w') (hv : Hid F (fun _ => False) w' v') (hb : Bas W (Viewed W) (fun i => i = 0) (fun _ => F) w) (hv0 : Below (seenW W).heap.size (seenW W) v') : Below W.heap.size W w' := by
  refine ⟨hk.os.trans hb.os, hk.tape.trans hb.tape, hk.output.trans hb.output, Nat.le_trans hb.size hk.size, fun b hlt => ?_⟩
  by_cases hF : F b
  · rw [hk.block b (Nat.lt_of_lt_of_le hlt hb.size) (.inl hF)]
    exact (hb.held b (hb.new b hlt hF)).2.1
  · rw [← hv.same b hF (fun x => x), hv0.block b (by simpa [seenW] using hlt), heap_seenW]
    cases h : W.heap[b]? with
    | none => rfl
    | some o =>
      cases o with
      | view p t => exact absurd ((hb.held b ⟨p, t, h⟩).2.2 0 rfl) hF
      | _ => rfl
theorem runs_of_views {K : Prot} (hK : K.low = W.heap.size) (noInit : P.inits.idxOf? f = none)
    (h : @Calls P (mSys P K) f args (seenW W) fun e v' => ∃ x, e = .returned x ∧ Below (seenW W).heap.size (seenW W) v' ∧ ∀ W', Below W.heap.size W W' → Post x W') :
    ∃ N last o w' t', runNT P (N + 1) (solo (G (Frame.enter P f args .normal) []) W) #[] = (.ended o w', t') ∧ runN P N (solo (G (Frame.enter P f args .normal) []) W) = .next last ∧ step P last = .ended o w' ∧ Go.Conc.Good P Post last o w' t' := by
  refine many_ends K hK (hid_seenW W) rfl (@Gs.mono P (mSys P K) _ _ _ _ (h []) fun g v' hs => ?_)
  obtain ⟨e, fr, v₀, ⟨x, rfl, hb, hp⟩, hr, rfl, hfn, hm, hd, hkd, fn, hf, ht, hres⟩ := hs
  have hb' : Below (seenW W).heap.size (seenW W) v' := hb.trans (hr.mono hb.size)
  refine ⟨rfl, hb'.output, fun F w hv hbas => ?_⟩
  obtain ⟨w', h1, h2, h3, h4, h5⟩ := ht.ok (hres v' (Rl.refl v')) hv
  have hno : P.inits.idxOf? fr.fn = none := by rw [hfn]; exact noInit
  refine ⟨x, w', seen P fr.fn ((results fn fr.tmps).events P v' #[]), ?_, ?_, hp w' (below_real h4 h3 hbas hb')⟩
  · rw [← h2]
    simp [G, stepG, unwind, doReturn, hm, hd, hkd, hf, h1, hno, GStep.after]
  · rw [← hv.size]
    exact fun e he => h5 e (Go.Conc.mem_seen he)
end
theorem returnsInLeavingWide_of_views {H : Type} {enc : TypeId × Value → H} {a : Assume} {C : Checked} {os : Os} {f : FuncId} {fn : Func} {s : ChangeSpec} {conds : List PathCond} {apart fresh handsOn again : Bool} {X : World → Array Value → Prop}
    (hX : ∀ (w w' : World) (args : Array Value), w.heap = w'.heap → X w args → X w' args)
    (own : ownKnob C.prog.godebug = none) (started : os.Started) (noInit : C.prog.inits.idxOf? f = none) (hfn : C.prog.funcs[f]? = some fn)
    (witness : ∃ (w : World) (tape : Tape) (i : Input), w.os = os ∧ (w.forCall tape i).Shaped C.prog ∧ i.vars = [] ∧ Input.okWide C.prog (w.forCall tape i) .any w.heap.size f i ∧
      ((s.pre enc C.prog fn conds apart (w.forCall tape i).memory i.args ∧ X (w.forCall tape i).memory i.args) ∧ sizedMet enc C.prog fn (OpenSpec.ofChange s) apart (w.forCall tape i).memory i.args) ∧ a.holds C.prog (lone (Frame.enter C.prog f i.args .normal) [] (w.forCall tape i)))
    (contract : ∀ (W : World) (base : Nat) (args : Array Value) (ds gs : List (DataW H)) (before : List MemPlace),
      (∀ (j : Nat) t v, fn.params[j]? = some t → args[j]? = some v → Value.okWide C.prog W .any base t v) →
      DataW.Whole enc C.prog fn.params.toList s.vars apart W args.toList ds gs before →
      conds.all (PathCond.test C.prog ⟨fn.params.toList, ds, s.plain.varTypes C.prog, gs⟩) = true →
      (DataW.weightsEach C.prog (fn.params.toList ++ s.plain.varTypes C.prog) (ds ++ gs)).all (· ≤ reachBytes) = true → X W args →
      a.holds C.prog (lone (Frame.enter C.prog f args .normal) [] W) →
      ∃ K : Prot, K.low = W.heap.size ∧ @Calls C.prog (mSys C.prog K) f args (seenW W) fun e v' => ∃ x, e = .returned x ∧ Below (seenW W).heap.size (seenW W) v' ∧ ∀ W', Below W.heap.size W W' → s.post enc C.prog fn apart fresh handsOn again W args x W') :
    ReturnsInLeavingWide a C os f .any (fun w args => (s.pre enc C.prog fn conds apart w args ∧ X w args) ∧ sizedMet enc C.prog fn (OpenSpec.ofChange s) apart w args) (s.post enc C.prog fn apart fresh handsOn again) := by
  refine returnsInLeavingWide_of_good own started witness ?_
  intro w tape i _ _ _ hok hpre hholds
  obtain ⟨_, _, _, fn', hfn', _, _, _, _, hval⟩ := hok
  have e : fn' = fn := Option.some.inj (hfn'.symm.trans hfn)
  subst e
  obtain ⟨⟨⟨ds, gs, before, hw, hc⟩, hx⟩, hz⟩ := hpre
  have hw' := DataW.Whole.of_heap (w' := w.forCall tape i) (by rfl) hw
  obtain ⟨K, hK, hcalls⟩ := contract (w.forCall tape i) w.heap.size i.args ds gs before hval hw' hc (hz.weights hw) (hX _ _ _ (by rfl) hx) hholds
  obtain ⟨M, last, o, w', t', h1, h2, h3, h4⟩ := runs_of_views hK noInit hcalls
  exact ⟨M, last, o, w', t', h1, h2, h3, h4.mono fun v hp => ChangeSpec.post_blind hp⟩
end Go.Proofs.YtofkhehcnfiopaaDoor.N
namespace Go.Proofs.YtofkhehcnfiopaaDoor.N
open Go Go.RowKit Go.Conc
set_option autoImplicit false
set_option linter.unusedSectionVars false

/-! A worker's first step, and its last. -/
/-- What stands under a worker's function. -/
def bornF (P : Program) : Frame := { (default : Frame) with fn := P.funcs.size, defers := [], mode := .panicking [goexitEntry] }
def bD (f : FuncId) : Frame := { (default : Frame) with fn := f, kind := .deferred }
section
variable {P : Program} {K : Prot} {c : Nat} {v : World}
theorem works_born {d : Deferred} {fv : Fn} {cap : Array Value} {f : FuncId} {args : Array Value} (ht : d.target = .fn fv cap) (hi : Invokes P fv cap d.args f args)
    (h : @Gs P (wSys P K c) (WStop P) (G (Frame.enter P f args .deferred) [bornF P]) v) : Works P K c (born P d) v := by
  refine @Gs.step' P (wSys P K c) _ _ _ rfl fun v₁ h1 => ?_
  obtain ⟨es, he⟩ := Stp.deferred (I := wSys P K c) (P := P) (main := false) (fr := { (default : Frame) with fn := P.funcs.size, defers := [d], mode := .panicking [goexitEntry] }) (cs := []) (v := v₁) (d := d) (ds := []) (by simp) rfl ht hi
  exact ⟨_, _, es, he, @Gs.rely P (wSys P K c) _ _ _ _ h h1⟩
theorem enter_bD {f : FuncId} {fn : Func} {code : Code} (args : Array Value) (hf : P.funcs[f]? = some fn) (hb : fn.body = some code) :
    Frame.enter P f args .deferred = (bD f).at { tmps := args ++ Array.replicate (fn.ntmps - args.size) undef, defers := [] } [.code code] := by
  simp [Frame.enter, Frame.at, hf, hb, bD]
/-- Behind its last word it only leaves. -/
theorem quits_bD {f : FuncId} {fn : Func} (hf : P.funcs[f]? = some fn) (hr : fn.results = #[]) {a : Act} (hd : a.defers = []) (ops : Array Oper) : QuitsD P 4 0 (G ((bD f).at a [.inRegion ops []]) [bornF P]) := by
  refine .ctl rfl (fun _ => stepG_region_end) (.ctl rfl (fun _ => stepG_end) (.ctl (g' := G (bornF P) []) rfl (fun w => ?_) (.ctl (g' := { G (bornF P) [] with status := .finished }) rfl (fun w => ?_) ⟨rfl, rfl⟩)))
  · have h1 := results_none hr a.tmps P w
    have h2 := events_results_none hr a.tmps #[] (P := P) (w := w)
    simp [G, stepG, unwind, doReturn, Frame.at, bD, hd, hf, h1, h2, seen, GStep.after, bornF, goexitEntry]
  · have h0 : (default : Frame).todo = [] := rfl
    simp [G, stepG, unwind, bornF, Frame.catches, goexitEntry, h0]
end

/-! A region in whatever order, one of whose operations the others take part in. -/
section
variable [I : Sys] {C : Ctx} {fr : List (Nat × Value)} {hp hpS : List Res} {a : Act} {w : World} {ops : Array Oper} {Q : Exit → Act → World → Prop} {fuel d : Nat} {listed listed' : Array Bool} {ty : TypeId} {pos : String} {after : Array Edge}
abbrev Ctx.out (C : Ctx) (o : Array (Nat × ByteArray)) : Ctx := C.re C.B (saying C.w0 o)
theorem At.out (ha : At C fr hp a w) : At (C.out C.w0.output) fr hp a w := ha
def MemO (C : Ctx) (hp : List Res) (w : World) : Prop := ∃ o, Mem (C.out o) hp w
theorem MemO.rely {hp : List Res} (w w' : World) (h : MemO C hp w) (hr : Rl w w') : MemO C hp w' := by
  obtain ⟨o, h⟩ := h
  exact ⟨o, Mem.rely w w' h hr⟩
def AnyO (C : Ctx) (ops : Array Oper) (Q : Exit → Act → World → Prop) (hpS : List Res) (fuel : Nat) (listed : Array Bool) (fr : List (Nat × Value)) (hp : List Res) : Prop :=
  ∀ a w, At C fr hp a w → wpAnyH C.P .any ops (Lax (OnlyN Q)) (MemO C hpS) fuel listed a w
theorem anyO_start {id : Nat} {l : List Oper} (hm : C.P.follows .mixedOrders = true) (n : Nat) (hn : l.length = n) (lst : List Bool) (hl : Array.replicate n false = lst.toArray) (h : AnyO C l.toArray Q hpS n lst.toArray fr hp) :
    Cod C (.region id l.toArray true) Q fr hp := by
  intro a w ha
  refine wp_mono (Q := OnlyN Q) (wp_lax (wp_region_held (S := MemO C hpS) hm ?_)) ?_
  · have h1 := h a _ ha
    rw [← hl] at h1
    simpa [hn] using h1
  · intro e a' w' he
    cases e with
    | normal => exact he
    | _ => exact he.elim
theorem anyO_take {o : Oper} {v : Value} (i : Nat) (hi : ops[i]? = some o) (hdst : o.dst = some d) (hd : Nat.blt d C.N = true) (hns : Region.noSelect ops = true) (hf : Region.free .any ops listed i = true) (hr : (Region.ready .any ops listed).contains i = true)
    (hs : hpS.Sublist hp) (y : ∀ x, Yld (C.out x) o fr hpS v) (hl : listed.setIfInBounds i true = listed') (k : AnyO C ops Q hpS fuel listed' ((d, v) :: fr) hp) : AnyO C ops Q hpS (fuel + 1) listed fr hp := by
  intro a w ha
  refine wpAnyH_take MemO.rely (fun _ _ _ h hr => h.rely hr) hi hns hf hr (fun c a w h => h.elim fun _ h => h.1.elim) (.inl ⟨?_, ((y C.w0.output).2 a w (ha.out.ofMem (ha.out.toMem hs))).1, fun w' ⟨x, hw'⟩ => ((y x).2 a w' ⟨ha.size, ha.defs, ha.slots, hw'.1, hw'.2.1, hw'.2.2.1, hw'.2.2.2⟩).2⟩) ⟨C.w0.output, ha.out.toMem hs⟩ ?_
  · unfold Region.wanted; rw [(y C.w0.output).1]
  · rw [hl, hdst]
    exact k _ _ (ha.put (lt_of_blt hd) v)
def NxtO (C : Ctx) (ops : Array Oper) (Q : Exit → Act → World → Prop) (hpS : List Res) (fuel : Nat) (listed : Array Bool) (a : Act) (w : World) : Prop :=
  MemO C hpS w ∧ wpAnyH C.P .any ops (Lax (OnlyN Q)) (MemO C hpS) fuel listed a w
theorem anyO_one {o : Oper} (i : Nat) (hr : Region.ready .any ops listed = [i]) (hi : ops[i]? = some o) (hl : listed.setIfInBounds i true = listed') (h : Lst C ops (Exit.then (NxtO C ops Q hpS fuel listed') (Lax (OnlyN Q))) [o] fr hp) : AnyO C ops Q hpS (fuel + 1) listed fr hp := by
  intro a w ha
  refine wpAnyH_all hr (by simp) ?_
  intro k hk
  simp at hk
  subst hk
  rw [hl]
  exact op_of_lst hi h ha
theorem anyO_next (hs : hpS.Sublist hp) (h : AnyO C ops Q hpS fuel listed fr hp) : Ex C (Exit.then (NxtO C ops Q hpS fuel listed) (Lax (OnlyN Q))) .normal fr hp :=
  fun a w ha => ⟨⟨C.w0.output, ha.out.toMem hs⟩, h a w ha⟩
/-- The last of them has been said: nothing is left to do. -/
theorem anyO_last {x : Array (Nat × ByteArray)} (hs : hpS.Sublist hp) (hr : Region.ready .any ops listed = []) (h : Ex (C.out x) Q .normal fr hp) : Ex (C.out x) (Exit.then (NxtO C ops Q hpS fuel listed) (Lax (OnlyN Q))) .normal fr hp :=
  fun a w ha => ⟨⟨x, ha.toMem hs⟩, wpAnyH_done hr (Lax.of (show OnlyN Q .normal a w from h a w ha)) fuel⟩
end
end Go.Proofs.YtofkhehcnfiopaaDoor.N
namespace Go.Proofs.YtofkhehcnfiopaaDoor.N
open Go Go.RowKit Go.Conc
set_option autoImplicit false
set_option linter.unusedSectionVars false

/-! Channels in the walk; a walk in pieces. -/
instance Cells.chan (c : Option Nat) : Cells (.chan c) [.chan c] := ⟨rfl, by simp [Value.oneCell']⟩
section
variable {P : Program} {ev : Operand → Value} {dst : Option Tmp} {ty : TypeId} {pos : String} {after : Array Edge} {on_ : Option (Nat × Bool)}
theorem tame_makeChan (t : TypeId) (s : Operand) : Tame P (execOp ev ⟨dst, .makeChan t s, ty, pos, after, on_⟩) :=
  tame_value _ (Tame.bind (tame_asInt _) fun n => Tame.bind (tame_underlying _) fun u => by
    split
    · refine Tame.bind (tame_typeInfo _) fun i => ?_
      split
      · trivial
      · exact Tame.bind (tame_newObj _ trivial) fun _ => trivial
    · trivial)
theorem tame_recvOp (t : TypeId) (x : Operand) (f : Bool) : Tame P (execOp ev ⟨dst, .recv t x f, ty, pos, after, on_⟩) :=
  Tame.bind (tame_underlying _) fun u => by
    split
    · exact Tame.bind (tame_zeroValue _) fun _ => trivial
    · trivial
theorem tame_goV {x : Operand} {ts : Array TypeId} : Tame P (execOp ev ⟨dst, .go { callee := .value x, args := #[], argTypes := ts }, ty, pos, after, on_⟩) := by
  show Tame P (Deferred.ofValue _ _ >>= fun d => pure (Next.spawn d))
  refine Tame.bind ?_ fun _ => trivial
  unfold Deferred.ofValue
  split <;> trivial
end
section
variable [I : Sys] {C : Ctx} {fr : List (Nat × Value)} {hp : List Res} {a : Act} {w : World} {ops : Array Oper} {Q : Exit → Act → World → Prop} {rest : List Oper} {d : Nat} {ty : TypeId} {pos : String} {after : Array Edge}
theorem lst_makeChan {t elem : TypeId} {dir : ChanDir} {z : Value} {size bytes : Nat} (hd : Nat.blt d C.N = true) (ht : C.P.underlying t = some (.chan dir elem)) (hi : TI C.P elem z size bytes)
    (k : ∀ b, Lst C ops Q rest ((d, .chan (some b)) :: fr) (.blk b (.chan 0 #[] false 0 0 false) :: hp)) : Lst C ops Q (⟨some d, .makeChan t (.const (.int .i64 0)), ty, pos, after, none⟩ :: rest) fr hp := by
  refine lst_of rfl fun a w ha => ?_
  obtain ⟨i, hi, _, _, _⟩ := hi
  refine ⟨tame_makeChan .., ?_⟩
  have hr : (execOp a.eval ⟨some d, .makeChan t (.const (.int .i64 0)), ty, pos, after, none⟩).run C.P w = .ok (.value (.chan (some w.heap.size))) (w.alloc (.chan 0 #[] false 0 0 false)) := by
    have h0 : a.eval (.const (.int .i64 0)) = .int .i64 0 := rfl
    have h1 : IntKind.i64.max = 9223372036854775807 := rfl
    simp only [execOp, Instr.makeChan, h0, asInt, asIntOf, Sem.run_bind, Sem.run_pure, Result.andThen_ok, run_underlying ht, typeInfo]
    simp [hi, h1]
  rw [hr]
  exact k w.heap.size _ _ ((ha.alloc (.chan 0 #[] false 0 0 false)).put (lt_of_blt hd) _)
/-- A load of one cell of a block that may be frozen. -/
theorem lst_load_fz {x : Operand} {t ct : TypeId} {b : Nat} {v : Value} {fz : Nat × Nat} (hd : Nat.blt d C.N = true) (hx : ev fr x = some (.pointer (some ⟨b, 0, none⟩))) (ht : One C.P t)
    [hm : InB b (.cells [v].toArray ct fz) hp] (k : Lst C ops Q rest ((d, v) :: fr) hp) : Lst C ops Q (⟨some d, .load t x, ty, pos, after, none⟩ :: rest) fr hp :=
  lst_load_at hd hx ht (fun _ w ha => by rw [cell_of_row w b 0 [v].toArray ct fz (ha.mem_blk hm.mem)]; rfl) k
end
theorem at_args [I : Sys] {P : Program} {vs : List Value} {N : Nat} {v : World} (hle : Nat.ble vs.length N = true) : At ⟨P, v.heap.size, v, N, []⟩ (idx 0 vs) [] { tmps := vs.toArray ++ Array.replicate (N - vs.toArray.size) undef, defers := [] } v := by
  refine ⟨?_, rfl, ?_, Below.refl _ _, Nat.le_refl _, (fun r hr => by cases hr), List.nodup_nil⟩
  · have : vs.length ≤ N := by simpa [Nat.ble_eq] using hle
    simp; omega
  · intro t v ht
    obtain ⟨j, rfl, hj⟩ := look_idx vs 0 t v ht
    have hjl : j < vs.length := by
      rcases Nat.lt_or_ge j vs.length with h1 | h1
      · exact h1
      · rw [List.getElem?_eq_none h1] at hj; cases hj
    simp only [Nat.zero_add, Array.getD_eq_getD_getElem?]
    rw [Array.getElem?_append_left (by simpa using hjl)]
    simp [hj]
section
variable {P : Program} [I : Sys] {Stop : Goroutine → World → Prop} {b : Frame} {k : List Item} {cs : List Frame} {a : Act} {v : World}
/-- What comes behind a piece is known as a run. -/
theorem gs_seq {x y : Code} (hb : b.kind ≠ .early) (h : wp P x (Exit.then (fun a v => Gs P Stop (G (b.at a (.code y :: k)) cs) v) (fun _ _ _ => False)) a v) : Gs P Stop (G (b.at a (.code (x.seq y) :: k)) cs) v :=
  .one rfl (fun _ => stepG_seq) ((h b (.code y :: k) cs hb).bind (by
    rintro g w ⟨e, a', v0, hq, hr, harr⟩
    cases e with
    | normal =>
      obtain rfl := harr
      exact Gs.rely hq hr
    | _ => exact hq.elim))
theorem gs_yld {C : Ctx} {fr : List (Nat × Value)} {hp : List Res} {ops : Array Oper} {i : Nat} {rest : List Nat} {o : Oper} {x : Value} (ha : At C fr hp a v) (ho : ops[i]? = some o) (hb : b.kind ≠ .early) (y : Yld C o fr hp x)
    (h : Gs C.P Stop (G (b.at (a.put o.dst x) (.inRegion ops rest :: k)) cs) v) : Gs C.P Stop (G (b.at a (.inRegion ops (i :: rest) :: k)) cs) v := by
  have hw : Region.wanted o (yielded ops a.tmps) = true := by unfold Region.wanted; rw [y.1]
  refine Gs.step' rfl fun v₁ h1 => ?_
  obtain ⟨ht, hr⟩ := y.2 a v₁ (ha.later h1)
  exact ⟨_, _, _, .oper ht hr (fun _ _ hr => stepG_value ho hw hb hr), h.rely h1⟩
end
end Go.Proofs.YtofkhehcnfiopaaDoor.N
namespace Go.Proofs.YtofkhehcnfiopaaDoor.N
open Go Go.RowKit Go.Conc
set_option autoImplicit false
set_option linter.unusedSectionVars false
section
variable [I : Sys] {C : Ctx} {fr : List (Nat × Value)} {hp hp' : List Res} {a : Act} {w : World} {ops : Array Oper} {Q : Exit → Act → World → Prop}
/-- A block of one cell is a row of one. -/
theorem At.blk_row1 (ha : At C fr hp a w) {b e : Nat} {v : Value} (hu : Upd (.blk b (.cells [v].toArray e (0, 0))) (.row e 1 (some ⟨b, 0, none⟩) 1 1 [v]) hp hp') : At C fr hp' a w := by
  have hb := ha.own _ hu.mem
  refine ha.turn hu (⟨rfl, rfl, rfl, Nat.le_refl _, fun _ _ _ => rfl⟩ : w.grownBy w _) ⟨by simp, .inr ⟨b, 1, #[v], rfl, hb.1, hb.2, Nat.le_refl _, by unfold maxLen; omega, by simp, by simp⟩⟩ (fun k hk => .inl ?_)
  exact hk
theorem lst_blk_row1 {l : List Oper} {b e : Nat} {v : Value} (hu : Upd (.blk b (.cells [v].toArray e (0, 0))) (.row e 1 (some ⟨b, 0, none⟩) 1 1 [v]) hp hp') (h : Lst C ops Q l fr hp') : Lst C ops Q l fr hp := fun a w ha => h a w (ha.blk_row1 hu)
theorem cod_startR {P : Program} {B N : Nat} {ds : List Deferred} {v0 : World} {code : Code} (hout : v0.output = Gst.enc ⟨0, [], []⟩) (h : Cod (Cr P B N ds v0 ⟨0, [], []⟩) code Q fr hp) : Cod ⟨P, B, v0, N, ds⟩ code Q fr hp := fun a w ha => h a w (ha.startR hout)
end
theorem At.saidR [I : Sys] {P : Program} {B N : Nat} {ds : List Deferred} {v0 v : World} {s : Gst} {fr : List (Nat × Value)} {hp : List Res} {a : Act} (ha : At (Cr P B N ds v0 s) fr hp a v) (s' : Gst) (h : s'.sl = s.sl) : At (Cr P B N ds v0 s') fr hp a (saying v s'.enc) := by
  show At ⟨P, B, saying (chill s'.sl v0) s'.enc, N, ds⟩ fr hp a (saying v s'.enc)
  rw [h]
  exact ha.said s'.enc
/-- What reads in a world reads where a few of its blocks are shown alone. -/
theorem rdl_only {α : Type} {cells : α → List Value} {size : Nat} {v0 w : World} {A : Option Addr} {l : List α} {sl : List Nat} (h : RdL cells size v0 A l)
    (hb : 0 < l.length → ∀ g o, A = some ⟨g, o, none⟩ → g ∈ sl ∧ ∃ cs t fz fz', v0.heap[g]? = some (.cells cs t fz) ∧ w.heap[g]? = some (.cells cs t fz')) : RdL cells size (onlyV sl w) A l := fun hl => by
  obtain ⟨b, o, h1, h2, h3⟩ := h hl
  obtain ⟨hm, cs, t, fz, fz', e1, e2⟩ := hb hl b o h1
  have e3 : (onlyV sl w).heap[b]? = some (.cells cs t (0, cs.size)) := by rw [heap_onlyV, e2]; simp [hm, Obj.chill]
  refine ⟨b, o, h1, (Array.getElem?_eq_some_iff.1 e3).1, fun k x hk j u hu => ?_⟩
  have := h3 k x hk j u hu
  rw [cell_of_row v0 b _ cs t fz e1] at this
  rw [cell_of_row _ b _ cs t _ e3]
  exact this
def u8s (l : List Nat) : List Value := l.map (fun (y : Nat) => Value.int .u8 ((y : Nat) : Int))
theorem u8s_snoc (l : List Nat) (x : Nat) : u8s (l ++ [x]) = u8s l ++ [.int .u8 (x : Int)] := by simp [u8s]
/-- How many words are still to be said. -/
def words (pend : List (List UInt8)) : Nat := (pend.map List.length).sum
theorem words_set {pend : List (List UInt8)} {i : Nat} {b : UInt8} {l : List UInt8} (h : pend[i]? = some (b :: l)) : words (pend.set i l) < words pend := by
  induction pend generalizing i with
  | nil => simp at h
  | cons a pend ih =>
    cases i with
    | zero =>
      simp at h
      subst h
      simp [words]
    | succ i =>
      have := ih (i := i) (by simpa using h)
      simp [words] at this ⊢
      exact this
theorem words_erase {pend : List (List UInt8)} {i : Nat} {b : UInt8} {l : List UInt8} (h : pend[i]? = some (b :: l)) : words (pend.eraseIdx i) < words pend := by
  induction pend generalizing i with
  | nil => simp at h
  | cons a pend ih =>
    cases i with
    | zero =>
      simp at h
      subst h
      simp [words]
    | succ i =>
      have := ih (i := i) (by simpa using h)
      simp [words] at this ⊢
      exact this
end Go.Proofs.YtofkhehcnfiopaaDoor.N
namespace Go.Proofs.YtofkhehcnfiopaaDoor.N
open Go
set_option linter.unusedSectionVars false
variable [I : Sys]
/-- a without the bits of b. -/
def nn (a b : Nat) : Nat := a ^^^ (a &&& b)
theorem wrap_u8 (n : Nat) (h : n < 256) : IntKind.u8.wrap (n : Int) = n := by
  simp [IntKind.wrap, IntKind.bits, IntKind.signed]
  omega
theorem wrap_u64 (n : Nat) (h : n < 18446744073709551616) : IntKind.u64.wrap (n : Int) = n := by
  simp [IntKind.wrap, IntKind.bits, IntKind.signed]
  omega
theorem wrap_i64' (n : Int) (h : -9223372036854775808 ≤ n) (h' : n < 9223372036854775808) : IntKind.i64.wrap n = n := by
  rw [IntKind.wrap_i64]
  omega
theorem ofInt_u8 (a : Nat) (h : a < 256) : (BitVec.ofInt IntKind.u8.bits (a : Int)).toNat = a := by
  rw [BitVec.ofInt_natCast, BitVec.toNat_ofNat]; exact Nat.mod_eq_of_lt h
theorem ofInt_u64 (a : Nat) (h : a < 18446744073709551616) : (BitVec.ofInt IntKind.u64.bits (a : Int)).toNat = a := by
  rw [BitVec.ofInt_natCast, BitVec.toNat_ofNat]; exact Nat.mod_eq_of_lt h
theorem ofInt_i64' (a : Nat) (h : a < 9223372036854775808) : (BitVec.ofInt IntKind.i64.bits (a : Int)).toNat = a := by
  rw [BitVec.ofInt_natCast, BitVec.toNat_ofNat]; exact Nat.mod_eq_of_lt (Nat.lt_trans h (by decide))
theorem bv_andNot {n : Nat} (x y : BitVec n) : x &&& ~~~y = x ^^^ (x &&& y) := by
  apply BitVec.eq_of_getLsbD_eq
  intro i hi
  simp [hi]
  cases x[i] <;> cases y[i] <;> rfl
theorem and_lt {a n : Nat} (b : Nat) (h : a < 2 ^ n) : a &&& b < 2 ^ n := Nat.lt_of_le_of_lt Nat.and_le_left h
theorem nn_lt {a b n : Nat} (h : a < 2 ^ n) : nn a b < 2 ^ n := Nat.xor_lt_two_pow h (and_lt _ h)
theorem u8_and (a b : Nat) (ha : a < 256) (hb : b < 256) : IntKind.u8.wrap ((BitVec.ofInt IntKind.u8.bits (a : Int) &&& BitVec.ofInt IntKind.u8.bits (b : Int)).toNat : Int) = ((a &&& b : Nat) : Int) := by
  rw [BitVec.toNat_and, ofInt_u8 a ha, ofInt_u8 b hb]
  exact wrap_u8 _ (show _ < 2 ^ 8 from and_lt b ha)
theorem u8_or (a b : Nat) (ha : a < 256) (hb : b < 256) : IntKind.u8.wrap ((BitVec.ofInt IntKind.u8.bits (a : Int) ||| BitVec.ofInt IntKind.u8.bits (b : Int)).toNat : Int) = ((a ||| b : Nat) : Int) := by
  rw [BitVec.toNat_or, ofInt_u8 a ha, ofInt_u8 b hb]
  exact wrap_u8 _ (show _ < 2 ^ 8 from Nat.or_lt_two_pow ha hb)
theorem u8_andNot (a b : Nat) (ha : a < 256) (hb : b < 256) : IntKind.u8.wrap ((BitVec.ofInt IntKind.u8.bits (a : Int) &&& ~~~ BitVec.ofInt IntKind.u8.bits (b : Int)).toNat : Int) = ((nn a b : Nat) : Int) := by
  rw [bv_andNot, BitVec.toNat_xor, BitVec.toNat_and, ofInt_u8 a ha, ofInt_u8 b hb]
  exact wrap_u8 _ (show _ < 2 ^ 8 from nn_lt ha)
theorem u64_and (a b : Nat) (ha : a < 18446744073709551616) (hb : b < 18446744073709551616) : IntKind.u64.wrap ((BitVec.ofInt IntKind.u64.bits (a : Int) &&& BitVec.ofInt IntKind.u64.bits (b : Int)).toNat : Int) = ((a &&& b : Nat) : Int) := by
  rw [BitVec.toNat_and, ofInt_u64 a ha, ofInt_u64 b hb]
  exact wrap_u64 _ (show _ < 2 ^ 64 from and_lt b ha)
theorem u64_or (a b : Nat) (ha : a < 18446744073709551616) (hb : b < 18446744073709551616) : IntKind.u64.wrap ((BitVec.ofInt IntKind.u64.bits (a : Int) ||| BitVec.ofInt IntKind.u64.bits (b : Int)).toNat : Int) = ((a ||| b : Nat) : Int) := by
  rw [BitVec.toNat_or, ofInt_u64 a ha, ofInt_u64 b hb]
  exact wrap_u64 _ (show _ < 2 ^ 64 from Nat.or_lt_two_pow ha hb)
theorem u64_xor (a b : Nat) (ha : a < 18446744073709551616) (hb : b < 18446744073709551616) : IntKind.u64.wrap ((BitVec.ofInt IntKind.u64.bits (a : Int) ^^^ BitVec.ofInt IntKind.u64.bits (b : Int)).toNat : Int) = ((a ^^^ b : Nat) : Int) := by
  rw [BitVec.toNat_xor, ofInt_u64 a ha, ofInt_u64 b hb]
  exact wrap_u64 _ (show _ < 2 ^ 64 from Nat.xor_lt_two_pow ha hb)
theorem i64_and (a b : Nat) (ha : a < 9223372036854775808) (hb : b < 9223372036854775808) : IntKind.i64.wrap ((BitVec.ofInt IntKind.i64.bits (a : Int) &&& BitVec.ofInt IntKind.i64.bits (b : Int)).toNat : Int) = ((a &&& b : Nat) : Int) := by
  rw [BitVec.toNat_and, ofInt_i64' a ha, ofInt_i64' b hb]
  have : a &&& b < 2 ^ 63 := and_lt b ha
  exact wrap_i64' _ (by omega) (by omega)
theorem i64_or (a b : Nat) (ha : a < 9223372036854775808) (hb : b < 9223372036854775808) : IntKind.i64.wrap ((BitVec.ofInt IntKind.i64.bits (a : Int) ||| BitVec.ofInt IntKind.i64.bits (b : Int)).toNat : Int) = ((a ||| b : Nat) : Int) := by
  rw [BitVec.toNat_or, ofInt_i64' a ha, ofInt_i64' b hb]
  have : a ||| b < 2 ^ 63 := Nat.or_lt_two_pow ha hb
  exact wrap_i64' _ (by omega) (by omega)
theorem i64_andNot (a b : Nat) (ha : a < 9223372036854775808) (hb : b < 9223372036854775808) : IntKind.i64.wrap ((BitVec.ofInt IntKind.i64.bits (a : Int) &&& ~~~ BitVec.ofInt IntKind.i64.bits (b : Int)).toNat : Int) = ((nn a b : Nat) : Int) := by
  rw [bv_andNot, BitVec.toNat_xor, BitVec.toNat_and, ofInt_i64' a ha, ofInt_i64' b hb]
  have : nn a b < 2 ^ 63 := nn_lt ha
  show IntKind.i64.wrap ((nn a b : Nat) : Int) = _
  exact wrap_i64' _ (by omega) (by omega)
theorem fdiv_shr (a n k : Nat) : (a : Int).fdiv (2 ^ (min ((n : Int)).toNat k)) = ((a >>> (min n k) : Nat) : Int) := by
  rw [Int.toNat_natCast, Nat.shiftRight_eq_div_pow, Int.natCast_ediv, Int.fdiv_eq_ediv_of_nonneg]
  · simp
  · exact Int.pow_nonneg (by decide)
theorem shr_bit (s i k : Nat) (hs : s < 2 ^ k) : (s >>> (min i k)) &&& 1 = (if s.testBit i then 1 else 0) := by
  rcases Nat.lt_or_ge i k with h | h
  · rw [Nat.min_eq_left (Nat.le_of_lt h), Nat.and_one_is_mod, Nat.testBit_eq_decide_div_mod_eq, Nat.shiftRight_eq_div_pow]
    have : s / 2 ^ i % 2 < 2 := Nat.mod_lt _ (by decide)
    by_cases hb : s / 2 ^ i % 2 = 1 <;> simp [hb] <;> omega
  · rw [Nat.min_eq_right h, Nat.shiftRight_eq_div_pow, Nat.div_eq_of_lt hs, Nat.testBit_lt_two_pow (Nat.lt_of_lt_of_le hs (Nat.pow_le_pow_right (by decide) h))]
    rfl
theorem bit_test (s i k : Nat) (hs : s < 2 ^ k) : decide ((((s >>> (min i k)) &&& 1 : Nat) : Int) = 1) = s.testBit i := by
  rw [shr_bit s i k hs]
  cases s.testBit i <;> simp
theorem dec_nat (a b : Nat) : decide ((a : Int) = (b : Int)) = decide (a = b) := by
  by_cases h : a = b
  · simp [h]
  · have : ¬ (a : Int) = (b : Int) := by omega
    simp [h, this]
theorem dec_zero (a : Nat) : decide ((a : Int) = 0) = decide (a = 0) := dec_nat a 0
end Go.Proofs.YtofkhehcnfiopaaDoor.N
namespace Go.Proofs.YtofkhehcnfiopaaDoor.N
open Go
set_option linter.unusedSectionVars false
variable [I : Sys]
/-- An agent. -/
structure Ag where
  needs : Nat
  no : Nat
  takes : Nat
  leaves : Nat
  cost : Nat
  deriving DecidableEq, Inhabited
def Ag.cells (a : Ag) : List Value := [.int .i64 a.needs, .int .i64 a.no, .int .i64 a.takes, .int .i64 a.leaves, .int .i64 a.cost]
structure Ag.ok (a : Ag) : Prop where
  needs : a.needs < 64
  no : a.no < 64
  takes : a.takes < 64
  leaves : a.leaves < 64
  apart : a.needs &&& a.no = 0
  cost : 1 ≤ a.cost ∧ a.cost ≤ 9
def Oks (l : List Ag) : Prop := l.length ≤ 4 ∧ ∀ a ∈ l, a.ok
def mayN (a : Ag) (f : Nat) : Bool := decide (nn a.needs f = 0) && decide (a.no &&& f = 0)
def putN (a : Ag) (f : Nat) : Nat := nn f a.takes ||| a.leaves
theorem putN_lt {a : Ag} {f : Nat} (ha : a.ok) (hf : f < 64) : putN a f < 64 := show _ < 2 ^ 6 from Nat.or_lt_two_pow (nn_lt hf) ha.leaves
/-- Which agents that are used may be put. -/
def canTo (l : List Ag) (used f : Nat) (k : Nat) : List Nat := (List.range k).filter fun i => used.testBit i && mayN (l.getD i default) f
theorem canTo_succ (l : List Ag) (used f k : Nat) : canTo l used f (k + 1) = canTo l used f k ++ (if used.testBit k && mayN (l.getD k default) f then [k] else []) := by
  unfold canTo
  rw [List.range_succ, List.filter_append]
  congr 1
  by_cases h : (used.testBit k && mayN (l.getD k default) f) = true <;> simp [List.filter_cons]
theorem canTo_len (l : List Ag) (used f k : Nat) : (canTo l used f k).length ≤ k := by
  unfold canTo
  exact Nat.le_trans (List.length_filter_le _ _) (by simp)
/-- Numbers as cells. -/
def ints (l : List Nat) : List Value := l.map fun (n : Nat) => Value.int .i64 (n : Int)
theorem ints_snoc (l : List Nat) (n : Nat) : ints (l ++ [n]) = ints l ++ [.int .i64 (n : Int)] := by simp [ints]
theorem ints_len (l : List Nat) : (ints l).length = l.length := by simp [ints]
/-! Raw agents. -/
structure RA where
  needs : Int
  no : Int
  takes : Int
  leaves : Int
  cost : Int
  deriving DecidableEq, Inhabited
def RA.cells (a : RA) : List Value := [.int .i64 a.needs, .int .i64 a.no, .int .i64 a.takes, .int .i64 a.leaves, .int .i64 a.cost]
def inB (n lo hi : Int) : Bool := decide (lo ≤ n) && decide (n ≤ hi)
theorem inB_true {n lo hi : Int} : inB n lo hi = true ↔ lo ≤ n ∧ n ≤ hi := by simp [inB]
def RA.four (a : RA) : List Int := [a.needs, a.no, a.takes, a.leaves]
def allB (l : List Int) : Bool := l.all (inB · 0 63)
def RA.bad (a : RA) : Nat := if allB a.four = false then 1 else if a.needs.toNat &&& a.no.toNat ≠ 0 then 9 else if inB a.cost 1 9 = false then 1 else 0
def firstBad : List RA → Nat
  | [] => 0
  | a :: l => if a.bad ≠ 0 then a.bad else firstBad l
def checkR (l : List RA) : Nat := if 4 < l.length then 6 else firstBad l
def RA.ag (a : RA) : Ag := ⟨a.needs.toNat, a.no.toNat, a.takes.toNat, a.leaves.toNat, a.cost.toNat⟩
def Ag.raw (a : Ag) : RA := ⟨a.needs, a.no, a.takes, a.leaves, a.cost⟩
def icell (n : Int) : List Value := [.int .i64 n]
theorem RA.bad_zero {a : RA} (h : a.bad = 0) : a.ag.ok ∧ a.ag.cells = a.cells := by
  unfold RA.bad at h
  by_cases h1 : allB a.four = false
  · rw [if_pos h1] at h; cases h
  rw [if_neg h1] at h
  by_cases h2 : a.needs.toNat &&& a.no.toNat ≠ 0
  · rw [if_pos h2] at h; cases h
  rw [if_neg h2] at h
  by_cases h3 : inB a.cost 1 9 = false
  · rw [if_pos h3] at h; cases h
  have h1' : allB a.four = true := by simpa using h1
  have h3' : inB a.cost 1 9 = true := by simpa using h3
  simp only [allB, RA.four, List.all_cons, List.all_nil, Bool.and_true, Bool.and_eq_true, inB_true] at h1'
  rw [inB_true] at h3'
  simp only [ne_eq, Decidable.not_not] at h2
  obtain ⟨⟨a1, a2⟩, ⟨b1, b2⟩, ⟨c1, c2⟩, d1, d2⟩ := h1'
  refine ⟨⟨?_, ?_, ?_, ?_, h2, ?_⟩, ?_⟩
  · show a.needs.toNat < 64; omega
  · show a.no.toNat < 64; omega
  · show a.takes.toNat < 64; omega
  · show a.leaves.toNat < 64; omega
  · show 1 ≤ a.cost.toNat ∧ a.cost.toNat ≤ 9; omega
  · simp only [Ag.cells, RA.ag, RA.cells]
    rw [Int.toNat_of_nonneg a1, Int.toNat_of_nonneg b1, Int.toNat_of_nonneg c1, Int.toNat_of_nonneg d1, Int.toNat_of_nonneg (by omega)]
theorem firstBad_zero {l : List RA} (h : firstBad l = 0) : ∀ a ∈ l, a.bad = 0 := by
  induction l with
  | nil => intro a ha; cases ha
  | cons b l ih =>
    unfold firstBad at h
    by_cases hb : b.bad ≠ 0
    · rw [if_pos hb] at h; exact absurd h hb
    · rw [if_neg hb] at h
      intro a ha
      rcases List.mem_cons.1 ha with e | e
      · subst e; simpa using hb
      · exact ih h a e
theorem firstBad_pre {l1 l2 : List RA} (h : ∀ a ∈ l1, a.bad = 0) : firstBad (l1 ++ l2) = firstBad l2 := by
  induction l1 with
  | nil => rfl
  | cons b l1 ih =>
    rw [List.cons_append, firstBad, if_neg (by simp [h b (by simp)])]
    exact ih fun a ha => h a (by simp [ha])
theorem checkR_zero {l : List RA} (h : checkR l = 0) : l.length ≤ 4 ∧ firstBad l = 0 := by
  unfold checkR at h
  by_cases h4 : 4 < l.length
  · rw [if_pos h4] at h; cases h
  · rw [if_neg h4] at h; exact ⟨by omega, h⟩
theorem checkR_oks {l : List RA} (h : checkR l = 0) : Oks (l.map RA.ag) := by
  obtain ⟨h1, h2⟩ := checkR_zero h
  refine ⟨by simpa using h1, ?_⟩
  intro a ha
  obtain ⟨b, hb, rfl⟩ := List.mem_map.1 ha
  exact (RA.bad_zero (firstBad_zero h2 b hb)).1
theorem RdL.ag {w : World} {A : Option Addr} {l : List RA} (h : RdL RA.cells 5 w A l) (hc : checkR l = 0) : RdL Ag.cells 5 w A (l.map RA.ag) := by
  intro hl
  obtain ⟨b, o, h1, h2, h3⟩ := h (by simpa using hl)
  refine ⟨b, o, h1, h2, fun k x hk j u hu => ?_⟩
  rw [List.getElem?_map] at hk
  cases hq : l[k]? with
  | none => rw [hq] at hk; cases hk
  | some y =>
    rw [hq] at hk
    cases hk
    refine h3 k y hq j u ?_
    rw [← (RA.bad_zero (firstBad_zero (checkR_zero hc).2 y (List.mem_of_getElem? hq))).2]
    exact hu
theorem Ag.raw_cells (a : Ag) : a.raw.cells = a.cells := rfl
theorem Ag.raw_bad {a : Ag} (h : a.ok) : a.raw.bad = 0 := by
  obtain ⟨h1, h2, h3, h4, h5, h6⟩ := h
  have e1 : allB a.raw.four = true := by
    simp only [allB, RA.four, Ag.raw, List.all_cons, List.all_nil, Bool.and_true, Bool.and_eq_true, inB_true]
    omega
  have e3 : inB a.raw.cost 1 9 = true := by rw [inB_true]; show (1 : Int) ≤ (a.cost : Int) ∧ (a.cost : Int) ≤ 9; omega
  unfold RA.bad
  rw [if_neg (by rw [e1]; simp), show a.raw.needs.toNat = a.needs from Int.toNat_natCast _, show a.raw.no.toNat = a.no from Int.toNat_natCast _, if_neg (by rw [h5]; simp), if_neg (by rw [e3]; simp)]
theorem checkR_raw {ags : List Ag} (h : Oks ags) : checkR (ags.map Ag.raw) = 0 := by
  unfold checkR
  rw [if_neg (by have := h.1; simp; omega), ← List.append_nil (ags.map Ag.raw), firstBad_pre]
  · rfl
  · intro a ha
    obtain ⟨b, hb, rfl⟩ := List.mem_map.1 ha
    exact Ag.raw_bad (h.2 b hb)
theorem RdL.raw {w : World} {A : Option Addr} {ags : List Ag} (h : RdL Ag.cells 5 w A ags) : RdL RA.cells 5 w A (ags.map Ag.raw) := by
  intro hl
  obtain ⟨b, o, h1, h2, h3⟩ := h (by simpa using hl)
  refine ⟨b, o, h1, h2, fun k x hk j u hu => ?_⟩
  rw [List.getElem?_map] at hk
  cases hq : ags[k]? with
  | none => rw [hq] at hk; cases hk
  | some y => rw [hq] at hk; cases hk; exact h3 k y hq j u hu
def usedAll (n : Nat) : Nat := 2 ^ n - 1
theorem usedAll_lt {n : Nat} (h : n ≤ 4) : usedAll n < 16 := by
  unfold usedAll
  have : 2 ^ n ≤ 2 ^ 4 := Nat.pow_le_pow_right (by decide) h
  have : 0 < 2 ^ n := Nat.two_pow_pos n
  omega
theorem usedAll_bit {n i : Nat} : (usedAll n).testBit i = decide (i < n) := by
  unfold usedAll
  exact Nat.testBit_two_pow_sub_one n i
theorem shl_one {n : Nat} (h : n ≤ 4) : IntKind.u8.wrap (1 * 2 ^ (min ((n : Int)).toNat IntKind.u8.bits)) = ((2 ^ n : Nat) : Int) := by
  rw [Int.toNat_natCast, Nat.min_eq_left (by show n ≤ 8; omega), Int.one_mul]
  have : (2 : Int) ^ n = ((2 ^ n : Nat) : Int) := by simp
  rw [this]
  exact wrap_u8 _ (Nat.lt_of_le_of_lt (Nat.pow_le_pow_right (by decide) h) (by decide))
theorem sub_one {n : Nat} (h : n ≤ 4) : IntKind.u8.wrap (((2 ^ n : Nat) : Int) - 1) = ((usedAll n : Nat) : Int) := by
  have h0 : 0 < 2 ^ n := Nat.two_pow_pos n
  have h1 := usedAll_lt h
  rw [show ((2 ^ n : Nat) : Int) - 1 = ((usedAll n : Nat) : Int) from by unfold usedAll; omega]
  exact wrap_u8 _ (by omega)
end Go.Proofs.YtofkhehcnfiopaaDoor.N
namespace Go.Proofs.YtofkhehcnfiopaaDoor.N
open Go Go.RowKit Go.Proofs
set_option linter.unusedSectionVars false
variable [I : Sys]
theorem F.agg24 : aggB Tryd.prog 24 = true := by unfold aggB; rw [Tryd.underlying24]
theorem F.agg89 : aggB Tryd.prog 89 = true := by unfold aggB; rw [Tryd.underlying89]
theorem F.ent110 : Enters Tryd.prog 110 := enters_of Tryd.func110 rfl (by kernel_rfl)
theorem F.ent85 : Enters Tryd.prog 85 := enters_of Tryd.func85 rfl (by kernel_rfl)
theorem F.ent98 : Enters Tryd.prog 98 := enters_of Tryd.func98 rfl (by kernel_rfl)
theorem F.ent99 : Enters Tryd.prog 99 := enters_of Tryd.func99 rfl (by kernel_rfl)
theorem F.fi24_0 : FI Tryd.prog 24 0 3 0 := ⟨_, _, Tryd.underlying24, rfl, rfl, rfl⟩
theorem F.fi24_1 : FI Tryd.prog 24 1 3 1 := ⟨_, _, Tryd.underlying24, rfl, rfl, rfl⟩
theorem F.fi24_2 : FI Tryd.prog 24 2 3 2 := ⟨_, _, Tryd.underlying24, rfl, rfl, rfl⟩
theorem F.fi24_3 : FI Tryd.prog 24 3 3 3 := ⟨_, _, Tryd.underlying24, rfl, rfl, rfl⟩
theorem F.fi24_4 : FI Tryd.prog 24 4 3 4 := ⟨_, _, Tryd.underlying24, rfl, rfl, rfl⟩
theorem F.fi75_0 : FI Tryd.prog 75 0 72 0 := ⟨_, _, Tryd.underlying75, rfl, rfl, rfl⟩
theorem F.fi75_1 : FI Tryd.prog 75 1 73 1 := ⟨_, _, Tryd.underlying75, rfl, rfl, rfl⟩
theorem F.fi89_0 : FI Tryd.prog 89 0 24 0 := ⟨_, _, Tryd.underlying89, rfl, rfl, rfl⟩
theorem F.one3 : One Tryd.prog 3 := ⟨by unfold aggB; rw [Tryd.underlying3], by rw [Tryd.underlying3]; simp⟩
theorem F.one72 : One Tryd.prog 72 := ⟨by unfold aggB; rw [Tryd.underlying72], by rw [Tryd.underlying72]; simp⟩
theorem F.one73 : One Tryd.prog 73 := ⟨by unfold aggB; rw [Tryd.underlying73], by rw [Tryd.underlying73]; simp⟩
theorem F.ti24 : TI Tryd.prog 24 (.agg [.int .i64 0, .int .i64 0, .int .i64 0, .int .i64 0, .int .i64 0].toArray) 5 40 := TI.of (by kernel_rfl)
theorem F.ti3 : TI Tryd.prog 3 (.int .i64 0) 1 8 := TI.of (by kernel_rfl)
theorem F.ti72 : TI Tryd.prog 72 (.slice none 0 0) 1 24 := TI.of (by kernel_rfl)
theorem F.ti73 : TI Tryd.prog 73 (.int .u8 0) 1 1 := TI.of (by kernel_rfl)
theorem F.ti89 : TI Tryd.prog 89 (.agg [.int .i64 0, .int .i64 0, .int .i64 0, .int .i64 0, .int .i64 0].toArray) 5 40 := TI.of (by kernel_rfl)
theorem clear_c (f p : Nat) (hf : f < 256) (hp : p < 256) (w : World) : Calls Tryd.prog 81 #[.int .u8 (f : Int), .int .u8 (p : Int)] w fun e w' => e = .returned (.bool (decide (nn f p = 0))) ∧ Grew w w' [] := by
  refine enter (N := 9) [(0, .int .u8 (f : Int)), (1, .int .u8 (p : Int))] Tryd.func81 rfl Tryd.ntmps81 rfl rfl ?_
  refine cod_seq ?_
  refine cod_region ?_
  refine lst_assign rfl rfl ?_
  refine lst_nil ?_
  refine ex_then ?_
  refine cod_seq ?_
  refine cod_region ?_
  refine lst_move rfl rfl ?_
  refine lst_move rfl rfl ?_
  refine lst_int rfl rfl rfl (fun w => bin_andNot w (u8_andNot _ _ hf hp)) ?_
  refine lst_int rfl rfl rfl bin_eql ?_
  refine lst_assign rfl rfl ?_
  refine lst_nil ?_
  refine ex_then ?_
  refine cod_ret ?_
  refine ex_ret rfl (fun a w ha => res_one rfl rfl ha) (fun a w ha => ?_)
  exact ⟨by rw [dec_zero], ha.grown (List.nil_sublist _)⟩

theorem set_has_c (s i : Nat) (hs : s < 256) (w : World) : Calls Tryd.prog 110 #[.int .u8 (s : Int), .int .i64 (i : Int)] w fun e w' => e = .returned (.bool (s.testBit i)) ∧ Grew w w' [] := by
  have hs1 : s >>> (min i 8) < 256 := Nat.lt_of_le_of_lt (by rw [Nat.shiftRight_eq_div_pow]; exact Nat.div_le_self _ _) hs
  refine enter (N := 10) [(0, .int .u8 (s : Int)), (1, .int .i64 (i : Int))] Tryd.func110 rfl Tryd.ntmps110 rfl rfl ?_
  refine cod_seq ?_
  refine cod_region ?_
  refine lst_assign rfl rfl ?_
  refine lst_nil ?_
  refine ex_then ?_
  refine cod_seq ?_
  refine cod_region ?_
  refine lst_move rfl rfl ?_
  refine lst_move rfl rfl ?_
  refine lst_shr rfl rfl rfl (by omega) (fdiv_shr _ _ _) ?_
  refine lst_int rfl rfl rfl (fun w => bin_and w (u8_and _ 1 hs1 (by omega))) ?_
  refine lst_int rfl rfl rfl bin_eql ?_
  refine lst_assign rfl rfl ?_
  refine lst_nil ?_
  refine ex_then ?_
  refine cod_ret ?_
  refine ex_ret rfl (fun a w ha => res_one rfl rfl ha) (fun a w ha => ?_)
  exact ⟨by rw [← bit_test s i 8 hs]; rfl, ha.grown (List.nil_sublist _)⟩

theorem may_c (a : Ag) (f : Nat) (ha : a.ok) (hf : f < 256) (w : World) : Calls Tryd.prog 85 #[.agg [.int .i64 (a.needs : Int), .int .i64 (a.no : Int), .int .i64 (a.takes : Int), .int .i64 (a.leaves : Int), .int .i64 (a.cost : Int)].toArray, .int .u8 (f : Int)] w fun e w' => e = .returned (.bool (mayN a f)) ∧ Grew w w' [] := by
  have h1 := ha.needs; have h2 := ha.no; clear ha
  refine enter (N := 21) [(0, .agg [.int .i64 (a.needs : Int), .int .i64 (a.no : Int), .int .i64 (a.takes : Int), .int .i64 (a.leaves : Int), .int .i64 (a.cost : Int)].toArray), (1, .int .u8 (f : Int))] Tryd.func85 rfl Tryd.ntmps85 rfl rfl ?_
  refine cod_seq ?_
  refine cod_region ?_
  refine lst_box rfl rfl ?_
  intro b2
  refine lst_assign rfl rfl ?_
  refine lst_nil ?_
  refine ex_then ?_
  refine cod_seq ?_
  refine cod_region ?_
  refine lst_cut1 16 20 (.bool (mayN a f)) ?_ ?_
  · skip
    refine lst_field_z rfl rfl F.fi89_0 F.ti24 ?_
    refine lst_field_z rfl rfl F.fi24_0 F.ti3 ?_
    refine lst_load rfl rfl F.one3 ?_
    refine lst_convert rfl rfl Tryd.underlying3 Tryd.underlying77 (wrap_u8 _ (by omega)) ?_
    refine lst_move rfl rfl ?_
    refine lst_int rfl rfl rfl (fun w => bin_andNot w (u8_andNot _ _ (by omega) hf)) ?_
    refine lst_int rfl rfl rfl bin_eql ?_
    refine lst_move rfl rfl ?_
    refine lst_split (t := 12) rfl (fun hg12 => ?_) (fun hg12 => ?_)
    · skip
      refine lst_on rfl rfl ?_
      refine lst_field_z rfl rfl F.fi89_0 F.ti24 ?_
      refine lst_on rfl rfl ?_
      refine lst_field_z rfl rfl F.fi24_1 F.ti3 ?_
      refine lst_on rfl rfl ?_
      refine lst_load rfl rfl F.one3 ?_
      refine lst_on rfl rfl ?_
      refine lst_convert rfl rfl Tryd.underlying3 Tryd.underlying77 (wrap_u8 _ (by omega)) ?_
      refine lst_on rfl rfl ?_
      refine lst_move rfl rfl ?_
      refine lst_on rfl rfl ?_
      refine lst_int rfl rfl rfl (fun w => bin_and w (u8_and _ _ (by omega) hf)) ?_
      refine lst_on rfl rfl ?_
      refine lst_int rfl rfl rfl bin_eql ?_
      refine lst_pick_true rfl rfl rfl ?_
      refine lst_nil ?_
      exact ex_cut (.cons (by first | (simp [look, mayN] at *; simp [*]) | (simp [look, mayN] at *; omega)) sbn) sbl
    · skip
      refine lst_off rfl rfl rfl ?_
      refine lst_off rfl rfl rfl ?_
      refine lst_off rfl rfl rfl ?_
      refine lst_off rfl rfl rfl ?_
      refine lst_off rfl rfl rfl ?_
      refine lst_off rfl rfl rfl ?_
      refine lst_off rfl rfl rfl ?_
      refine lst_pick_false rfl rfl rfl ?_
      refine lst_nil ?_
      exact ex_cut (.cons (by first | (simp [look, mayN] at *; simp [*]) | (simp [look, mayN] at *; omega)) sbn) sbl
  refine lst_assign rfl rfl ?_
  refine lst_nil ?_
  refine ex_then ?_
  refine cod_ret ?_
  refine ex_ret rfl (fun a w ha => res_one rfl rfl ha) (fun a w ha => ?_)
  exact ⟨by rfl, ha.grown (List.nil_sublist _)⟩

theorem put_c (a : Ag) (f : Nat) (ha : a.ok) (hf : f < 256) (w : World) : Calls Tryd.prog 91 #[.agg [.int .i64 (a.needs : Int), .int .i64 (a.no : Int), .int .i64 (a.takes : Int), .int .i64 (a.leaves : Int), .int .i64 (a.cost : Int)].toArray, .int .u8 (f : Int)] w fun e w' => e = .returned (.int .u8 (putN a f : Nat)) ∧ Grew w w' [] := by
  have h1 := ha.takes; have h2 := ha.leaves; clear ha
  refine enter (N := 16) [(0, .agg [.int .i64 (a.needs : Int), .int .i64 (a.no : Int), .int .i64 (a.takes : Int), .int .i64 (a.leaves : Int), .int .i64 (a.cost : Int)].toArray), (1, .int .u8 (f : Int))] Tryd.func91 rfl Tryd.ntmps91 rfl rfl ?_
  refine cod_seq ?_
  refine cod_region ?_
  refine lst_box rfl rfl ?_
  intro b2
  refine lst_assign rfl rfl ?_
  refine lst_nil ?_
  refine ex_then ?_
  refine cod_seq ?_
  refine cod_region ?_
  refine lst_move rfl rfl ?_
  refine lst_field_z rfl rfl F.fi89_0 F.ti24 ?_
  refine lst_field_z rfl rfl F.fi24_2 F.ti3 ?_
  refine lst_load rfl rfl F.one3 ?_
  refine lst_convert rfl rfl Tryd.underlying3 Tryd.underlying77 (wrap_u8 _ (by omega)) ?_
  refine lst_int rfl rfl rfl (fun w => bin_andNot w (u8_andNot _ _ hf (by omega))) ?_
  refine lst_field_z rfl rfl F.fi89_0 F.ti24 ?_
  refine lst_field_z rfl rfl F.fi24_3 F.ti3 ?_
  refine lst_load rfl rfl F.one3 ?_
  refine lst_convert rfl rfl Tryd.underlying3 Tryd.underlying77 (wrap_u8 _ (by omega)) ?_
  refine lst_int rfl rfl rfl (fun w => bin_or w (u8_or _ _ (show _ < 2 ^ 8 from nn_lt hf) (by omega))) ?_
  refine lst_assign rfl rfl ?_
  refine lst_nil ?_
  refine ex_then ?_
  refine cod_ret ?_
  refine ex_ret rfl (fun a w ha => res_one rfl rfl ha) (fun a w ha => ?_)
  exact ⟨by rfl, ha.grown (List.nil_sublist _)⟩

theorem can_c (A : Option Addr) (cp : Nat) (ags : List Ag) (used f : Nat) (hok : Oks ags) (hu : used < 256) (hf : f < 256) (w : World) (hA : RdL Ag.cells 5 w A ags) : Calls Tryd.prog 89 #[.agg [.slice A ags.length cp, .int .u8 (used : Int)].toArray, .int .u8 (f : Int)] w fun e w' => ∃ A c, e = .returned (.slice A (canTo ags used f ags.length).length c) ∧ Grew w w' [.row 3 1 A (canTo ags used f ags.length).length c (ints (canTo ags used f ags.length))] := by
  refine enter (N := 31) [(0, .agg [.slice A ags.length cp, .int .u8 (used : Int)].toArray), (1, .int .u8 (f : Int))] Tryd.func89 rfl Tryd.ntmps89 rfl rfl ?_
  refine cod_seq ?_
  refine cod_region ?_
  refine lst_box rfl rfl ?_
  intro b2
  refine lst_assign rfl rfl ?_
  refine lst_nil ?_
  refine ex_then ?_
  refine cod_seq ?_
  refine cod_region ?_
  refine lst_assign rfl rfl ?_
  refine lst_nil ?_
  refine ex_then ?_
  refine cod_seq ?_
  refine cod_seq ?_
  refine cod_region ?_
  refine lst_field_z rfl rfl F.fi75_0 F.ti72 ?_
  refine lst_load rfl rfl F.one72 ?_
  refine lst_len rfl rfl Tryd.underlying72 ?_
  refine lst_move rfl rfl ?_
  refine lst_nil ?_
  refine ex_then ?_
  refine cod_block ?_
  refine cod_nil 3 1 ?_
  refine cod_loop (G := Nat × Option Addr × Nat) (fun g => g.1 ≤ ags.length) (fun g => ags.length - g.1) (fun g => [(0, .agg [.slice A ags.length cp, .int .u8 (used : Int)].toArray), (1, .int .u8 (f : Int)), (2, .pointer (some ⟨b2, 0, none⟩)), (5, .slice g.2.1 (canTo ags used f g.1).length g.2.2), (9, .slice A ags.length cp), (10, .int .i64 (ags.length : Int)), (11, .int .i64 (g.1 : Int))]) (fun g => [.row 3 1 g.2.1 (canTo ags used f g.1).length g.2.2 (ints (canTo ags used f g.1)), .blk b2 (.cells [.slice A ags.length cp, .int .u8 (used : Int)].toArray 75 (0, 0))]) (0, none, 0) (Nat.zero_le _) sbn sbl ?_
  rintro ⟨k, A', c'⟩ hk
  dsimp only at hk ⊢
  refine cod_seq ?_
  refine cod_region ?_
  refine lst_int rfl rfl rfl bin_lss ?_
  refine lst_nil ?_
  refine ex_then ?_
  refine cod_seq ?_
  refine cod_cond_dec rfl (fun hc0 => ?_) (fun hc0 => ?_)
  · skip
    have hk' : k < ags.length := by omega
    obtain ⟨b, o, rfl, hb, hcell⟩ := hA (by omega)
    obtain ⟨x, hx⟩ : ∃ x, ags[k]? = some x := ⟨_, List.getElem?_eq_getElem hk'⟩
    have hxo : x.ok := hok.2 x (List.mem_of_getElem? hx)
    have hxd : ags.getD k default = x := by rw [List.getD_eq_getElem?_getD, hx]; rfl
    refine cod_skip ?_
    refine ex_then ?_
    refine cod_seq ?_
    refine cod_block ?_
    refine cod_seq ?_
    refine cod_region ?_
    refine lst_move rfl rfl ?_
    refine lst_index (j := k) rfl rfl rfl Tryd.underlying72 F.ti89 rfl hk' ?_
    refine lst_loadN_at (l := [.int .i64 (x.needs : Int), .int .i64 (x.no : Int), .int .i64 (x.takes : Int), .int .i64 (x.leaves : Int), .int .i64 (x.cost : Int)]) rfl rfl F.agg89 F.ti89 rfl (fun a w ha j u hu => ha.old (hcell k x hx j u hu) hb) ?_
    refine lst_alloc rfl F.ti89 ?_
    intro b7
    refine lst_assign rfl rfl ?_
    refine lst_store rfl rfl F.ti89 rfl ?_
    refine lst_nil ?_
    refine ex_then ?_
    refine cod_seq ?_
    refine cod_region ?_
    refine lst_cut1 9 24 (.bool (used.testBit k && mayN x f)) ?_ ?_
    · skip
      refine lst_field_z rfl rfl F.fi75_1 F.ti73 ?_
      refine lst_load rfl rfl F.one73 ?_
      refine lst_move rfl rfl ?_
      refine lst_fn0 (vs := [_, _]) rfl rfl F.ent110 (fun a w ha => set_has_c _ _ hu w) ?_
      refine lst_move rfl rfl ?_
      refine lst_split_bool (t := 20) rfl (fun hg20 => ?_) (fun hg20 => ?_)
      · skip
        refine lst_on rfl rfl ?_
        refine lst_loadN rfl rfl F.agg89 F.ti89 ?_
        refine lst_on rfl rfl ?_
        refine lst_move rfl rfl ?_
        refine lst_on rfl rfl ?_
        refine lst_fn0 (vs := [_, _]) rfl rfl F.ent85 (fun a w ha => may_c x f hxo hf w) ?_
        refine lst_pick_true rfl rfl rfl ?_
        refine lst_nil ?_
        exact ex_cut (.cons (by simp [look, *]) sbn) sbl
      · skip
        refine lst_off rfl rfl rfl ?_
        refine lst_off rfl rfl rfl ?_
        refine lst_off rfl rfl rfl ?_
        refine lst_pick_false rfl rfl rfl ?_
        refine lst_nil ?_
        exact ex_cut (.cons (by simp [look, *]) sbn) sbl
    refine lst_nil ?_
    refine ex_then ?_
    refine cod_cond_bool rfl (fun hc1 => ?_) (fun hc1 => ?_)
    · skip
      refine cod_region ?_
      refine lst_move rfl rfl ?_
      refine lst_move rfl rfl ?_
      refine lst_lit (vs := [(0, _)]) rfl rfl Tryd.underlying25 F.ti3 rfl rfl rfl ?_
      intro b27
      refine lst_append rfl rfl rfl Tryd.underlying25 F.ti3 rfl rfl rfl (by have := canTo_len ags used f k; have := hok.1; unfold maxLen; omega) (by have := canTo_len ags used f k; have := hok.1; omega) ?_
      intro A1 c1
      refine lst_assign rfl rfl ?_
      refine lst_nil ?_
      refine ex_block_normal ?_
      refine ex_then ?_
      refine cod_region ?_
      refine lst_int rfl rfl rfl (fun w => bin_add w (wrap_i64' _ (by omega) (by have := hok.1; omega))) ?_
      refine lst_move rfl rfl ?_
      refine lst_nil ?_
      have e := canTo_succ ags used f k
      rw [hxd, hc1, if_pos rfl] at e
      refine ex_round (k + 1, A1, c1) (by (try dsimp only); omega) (by (try dsimp only); omega) (by (try dsimp only); rw [e]; simp only [List.length_append, List.length_singleton]; repeat (first | exact Sub.nil _ | refine Sub.cons rfl ?_)) (by (try dsimp only); rw [e]; simp only [ints_snoc, List.length_append, List.length_singleton]; repeat (first | exact List.Sublist.refl _ | exact List.nil_sublist _ | refine List.Sublist.cons_cons _ ?_ | refine List.Sublist.cons _ ?_))
    · skip
      refine cod_skip ?_
      refine ex_block_normal ?_
      refine ex_then ?_
      refine cod_region ?_
      refine lst_int rfl rfl rfl (fun w => bin_add w (wrap_i64' _ (by omega) (by have := hok.1; omega))) ?_
      refine lst_move rfl rfl ?_
      refine lst_nil ?_
      have e := canTo_succ ags used f k
      rw [hxd, hc1, if_neg (by simp), List.append_nil] at e
      refine ex_round (k + 1, A', c') (by (try dsimp only); omega) (by (try dsimp only); omega) (by (try dsimp only); rw [e]; repeat (first | exact Sub.nil _ | refine Sub.cons rfl ?_)) (by (try dsimp only); rw [e]; repeat (first | exact List.Sublist.refl _ | exact List.nil_sublist _ | refine List.Sublist.cons_cons _ ?_ | refine List.Sublist.cons _ ?_))
  · skip
    refine cod_exit ?_
    refine ex_then_exit ?_
    refine ex_then_exit ?_
    refine ex_block_exit ?_
    refine ex_then ?_
    refine cod_seq ?_
    refine cod_region ?_
    refine lst_move rfl rfl ?_
    refine lst_assign rfl rfl ?_
    refine lst_nil ?_
    refine ex_then ?_
    refine cod_ret ?_
    have hfin : ags.length = k := by omega
    subst hfin
    refine ex_ret rfl (fun a w ha => res_one rfl rfl ha) (fun a w ha => ⟨A', c', rfl, ha.grown sbl⟩)

theorem outside_c (n lo hi : Int) (w : World) : Calls Tryd.prog 99 #[.int .i64 (n : Int), .int .i64 (lo : Int), .int .i64 (hi : Int)] w fun e w' => e = .returned (.bool (!(inB n lo hi))) ∧ Grew w w' [] := by
  refine enter (N := 15) [(0, .int .i64 (n : Int)), (1, .int .i64 (lo : Int)), (2, .int .i64 (hi : Int))] Tryd.func99 rfl Tryd.ntmps99 rfl rfl ?_
  refine cod_seq ?_
  refine cod_region ?_
  refine lst_assign rfl rfl ?_
  refine lst_nil ?_
  refine ex_then ?_
  refine cod_seq ?_
  refine cod_region ?_
  refine lst_cut1 8 14 (.bool (!(inB n lo hi))) ?_ ?_
  · skip
    refine lst_move rfl rfl ?_
    refine lst_move rfl rfl ?_
    refine lst_int rfl rfl rfl bin_lss ?_
    refine lst_move rfl rfl ?_
    refine lst_split (t := 10) rfl (fun hg10 => ?_) (fun hg10 => ?_)
    · skip
      refine lst_off rfl rfl rfl ?_
      refine lst_off rfl rfl rfl ?_
      refine lst_off rfl rfl rfl ?_
      refine lst_pick_true rfl rfl rfl ?_
      refine lst_nil ?_
      exact ex_cut (.cons (by refine congrArg (fun b => some (Value.bool b)) ?_; rw [Bool.eq_iff_iff]; simp [inB] <;> omega) sbn) sbl
    · skip
      refine lst_on rfl rfl ?_
      refine lst_move rfl rfl ?_
      refine lst_on rfl rfl ?_
      refine lst_move rfl rfl ?_
      refine lst_on rfl rfl ?_
      refine lst_int rfl rfl rfl bin_gtr ?_
      refine lst_pick_false rfl rfl rfl ?_
      refine lst_nil ?_
      exact ex_cut (.cons (by refine congrArg (fun b => some (Value.bool b)) ?_; rw [Bool.eq_iff_iff]; simp [inB] <;> omega) sbn) sbl
  refine lst_assign rfl rfl ?_
  refine lst_nil ?_
  refine ex_then ?_
  refine cod_ret ?_
  refine ex_ret rfl (fun a w ha => res_one rfl rfl ha) (fun a w ha => ?_)
  exact ⟨by rfl, ha.grown (List.nil_sublist _)⟩

theorem all_c (A : Option Addr) (c : Nat) (l : List Int) (hlen : l.length ≤ 140737488355328) (w : World) (hA : RdL icell 1 w A l) : Calls Tryd.prog 98 #[.slice A l.length c] w fun e w' => e = .returned (.bool (allB l)) ∧ Grew w w' [] := by
  refine enter (N := 14) [(0, .slice A l.length c)] Tryd.func98 rfl Tryd.ntmps98 rfl rfl ?_
  refine cod_seq ?_
  refine cod_region ?_
  refine lst_assign rfl rfl ?_
  refine lst_nil ?_
  refine ex_then ?_
  refine cod_seq ?_
  refine cod_seq ?_
  refine cod_region ?_
  refine lst_move rfl rfl ?_
  refine lst_len rfl rfl Tryd.underlying25 ?_
  refine lst_move rfl rfl ?_
  refine lst_nil ?_
  refine ex_then ?_
  refine cod_block ?_
  refine cod_loop (G := Nat) (fun k => k ≤ l.length ∧ allB (l.take k) = true) (fun k => l.length - k) (fun k => [(5, .slice A l.length c), (6, .int .i64 (l.length : Int)), (7, .int .i64 (k : Int))]) (fun k => []) 0 ⟨Nat.zero_le _, rfl⟩ sbn sbl ?_
  intro k hk
  (try dsimp only at hk ⊢)
  refine cod_seq ?_
  refine cod_region ?_
  refine lst_int rfl rfl rfl bin_lss ?_
  refine lst_nil ?_
  refine ex_then ?_
  refine cod_seq ?_
  refine cod_cond_dec rfl (fun hc0 => ?_) (fun hc0 => ?_)
  · skip
    have hk' : k < l.length := by omega
    obtain ⟨b, o, rfl, hb, hcell⟩ := hA (by omega)
    obtain ⟨x, hx⟩ : ∃ x, l[k]? = some x := ⟨_, List.getElem?_eq_getElem hk'⟩
    have htake : l.take (k + 1) = l.take k ++ [x] := by rw [List.take_add_one, hx]; rfl
    refine cod_skip ?_
    refine ex_then ?_
    refine cod_seq ?_
    refine cod_block ?_
    refine cod_seq ?_
    refine cod_region ?_
    refine lst_index (j := k) rfl rfl rfl Tryd.underlying25 F.ti3 rfl hk' ?_
    refine lst_load_at (v := .int .i64 x) rfl rfl F.one3 (fun a w ha => ha.old (hcell k x hx 0 _ rfl) hb) ?_
    refine lst_assign rfl rfl ?_
    refine lst_nil ?_
    refine ex_then ?_
    refine cod_seq ?_
    refine cod_region ?_
    refine lst_move rfl rfl ?_
    refine lst_fn0 (vs := [_, _, _]) rfl rfl F.ent99 (fun a w ha => outside_c x 0 63 w) ?_
    refine lst_nil ?_
    refine ex_then ?_
    refine cod_cond_bool rfl (fun hc1 => ?_) (fun hc1 => ?_)
    · skip
      refine cod_seq ?_
      refine cod_region ?_
      refine lst_assign rfl rfl ?_
      refine lst_nil ?_
      refine ex_then ?_
      refine cod_ret ?_
      refine ex_block_ret ?_
      refine ex_then_ret ?_
      refine ex_then_ret ?_
      refine ex_block_ret ?_
      refine ex_then_ret ?_
      have hf : allB l = false := by
        unfold allB
        rw [List.all_eq_false]
        exact ⟨x, List.mem_of_getElem? hx, by simpa using hc1⟩
      refine ex_ret rfl (fun a w ha => res_one rfl rfl ha) (fun a w ha => ⟨by rw [hf], ha.grown (List.nil_sublist _)⟩)
    · skip
      refine cod_skip ?_
      refine ex_block_normal ?_
      refine ex_then ?_
      refine cod_region ?_
      refine lst_int rfl rfl rfl (fun w => bin_add w (wrap_i64' _ (by omega) (by have := hlen; omega))) ?_
      refine lst_move rfl rfl ?_
      refine lst_nil ?_
      refine ex_round (k + 1) ⟨by omega, by rw [htake]; unfold allB at hk ⊢; rw [List.all_append, hk.2]; simpa using hc1⟩ (by (try dsimp only); omega) sbn sbl
  · skip
    refine cod_exit ?_
    refine ex_then_exit ?_
    refine ex_then_exit ?_
    refine ex_block_exit ?_
    refine ex_then ?_
    refine cod_seq ?_
    refine cod_region ?_
    refine lst_assign rfl rfl ?_
    refine lst_nil ?_
    refine ex_then ?_
    refine cod_ret ?_
    have hf : allB l = true := by
      have := hk.2
      rw [List.take_of_length_le (by omega)] at this
      exact this
    refine ex_ret rfl (fun a w ha => res_one rfl rfl ha) (fun a w ha => ⟨by rw [hf], ha.grown (List.nil_sublist _)⟩)

theorem check_c (A : Option Addr) (c : Nat) (l : List RA) (w : World) (hA : RdL RA.cells 5 w A l) : Calls Tryd.prog 46 #[.slice A l.length c] w fun e w' => e = .returned (.int .i64 ((checkR l : Nat) : Int)) ∧ Grew w w' [] := by
  refine enter (N := 38) [(0, .slice A l.length c)] Tryd.func46 rfl Tryd.ntmps46 rfl rfl ?_
  refine cod_seq ?_
  refine cod_region ?_
  refine lst_assign rfl rfl ?_
  refine lst_nil ?_
  refine ex_then ?_
  refine cod_seq ?_
  refine cod_seq ?_
  refine cod_region ?_
  refine lst_move rfl rfl ?_
  refine lst_len rfl rfl Tryd.underlying22 ?_
  refine lst_int rfl rfl rfl bin_gtr ?_
  refine lst_nil ?_
  refine ex_then ?_
  refine cod_cond_dec rfl (fun hc0 => ?_) (fun hc0 => ?_)
  · skip
    refine cod_seq ?_
    refine cod_region ?_
    refine lst_assign rfl rfl ?_
    refine lst_nil ?_
    refine ex_then ?_
    refine cod_ret ?_
    refine ex_then_ret ?_
    refine ex_ret rfl (fun a w ha => res_one rfl rfl ha) (fun a w ha => ⟨by rw [show checkR l = 6 from if_pos (by omega)]; rfl, ha.grown (List.nil_sublist _)⟩)
  · skip
    have hl4 : l.length ≤ 4 := by omega
    have hcr : checkR l = firstBad l := if_neg (by omega)
    refine cod_skip ?_
    refine ex_then ?_
    refine cod_seq ?_
    refine cod_seq ?_
    refine cod_region ?_
    refine lst_move rfl rfl ?_
    refine lst_len rfl rfl Tryd.underlying22 ?_
    refine lst_move rfl rfl ?_
    refine lst_nil ?_
    refine ex_then ?_
    refine cod_block ?_
    refine cod_loop (G := Nat) (fun k => k ≤ l.length ∧ ∀ y ∈ l.take k, y.bad = 0) (fun k => l.length - k) (fun k => [(8, .slice A l.length c), (9, .int .i64 (l.length : Int)), (10, .int .i64 (k : Int))]) (fun k => []) 0 ⟨Nat.zero_le _, by simp⟩ sbn sbl ?_
    intro k hk
    (try dsimp only at hk ⊢)
    refine cod_seq ?_
    refine cod_region ?_
    refine lst_int rfl rfl rfl bin_lss ?_
    refine lst_nil ?_
    refine ex_then ?_
    refine cod_seq ?_
    refine cod_cond_dec rfl (fun hc1 => ?_) (fun hc1 => ?_)
    · skip
      have hk' : k < l.length := by omega
      obtain ⟨b, o, rfl, hb, hcell⟩ := hA (by omega)
      obtain ⟨x, hx⟩ : ∃ x, l[k]? = some x := ⟨_, List.getElem?_eq_getElem hk'⟩
      have hpos : x.bad ≠ 0 → checkR l = x.bad := by
        intro hne
        rw [hcr, ← List.take_append_drop k l, firstBad_pre hk.2, List.drop_eq_getElem_cons hk', firstBad]
        have : l[k] = x := by rw [List.getElem?_eq_getElem hk'] at hx; exact Option.some.inj hx
        rw [this, if_pos hne]
      refine cod_skip ?_
      refine ex_then ?_
      refine cod_seq ?_
      refine cod_block ?_
      refine cod_seq ?_
      refine cod_region ?_
      refine lst_index (j := k) rfl rfl rfl Tryd.underlying22 F.ti24 rfl hk' ?_
      refine lst_loadN_at (l := [.int .i64 x.needs, .int .i64 x.no, .int .i64 x.takes, .int .i64 x.leaves, .int .i64 x.cost]) rfl rfl F.agg24 F.ti24 rfl (fun a w ha j u hu => ha.old (hcell k x hx j u hu) hb) ?_
      refine lst_alloc rfl F.ti24 ?_
      intro b4
      refine lst_store rfl rfl F.ti24 rfl ?_
      refine lst_nil ?_
      refine ex_then ?_
      refine cod_block ?_
      refine cod_seq ?_
      refine cod_region ?_
      refine lst_field_z rfl rfl F.fi24_0 F.ti3 ?_
      refine lst_load rfl rfl F.one3 ?_
      refine lst_field_z rfl rfl F.fi24_1 F.ti3 ?_
      refine lst_load rfl rfl F.one3 ?_
      refine lst_field_z rfl rfl F.fi24_2 F.ti3 ?_
      refine lst_load rfl rfl F.one3 ?_
      refine lst_field_z rfl rfl F.fi24_3 F.ti3 ?_
      refine lst_load rfl rfl F.one3 ?_
      refine lst_lit (vs := [(0, _), (1, _), (2, _), (3, _)]) rfl rfl Tryd.underlying25 F.ti3 rfl rfl rfl ?_
      intro b23
      refine lst_fn0 (vs := [_]) rfl rfl F.ent98 (fun a w ha => all_c (some ⟨b23, 0, none⟩) 4 x.four (show (4 : Nat) ≤ _ by decide) w (blk_reads (cells := icell) (size := 1) ha (fun _ => rfl) rfl)) ?_
      refine lst_not rfl rfl ?_
      refine lst_assign rfl rfl ?_
      refine lst_nil ?_
      refine ex_then ?_
      refine cod_cond_bool rfl (fun hc2 => ?_) (fun hc2 => ?_)
      · skip
        refine cod_seq ?_
        refine cod_region ?_
        refine lst_assign rfl rfl ?_
        refine lst_nil ?_
        refine ex_then ?_
        refine cod_ret ?_
        refine ex_block_ret ?_
        refine ex_block_ret ?_
        refine ex_then_ret ?_
        refine ex_then_ret ?_
        refine ex_block_ret ?_
        refine ex_then_ret ?_
        have hb1 : x.bad = 1 := if_pos (by simpa using hc2)
        refine ex_ret rfl (fun a w ha => res_one rfl rfl ha) (fun a w ha => ⟨by rw [hpos (by omega), hb1]; rfl, ha.grown (List.nil_sublist _)⟩)
      · skip
        have h4 : allB x.four = true := by simpa using hc2
        have h4' := h4
        simp only [allB, RA.four, List.all_cons, List.all_nil, Bool.and_true, Bool.and_eq_true, inB_true] at h4'
        obtain ⟨n1, hn1⟩ := Int.eq_ofNat_of_zero_le h4'.1.1
        obtain ⟨n2, hn2⟩ := Int.eq_ofNat_of_zero_le h4'.2.1.1
        have hn1' : n1 < 64 := by omega
        have hn2' : n2 < 64 := by omega
        have hbad : x.bad = if n1 &&& n2 ≠ 0 then 9 else if inB x.cost 1 9 = false then 1 else 0 := by
          unfold RA.bad
          rw [if_neg (by rw [h4]; simp), hn1, hn2, Int.toNat_natCast, Int.toNat_natCast]
        rw [hn1, hn2]
        refine cod_seq ?_
        refine cod_region ?_
        refine lst_field_z rfl rfl F.fi24_0 F.ti3 ?_
        refine lst_load rfl rfl F.one3 ?_
        refine lst_field_z rfl rfl F.fi24_1 F.ti3 ?_
        refine lst_load rfl rfl F.one3 ?_
        refine lst_int rfl rfl rfl (fun w => bin_and w (i64_and n1 n2 (by omega) (by omega))) ?_
        refine lst_int rfl rfl rfl bin_neq ?_
        refine lst_assign rfl rfl ?_
        refine lst_nil ?_
        refine ex_then ?_
        refine cod_cond_dec rfl (fun hc3 => ?_) (fun hc3 => ?_)
        · skip
          refine cod_seq ?_
          refine cod_region ?_
          refine lst_assign rfl rfl ?_
          refine lst_nil ?_
          refine ex_then ?_
          refine cod_ret ?_
          refine ex_block_ret ?_
          refine ex_block_ret ?_
          refine ex_then_ret ?_
          refine ex_then_ret ?_
          refine ex_block_ret ?_
          refine ex_then_ret ?_
          have hb9 : x.bad = 9 := by rw [hbad, if_pos (by omega)]
          refine ex_ret rfl (fun a w ha => res_one rfl rfl ha) (fun a w ha => ⟨by rw [hpos (by omega), hb9]; rfl, ha.grown (List.nil_sublist _)⟩)
        · skip
          have h5 : ¬ (n1 &&& n2 ≠ 0) := by omega
          rw [if_neg h5] at hbad
          refine cod_seq ?_
          refine cod_region ?_
          refine lst_field_z rfl rfl F.fi24_4 F.ti3 ?_
          refine lst_load rfl rfl F.one3 ?_
          refine lst_fn0 (vs := [_, _, _]) rfl rfl F.ent99 (fun a w ha => outside_c x.cost 1 9 w) ?_
          refine lst_assign rfl rfl ?_
          refine lst_nil ?_
          refine ex_then ?_
          refine cod_cond_bool rfl (fun hc4 => ?_) (fun hc4 => ?_)
          · skip
            refine cod_seq ?_
            refine cod_region ?_
            refine lst_assign rfl rfl ?_
            refine lst_nil ?_
            refine ex_then ?_
            refine cod_ret ?_
            refine ex_block_ret ?_
            refine ex_block_ret ?_
            refine ex_then_ret ?_
            refine ex_then_ret ?_
            refine ex_block_ret ?_
            refine ex_then_ret ?_
            have hb1 : x.bad = 1 := by rw [hbad, if_pos (by simpa using hc4)]
            refine ex_ret rfl (fun a w ha => res_one rfl rfl ha) (fun a w ha => ⟨by rw [hpos (by omega), hb1]; rfl, ha.grown (List.nil_sublist _)⟩)
          · skip
            have hb0 : x.bad = 0 := by rw [hbad, if_neg (by simpa using hc4)]
            have htake : l.take (k + 1) = l.take k ++ [x] := by rw [List.take_add_one, hx]; rfl
            refine cod_skip ?_
            refine ex_block_normal ?_
            refine ex_block_normal ?_
            refine ex_then ?_
            refine cod_region ?_
            refine lst_int rfl rfl rfl (fun w => bin_add w (wrap_i64' _ (by omega) (by omega))) ?_
            refine lst_move rfl rfl ?_
            refine lst_nil ?_
            refine ex_round (k + 1) ⟨by omega, by rw [htake]; intro y hy; rcases List.mem_append.1 hy with h | h; exact hk.2 y h; simp at h; subst h; exact hb0⟩ (by (try dsimp only); omega) sbn sbl
    · skip
      refine cod_exit ?_
      refine ex_then_exit ?_
      refine ex_then_exit ?_
      refine ex_block_exit ?_
      refine ex_then ?_
      refine cod_seq ?_
      refine cod_region ?_
      refine lst_assign rfl rfl ?_
      refine lst_nil ?_
      refine ex_then ?_
      refine cod_ret ?_
      have hz : checkR l = 0 := by
        have h := hk.2
        rw [List.take_of_length_le (by omega)] at h
        rw [hcr, ← List.append_nil l, firstBad_pre h]; rfl
      refine ex_ret rfl (fun a w ha => res_one rfl rfl ha) (fun a w ha => ⟨by rw [hz]; rfl, ha.grown (List.nil_sublist _)⟩)

end Go.Proofs.YtofkhehcnfiopaaDoor.N
namespace Go.Proofs.YtofkhehcnfiopaaDoor.N
open Go Go.RowKit Go.Proofs
set_option linter.unusedSectionVars false
variable [I : Sys]

/-- Where the parts of a struct or an array lie, and how many cells each has. -/
def Places (P : Program) (t : TypeId) (pl : List (Nat × Nat)) : Prop :=
  (∃ fs, P.underlying t = some (.struct fs) ∧ fs.toList.mapM (fun f => (P.info? f.type).map fun i => (f.offset, i.size)) = some pl) ∨
  (∃ n e s, P.underlying t = some (.array n e) ∧ (P.info? e).map (·.size) = some s ∧ pl = (List.range n).map (fun j => (j * s, s)))
inductive Filled (pl : List (Nat × Nat)) : List Value → List (Nat × Value) → List Value → Prop
  | nil (z : List Value) : Filled pl z [] z
  | cons {i off : Nat} {v : Value} {z lv l : List Value} {ps : List (Nat × Value)} [h : Cells v lv] (hp : pl[i]? = some (off, lv.length)) (hb : Nat.ble (off + lv.length) z.length = true)
      (h' : Filled pl (z.take off ++ lv ++ z.drop (off + lv.length)) ps l) : Filled pl z ((i, v) :: ps) l
theorem fill_filled {pl : List (Nat × Nat)} {place : Nat → Option (Nat × Nat)} (hpl : ∀ i q, pl[i]? = some q → place i = some q) {z l : List Value} {ps : List (Nat × Value)} (h : Filled pl z ps l) : Instr.fill place z.toArray ps = some l.toArray := by
  induction h with
  | nil z => rfl
  | @cons i off v z lv l ps hc hp hb _ ih =>
    have hb' : off + lv.length ≤ z.length := by simpa [Nat.ble_eq] using hb
    unfold Instr.fill
    rw [hpl _ _ hp]
    simp only [hc.eq]
    rw [if_neg (by simp; omega)]
    have hfold := foldl_set lv z.toArray off 0 (by simp; omega)
    simp only [Nat.add_zero] at hfold
    have hz : lv.toArray.zipIdx.foldl (fun cs (q : Value × Nat) => cs.setIfInBounds (off + q.2) q.1) z.toArray = (z.take off ++ lv ++ z.drop (off + lv.length)).toArray := by
      apply Array.ext'
      rw [← Array.foldl_toList]
      simpa using hfold
    rw [show (fun (cs : Array Value) (x : Value × Nat) => match x with | (c, j) => cs.setIfInBounds (off + j) c) = (fun (cs : Array Value) (q : Value × Nat) => cs.setIfInBounds (off + q.2) q.1) from rfl, hz]
    exact ih
theorem run_built {P : Program} {t : TypeId} {z l : List Value} {n m : Nat} {pl : List (Nat × Nat)} {ps : List (Nat × Value)} (hi : TI P t (.agg z.toArray) n m) (hpl : Places P t pl) (h : Filled pl z ps l) (w : World) :
    (Instr.build t ps.toArray).run P w = .ok (.agg l.toArray) w := by
  obtain ⟨i, hi, hz, _⟩ := hi
  refine run_build w t _ _ ?_
  unfold Program.built
  rcases hpl with ⟨fs, hu, hfs⟩ | ⟨k, e, s, hu, hs, rfl⟩
  · have hf := fill_filled (place := fun i => pl.toArray[i]?) (fun i q hq => by simpa using hq) h
    simp only [hi, hu, hz, hfs]
    exact hf
  · obtain ⟨j, hj, hjs⟩ := Option.map_eq_some_iff.1 hs
    have hf := fill_filled (place := fun i => some (i * s, s)) (fun i q hq => by
      rw [List.getElem?_map] at hq
      obtain ⟨a, ha, hq⟩ := Option.map_eq_some_iff.1 hq
      have hai : a = i := by
        rcases Nat.lt_or_ge i k with h1 | h1
        · rw [List.getElem?_range h1] at ha; exact (Option.some.inj ha).symm
        · rw [List.getElem?_eq_none (by simpa using h1)] at ha; cases ha
      rw [← hq, hai]) h
    simp only [hi, hu, hz, hj, hjs]
    exact hf
section
variable {C : Ctx} {fr : List (Nat × Value)} {hp hp' : List Res} {a : Act} {w : World} {ops : Array Oper} {Q : Exit → Act → World → Prop} {rest : List Oper}
  {d : Nat} {ty : TypeId} {pos : String} {after : Array Edge}
/-- A struct's or an array's literal. -/
theorem lst_struct {t : TypeId} {parts : Array (Nat × Operand)} {vs : List (Nat × Value)} {z l l' : List Value} {n m : Nat} {pl : List (Nat × Nat)} (hd : Nat.blt d C.N = true)
    (hx : parts.toList.map (fun q => (q.1, ev fr q.2)) = vs.map (fun q => (q.1, some q.2))) (hi : TI C.P t (.agg z.toArray) n m) (hpl : Places C.P t pl) (h : Filled pl z vs l) (hl : l = l')
    (k : Lst C ops Q rest ((d, .agg l'.toArray) :: fr) hp) : Lst C ops Q (⟨some d, .build t parts, ty, pos, after, none⟩ :: rest) fr hp := by
  subst hl
  exact lst_build hd hx (run_built hi hpl h) k
theorem yld_struct {dst : Option Tmp} {t : TypeId} {parts : Array (Nat × Operand)} {vs : List (Nat × Value)} {z l l' : List Value} {n m : Nat} {pl : List (Nat × Nat)}
    (hx : parts.toList.map (fun q => (q.1, ev fr q.2)) = vs.map (fun q => (q.1, some q.2))) (hi : TI C.P t (.agg z.toArray) n m) (hpl : Places C.P t pl) (h : Filled pl z vs l) (hl : l = l') :
    Yld C ⟨dst, .build t parts, ty, pos, after, none⟩ fr hp (.agg l'.toArray) := by
  subst hl
  refine ⟨rfl, fun a w ha => ⟨tame_build .., ?_⟩⟩
  have h' : parts.map (fun (i, x) => (i, a.eval x)) = vs.toArray := by
    have : ∀ (l : List (Nat × Operand)) (vs : List (Nat × Value)), l.map (fun q => (q.1, ev fr q.2)) = vs.map (fun q => (q.1, some q.2)) → l.map (fun (q : Nat × Operand) => (q.1, a.eval q.2)) = vs := by
      intro l
      induction l with
      | nil => intro vs h; cases vs with
        | nil => rfl
        | cons => simp at h
      | cons x l ih =>
        intro vs h
        cases vs with
        | nil => simp at h
        | cons v vs =>
          simp only [List.map_cons, List.cons.injEq, Prod.mk.injEq] at h
          rw [List.map_cons, ha.eval h.1.2, ih vs h.2, h.1.1]
    obtain ⟨l⟩ := parts
    simp only [List.map_toArray]
    rw [show (fun (x : Nat × Operand) => match x with | (i, x) => (i, a.eval x)) = (fun (q : Nat × Operand) => (q.1, a.eval q.2)) from rfl, this l vs hx]
  simp only [execOp, h', Sem.run_bind, run_built hi hpl h, Result.andThen_ok, Sem.run_pure]
theorem lst_index_lit {x y : Operand} {t e : TypeId} {b o j len n m off : Nat} {kd : IntKind} {z : Value} (hd : Nat.blt d C.N = true) (hx : ev fr x = some (.pointer (some ⟨b, o, none⟩))) (hy : ev fr y = some (.int kd (j : Int)))
    (ht : C.P.underlying t = some (.array len e)) (he : TI C.P e z n m) (hj : Nat.blt j len = true) (ho : o + j * n = off) (k : Lst C ops Q rest ((d, .pointer (some ⟨b, off, none⟩)) :: fr) hp) : Lst C ops Q (⟨some d, .indexAddr t x y, ty, pos, after, none⟩ :: rest) fr hp := by
  subst ho
  exact lst_index_arr hd hx hy ht he rfl (lt_of_blt hj) k
theorem yld_index_lit {dst : Option Tmp} {x y : Operand} {t e : TypeId} {b o j len n m off : Nat} {kd : IntKind} {z : Value} (hx : ev fr x = some (.pointer (some ⟨b, o, none⟩))) (hy : ev fr y = some (.int kd (j : Int)))
    (ht : C.P.underlying t = some (.array len e)) (he : TI C.P e z n m) (hj : Nat.blt j len = true) (ho : o + j * n = off) : Yld C ⟨dst, .indexAddr t x y, ty, pos, after, none⟩ fr hp (.pointer (some ⟨b, off, none⟩)) := by
  subst ho
  exact yld_index_arr hx hy ht he rfl (lt_of_blt hj)
theorem yld_convert {dst : Option Tmp} {x : Operand} {s t : TypeId} {kd ke : IntKind} {m r : Int} {ds : TypeDesc} (hx : ev fr x = some (.int ke m)) (hs : C.P.underlying s = some ds) (ht : C.P.underlying t = some (.int kd))
    (hr : kd.wrap m = r) : Yld C ⟨dst, .convert s t x, ty, pos, after, none⟩ fr hp (.int kd r) := by
  refine ⟨rfl, fun a w ha => ⟨tame_convertInt (ha.eval hx) hs ht, ?_⟩⟩
  simp only [execOp, ha.eval hx, convert, Sem.run_bind, run_underlying hs, run_underlying ht, Result.andThen_ok, Conv.intToInt, Sem.run_pure, hr]
theorem yld_shl {dst : Option Tmp} {x y : Operand} {t t' : TypeId} {kd ke : IntKind} {m n r : Int} (hx : ev fr x = some (.int kd m)) (hy : ev fr y = some (.int ke n)) (h0 : 0 ≤ n)
    (hr : kd.wrap (m * 2 ^ (min n.toNat kd.bits)) = r) : Yld C ⟨dst, .binOp .shl t x y t', ty, pos, after, none⟩ fr hp (.int kd r) := by
  refine ⟨rfl, fun a w ha => ⟨tame_binInt (ha.eval hx) (ha.eval hy), ?_⟩⟩
  subst hr
  simp [execOp, ha.eval hx, ha.eval hy, eqGuard, binOp, Op.shift, Int.not_lt.2 h0]
theorem yld_bin {dst : Option Tmp} {op : BinOp} {x y : Operand} {t t' : TypeId} {u u' : Value} {v : Value} [htb : TB u u'] (hx : ev fr x = some u) (hy : ev fr y = some u')
    (hr : ∀ w : World, (do eqGuard op t x y u u'; binOp op t u u' : Sem Value).run C.P w = .ok v w) : Yld C ⟨dst, .binOp op t x y t', ty, pos, after, none⟩ fr hp v := by
  refine ⟨rfl, fun a w ha => ⟨tame_value _ (by rw [ha.eval hx, ha.eval hy]; exact htb.tame ..), ?_⟩⟩
  have := hr w
  simp only [execOp, ha.eval hx, ha.eval hy, Sem.run_bind] at this ⊢
  rw [this]; rfl
theorem yields_undef (ha : At C fr hp a w) {j t : Nat} (hj : (ops[j]?).bind (·.dst) = some t) (hv : look fr t = some undef) : yielded ops a.tmps j = none := by
  have h := ha.slots t _ hv
  unfold yielded
  rw [hj]
  simp only [Option.bind_some]
  cases hx : a.tmps[t]? with
  | none => rfl
  | some u =>
    rw [Array.getD_eq_getD_getElem?, hx] at h
    have hu : u = undef := h
    rw [hu]; rfl
/-- An operation under a guard that has no value. -/
theorem lst_offu {op : Op} {j t d : Nat} {b : Bool} (hd : Nat.blt d C.N = true) (hj : (ops[j]?).bind (·.dst) = some t) (hv : look fr t = some undef)
    (k : Lst C ops Q rest ((d, undef) :: fr) hp) : Lst C ops Q (⟨some d, op, ty, pos, after, some (j, b)⟩ :: rest) fr hp := by
  intro a w ha
  simp only [wpList]
  have e : Region.wanted ⟨some d, op, ty, pos, after, some (j, b)⟩ (yielded ops a.tmps) = false := by
    simp [Region.wanted, yields_undef ha hj hv]
  rw [if_neg (by rw [e]; simp)]
  exact k _ _ (ha.put (lt_of_blt hd) _)
/-- What is left when some things are taken out. -/
inductive Dk
  | b (n : Nat)
  | q (A : Option Addr)
  | r (A : Option Addr)
class Drp (bs : List Dk) (hp : List Res) (hp' : outParam (List Res)) : Prop where
  sub : hp'.Sublist hp
instance Drp.nil (hp : List Res) : Drp [] hp hp := ⟨List.Sublist.refl _⟩
class Drp1 (b : Dk) (hp : List Res) (hp' : outParam (List Res)) : Prop where
  sub : hp'.Sublist hp
instance Drp1.tail (b : Dk) (x : Res) (l l' : List Res) [h : Drp1 b l l'] : Drp1 b (x :: l) (x :: l') := ⟨h.sub.cons_cons x⟩
instance Drp1.b (b : Nat) (o : Obj) (l : List Res) : Drp1 (.b b) (.blk b o :: l) l := ⟨List.Sublist.cons _ (List.Sublist.refl _)⟩
instance Drp1.q (A : Option Addr) (e size n c : Nat) (xs : List Value) (l : List Res) : Drp1 (.q A) (.que e size A n c xs :: l) l := ⟨List.Sublist.cons _ (List.Sublist.refl _)⟩
instance Drp1.r (A : Option Addr) (e size n c : Nat) (xs : List Value) (l : List Res) : Drp1 (.r A) (.row e size A n c xs :: l) l := ⟨List.Sublist.cons _ (List.Sublist.refl _)⟩
instance Drp.cons (b : Dk) (bs : List Dk) (l l' l'' : List Res) [h : Drp1 b l l'] [h' : Drp bs l' l''] : Drp (b :: bs) l l'' := ⟨h'.sub.trans h.sub⟩
theorem any_begin {id : Nat} {l : List Oper} {hpS : List Res} (bs : List Dk) (hm : C.P.follows .mixedOrders = true) (n : Nat) (hn : l.length = n) (lst : List Bool) (hl : Array.replicate n false = lst.toArray) [hs : Drp bs hp hpS] (h : Any C l.toArray Q hpS n lst.toArray fr hp) :
    Cod C (.region id l.toArray true) Q fr hp := any_start hm n hn lst hl hs.sub h
theorem ex_panic {fn : Func} {R : Ending → World → Prop} {ch : List PanicEntry} (hds : C.ds = []) (k : ∀ a w, At C fr hp a w → R (.panicked ch) w) : Ex C (bodyPost C.P fn R) (.panic ch) fr hp :=
  fun a w ha => ⟨ha.defs.trans hds, k a w ha⟩
end
end Go.Proofs.YtofkhehcnfiopaaDoor.N
namespace Go.Proofs.YtofkhehcnfiopaaDoor.N
open Go Go.RowKit Go.Proofs
set_option linter.unusedSectionVars false
variable [I : Sys]
theorem F.agg75 : aggB Tryd.prog 75 = true := by unfold aggB; rw [Tryd.underlying75]
theorem F.ent46 : Enters Tryd.prog 46 := enters_of Tryd.func46 rfl (by kernel_rfl)
theorem F.pl75 : Places Tryd.prog 75 [(0, 1), (1, 1)] := .inl ⟨_, Tryd.underlying75, by kernel_rfl⟩
theorem F.pl89 : Places Tryd.prog 89 [(0, 5)] := .inl ⟨_, Tryd.underlying89, by kernel_rfl⟩
theorem F.ti75 : TI Tryd.prog 75 (.agg [.slice none 0 0, .int .u8 0].toArray) 2 32 := TI.of (by kernel_rfl)
theorem begin_ok (A : Option Addr) (c : Nat) (ags : List Ag) (hok : Oks ags) (w : World) (hA : RdL Ag.cells 5 w A ags) : Calls Tryd.prog 75 #[.slice A ags.length c] w fun e w' => ∃ A' c', e = .returned (.agg [.slice A' ags.length c', .int .u8 (usedAll ags.length : Nat)].toArray) ∧ Grew w w' [.row 89 5 A' ags.length c' (ags.flatMap Ag.cells)] := by
  refine enter (N := 33) [(0, .slice A ags.length c)] Tryd.func75 rfl Tryd.ntmps75 rfl rfl ?_
  refine cod_seq ?_
  refine cod_region ?_
  refine lst_alloc rfl F.ti75 ?_
  intro b2
  refine lst_nil ?_
  refine ex_then ?_
  refine cod_seq ?_
  refine cod_seq ?_
  refine cod_region ?_
  refine lst_move rfl rfl ?_
  refine lst_fn0 (vs := [_]) rfl rfl F.ent46 (fun a w ha => (by have h := check_c A c (ags.map Ag.raw) w (hA.raw.later ha.below); rw [checkR_raw hok] at h; simpa only [List.length_map] using h)) ?_
  refine lst_assign rfl rfl ?_
  refine lst_nil ?_
  refine ex_then ?_
  refine cod_seq ?_
  refine cod_region ?_
  refine lst_move rfl rfl ?_
  refine lst_int rfl rfl rfl bin_neq ?_
  refine lst_nil ?_
  refine ex_then ?_
  refine cod_cond_dec rfl (fun hc0 => ?_) (fun hc0 => ?_)
  · skip
    exact (hc0 rfl).elim -- done
  · skip
    refine cod_skip ?_
    refine ex_then ?_
    refine cod_seq ?_
    refine cod_region ?_
    refine lst_move rfl rfl ?_
    refine lst_len rfl rfl Tryd.underlying22 ?_
    refine lst_shl rfl rfl rfl (by omega) (shl_one hok.1) ?_
    refine lst_int rfl rfl rfl (fun w => bin_sub w (sub_one hok.1)) ?_
    refine lst_struct (vs := [(1, _)]) (l' := [_, _]) rfl rfl F.ti75 F.pl75 (.cons rfl rfl (.nil _)) rfl ?_
    refine lst_alloc rfl F.ti75 ?_
    intro b4
    refine lst_store rfl rfl F.ti75 rfl ?_
    refine lst_nil ?_
    refine ex_then ?_
    refine cod_seq ?_
    refine cod_seq ?_
    refine cod_region ?_
    refine lst_move rfl rfl ?_
    refine lst_len rfl rfl Tryd.underlying22 ?_
    refine lst_move rfl rfl ?_
    refine lst_nil ?_
    refine ex_then ?_
    refine cod_block ?_
    refine cod_nil 89 5 ?_
    refine cod_loop (G := Nat × Option Addr × Nat) (fun g => g.1 ≤ ags.length) (fun g => ags.length - g.1) (fun g => [(2, .pointer (some ⟨b2, 0, none⟩)), (4, .pointer (some ⟨b4, 0, none⟩)), (18, .slice A ags.length c), (19, .int .i64 (ags.length : Int)), (20, .int .i64 (g.1 : Int))]) (fun g => [.row 89 5 g.2.1 g.1 g.2.2 ((ags.take g.1).flatMap Ag.cells), .blk b4 (.cells [.slice g.2.1 g.1 g.2.2, .int .u8 (usedAll ags.length : Nat)].toArray 75 (0, 0)), .blk b2 (.cells [.slice none 0 0, .int .u8 0].toArray 75 (0, 0))]) (0, none, 0) (Nat.zero_le _) sbn sbl ?_
    rintro ⟨k, A', c'⟩ hk
    (try dsimp only at hk ⊢)
    refine cod_seq ?_
    refine cod_region ?_
    refine lst_int rfl rfl rfl bin_lss ?_
    refine lst_nil ?_
    refine ex_then ?_
    refine cod_seq ?_
    refine cod_cond_dec rfl (fun hc1 => ?_) (fun hc1 => ?_)
    · skip
      have hk' : k < ags.length := by omega
      obtain ⟨b, o, rfl, hb, hcell⟩ := hA (by omega)
      obtain ⟨x, hx⟩ : ∃ x, ags[k]? = some x := ⟨_, List.getElem?_eq_getElem hk'⟩
      have hxo : x.ok := hok.2 x (List.mem_of_getElem? hx)
      have hxd : ags.getD k default = x := by rw [List.getD_eq_getElem?_getD, hx]; rfl
      refine cod_skip ?_
      refine ex_then ?_
      refine cod_seq ?_
      refine cod_block ?_
      refine cod_seq ?_
      refine cod_region ?_
      refine lst_index (j := k) rfl rfl rfl Tryd.underlying22 F.ti24 rfl hk' ?_
      refine lst_loadN_at (l := [.int .i64 (x.needs : Int), .int .i64 (x.no : Int), .int .i64 (x.takes : Int), .int .i64 (x.leaves : Int), .int .i64 (x.cost : Int)]) rfl rfl F.agg24 F.ti24 rfl (fun a w ha j u hu => ha.old (hcell k x hx j u hu) hb) ?_
      refine lst_alloc rfl F.ti24 ?_
      intro b6
      refine lst_store rfl rfl F.ti24 rfl ?_
      refine lst_nil ?_
      refine ex_then ?_
      refine cod_region ?_
      refine lst_field_z rfl rfl F.fi75_0 F.ti72 ?_
      refine lst_load rfl rfl F.one72 ?_
      refine lst_loadN rfl rfl F.agg24 F.ti24 ?_
      refine lst_struct (vs := [(0, _)]) (l' := [_, _, _, _, _]) rfl rfl F.ti89 F.pl89 (.cons rfl rfl (.nil _)) rfl ?_
      refine lst_litN (vs := [(0, _)]) [_, _, _, _, _] rfl rfl Tryd.underlying72 F.ti89 rfl rfl rfl ⟨rfl, [_, _, _, _, _], [], rfl, rfl, rfl, rfl⟩ ?_
      intro b28
      refine lst_append rfl rfl rfl Tryd.underlying72 F.ti89 rfl rfl rfl (by have := hok.1; unfold maxLen; omega) (by have := hok.1; omega) ?_
      intro A1 c1
      refine lst_field_z rfl rfl F.fi75_0 F.ti72 ?_
      refine lst_store rfl rfl F.ti72 rfl ?_
      refine lst_nil ?_
      refine ex_block_normal ?_
      refine ex_then ?_
      refine cod_region ?_
      refine lst_int rfl rfl rfl (fun w => bin_add w (wrap_i64' _ (by omega) (by have := hok.1; omega))) ?_
      refine lst_move rfl rfl ?_
      refine lst_nil ?_
      have e : (ags.take (k + 1)).flatMap Ag.cells = (ags.take k).flatMap Ag.cells ++ [.int .i64 (x.needs : Int), .int .i64 (x.no : Int), .int .i64 (x.takes : Int), .int .i64 (x.leaves : Int), .int .i64 (x.cost : Int)] := by rw [List.take_add_one, hx, List.flatMap_append]; rfl
      refine ex_round (k + 1, A1, c1) (by (try dsimp only); omega) (by (try dsimp only); omega) (by (try dsimp only); (try rw [e]); repeat (first | exact Sub.nil _ | refine Sub.cons rfl ?_)) (by (try dsimp only); (try rw [e]); repeat (first | exact List.Sublist.refl _ | exact List.nil_sublist _ | refine List.Sublist.cons_cons _ ?_ | refine List.Sublist.cons _ ?_))
    · skip
      refine cod_exit ?_
      refine ex_then_exit ?_
      refine ex_then_exit ?_
      refine ex_block_exit ?_
      refine ex_then ?_
      refine cod_seq ?_
      refine cod_region ?_
      refine lst_loadN rfl rfl F.agg75 F.ti75 ?_
      refine lst_store rfl rfl F.ti75 rfl ?_
      refine lst_nil ?_
      refine ex_then ?_
      refine cod_ret ?_
      have hfin : ags.length = k := by omega
      subst hfin
      rw [List.take_length]
      refine ex_ret rfl (fun a w ha => by exact res_cellN (ha := ha) rfl rfl F.agg75 F.ti75 rfl) (fun a w ha => ⟨A', c', rfl, ha.grown sbl⟩)

theorem begin_bad (A : Option Addr) (c : Nat) (l : List RA) (hn : checkR l ≠ 0) (w : World) (hA : RdL RA.cells 5 w A l) : Calls Tryd.prog 75 #[.slice A l.length c] w fun e w' => e = .panicked [{ v := .iface 133 (.int .i64 ((checkR l : Nat) : Int)), recovered := false }] ∧ Grew w w' [] := by
  refine enter (N := 33) [(0, .slice A l.length c)] Tryd.func75 rfl Tryd.ntmps75 rfl rfl ?_
  refine cod_seq ?_
  refine cod_region ?_
  refine lst_alloc rfl F.ti75 ?_
  intro b2
  refine lst_nil ?_
  refine ex_then ?_
  refine cod_seq ?_
  refine cod_seq ?_
  refine cod_region ?_
  refine lst_move rfl rfl ?_
  refine lst_fn0 (vs := [_]) rfl rfl F.ent46 (fun a w ha => check_c A c l w (hA.later ha.below)) ?_
  refine lst_assign rfl rfl ?_
  refine lst_nil ?_
  refine ex_then ?_
  refine cod_seq ?_
  refine cod_region ?_
  refine lst_move rfl rfl ?_
  refine lst_int rfl rfl rfl bin_neq ?_
  refine lst_nil ?_
  refine ex_then ?_
  refine cod_cond_dec rfl (fun hc0 => ?_) (fun hc0 => ?_)
  · skip
    refine cod_region ?_
    refine lst_move rfl rfl ?_
    refine lst_makeInterface rfl rfl Tryd.underlying133 rfl ?_
    refine lst_panic rfl ?_
    refine ex_then_panic ?_
    exact ex_panic rfl (fun a w ha => ⟨rfl, ha.grown (List.nil_sublist _)⟩)
  · skip
    exact (hc0 (by omega)).elim -- done

theorem melt_ok (f : Nat) (hf : f < 64) (w : World) : Calls Tryd.prog 76 #[.int .i64 (f : Int)] w fun e w' => e = .returned (.int .u8 (f : Int)) ∧ Grew w w' [] := by
  refine enter (N := 11) [(0, .int .i64 (f : Int))] Tryd.func76 rfl Tryd.ntmps76 rfl rfl ?_
  refine cod_seq ?_
  refine cod_region ?_
  refine lst_assign rfl rfl ?_
  refine lst_nil ?_
  refine ex_then ?_
  refine cod_seq ?_
  refine cod_seq ?_
  refine cod_region ?_
  refine lst_move rfl rfl ?_
  refine lst_lit (vs := [(0, _)]) rfl rfl Tryd.underlying25 F.ti3 rfl rfl rfl ?_
  intro b4
  refine lst_fn0 (vs := [_]) rfl rfl F.ent98 (fun a w ha => (by have h := all_c (some ⟨b4, 0, none⟩) 1 [(f : Int)] (show (1 : Nat) ≤ _ by decide) w (blk_reads (cells := icell) (size := 1) ha (fun _ => rfl) rfl); rw [show allB [(f : Int)] = inB (f : Int) 0 63 from by simp [allB]] at h; exact h)) ?_
  refine lst_not rfl rfl ?_
  refine lst_nil ?_
  refine ex_then ?_
  refine cod_cond_bool rfl (fun hc0 => ?_) (fun hc0 => ?_)
  · skip
    have : inB (f : Int) 0 63 = true := by rw [inB_true]; omega
    rw [this] at hc0; cases hc0 -- done
  · skip
    refine cod_skip ?_
    refine ex_then ?_
    refine cod_seq ?_
    refine cod_region ?_
    refine lst_move rfl rfl ?_
    refine lst_convert rfl rfl Tryd.underlying3 Tryd.underlying77 (wrap_u8 _ (by omega)) ?_
    refine lst_int rfl rfl rfl (fun w => bin_and w (u8_and f 63 (by omega) (by omega))) ?_
    refine lst_assign rfl rfl ?_
    refine lst_nil ?_
    refine ex_then ?_
    refine cod_ret ?_
    have e : f &&& 63 = f := Nat.and_two_pow_sub_one_of_lt_two_pow (n := 6) hf
    refine ex_ret rfl (fun a w ha => res_one rfl rfl ha) (fun a w ha => ⟨by rw [e], ha.grown (List.nil_sublist _)⟩)

theorem melt_bad (n : Int) (hn : inB n 0 63 = false) (w : World) : Calls Tryd.prog 76 #[.int .i64 n] w fun e w' => e = .panicked [{ v := .iface 133 (.int .i64 1), recovered := false }] ∧ Grew w w' [] := by
  refine enter (N := 11) [(0, .int .i64 n)] Tryd.func76 rfl Tryd.ntmps76 rfl rfl ?_
  refine cod_seq ?_
  refine cod_region ?_
  refine lst_assign rfl rfl ?_
  refine lst_nil ?_
  refine ex_then ?_
  refine cod_seq ?_
  refine cod_seq ?_
  refine cod_region ?_
  refine lst_move rfl rfl ?_
  refine lst_lit (vs := [(0, _)]) rfl rfl Tryd.underlying25 F.ti3 rfl rfl rfl ?_
  intro b4
  refine lst_fn0 (vs := [_]) rfl rfl F.ent98 (fun a w ha => (by have h := all_c (some ⟨b4, 0, none⟩) 1 [n] (show (1 : Nat) ≤ _ by decide) w (blk_reads (cells := icell) (size := 1) ha (fun _ => rfl) rfl); rw [show allB [n] = inB n 0 63 from by simp [allB]] at h; exact h)) ?_
  refine lst_not rfl rfl ?_
  refine lst_nil ?_
  refine ex_then ?_
  refine cod_cond_bool rfl (fun hc0 => ?_) (fun hc0 => ?_)
  · skip
    refine cod_region ?_
    refine lst_makeInterface rfl rfl Tryd.underlying133 rfl ?_
    refine lst_panic rfl ?_
    refine ex_then_panic ?_
    exact ex_panic rfl (fun a w ha => ⟨rfl, ha.grown (List.nil_sublist _)⟩)
  · skip
    rw [hn] at hc0; cases hc0 -- done

end Go.Proofs.YtofkhehcnfiopaaDoor.N
namespace Go.Proofs.YtofkhehcnfiopaaDoor.N
open Go Go.RowKit Go.Proofs
set_option linter.unusedSectionVars false
variable [I : Sys]

/-- A team: three sets of faults. -/
abbrev Tm := Nat × Nat × Nat
def tcells (t : Tm) : List Value := [.int .u8 (t.1 : Int), .int .u8 (t.2.1 : Int), .int .u8 (t.2.2 : Int)]
def tv (t : Tm) : Value := .agg (tcells t).toArray
def Tm.ok (t : Tm) : Prop := t.1 < 256 ∧ t.2.1 < 256 ∧ t.2.2 < 256
def tls (t : Tm) : List Go.Lit := [.int .u8 (t.1 : Int), .int .u8 (t.2.1 : Int), .int .u8 (t.2.2 : Int)]
theorem teamLaw : WideMaps.KeyLaw Tryd.prog 79 := deep_law (m := 2) (by omega) (by kernel_rfl) (by kernel_rfl) (by rw [Tryd.underlying79])
theorem kt79 : Tryd.prog.keyType 79 = true := by kernel_rfl
theorem tsz : Tryd.prog.types.size + 1 = (Tryd.prog.types.size - 1) + 1 + 1 := by kernel_rfl
theorem co77 : Tryd.prog.cellsOf 77 = 1 := by kernel_rfl
theorem co79 : Tryd.prog.cellsOf 79 = 3 := by kernel_rfl
theorem u8wf (n : Nat) (h : n < 256) : (Go.Lit.int .u8 (n : Int)).wf = true := by
  simp [Go.Lit.wf, IntKind.min, IntKind.max, IntKind.signed, IntKind.bits]
  omega
theorem keyLits_u8 {n : Nat} (h : n < 256) (d : Nat) : Tryd.prog.keyLits (d + 1) 77 [.int .u8 (n : Int)] = some [.int .u8 (n : Int)] := by
  unfold Program.keyLits
  rw [Tryd.underlying77]
  simp [u8wf _ h]
theorem keyLits_team {t : Tm} (h : Tm.ok t) (d : Nat) : Tryd.prog.keyLits (d + 1 + 1) 79 (tcells t) = some (tls t) := by
  obtain ⟨h1, h2, h3⟩ := h
  rw [show Tryd.prog.keyLits (d + 1 + 1) 79 (tcells t) = if (tcells t).length = Tryd.prog.cellsOf 79 then ((List.range 3).mapM fun i => Tryd.prog.keyLits (d + 1) 77 (((tcells t).drop (i * Tryd.prog.cellsOf 77)).take (Tryd.prog.cellsOf 77))).map List.flatten else none from by
    conv => lhs; unfold Program.keyLits
    rw [Tryd.underlying79]]
  rw [co79, co77, if_pos (show (tcells t).length = 3 from rfl)]
  have e : List.range 3 = [0, 1, 2] := rfl
  rw [e]
  simp [tcells, tls, keyLits_u8 h1, keyLits_u8 h2, keyLits_u8 h3]
theorem keyOf_team {t : Tm} (h : Tm.ok t) : keyOf Tryd.prog 79 (tv t) = some (.string (keyBytes (tls t))) := by
  unfold keyOf
  rw [Tryd.underlying79]
  simp only [kt79, Bool.true_and]
  have hf : (tv t).formed Tryd.prog 79 = true := by
    simp [Value.formed, tv, Tryd.underlying79, co79, tcells]
  rw [if_pos hf, tsz]
  have : (tv t).cells.toList = tcells t := rfl
  rw [this, keyLits_team h]
  rfl
theorem tv_inj {t u : Tm} (h : tv t = tv u) : t = u := by
  obtain ⟨a, b, c⟩ := t
  obtain ⟨a', b', c'⟩ := u
  simp [tv, tcells] at h
  simp; omega
/-- The entries of the set that met these teams, in this order. -/
def ent (i : Nat) (t : Tm) : MapEntry := { key := tv t, val := .bool true, born := i }
def ents (l : List Tm) : List MapEntry := l.mapIdx ent
def metObj (l : List Tm) : Obj := .map (ents l).toArray l.length
theorem ents_keys {l : List Tm} {e : MapEntry} (h : e ∈ ents l) : ∃ t ∈ l, e.key = tv t ∧ e.val = .bool true := by
  obtain ⟨i, hi, e1⟩ := List.mem_iff_getElem.1 h
  simp [ents, ent] at e1
  subst e1
  exact ⟨_, List.getElem_mem _, rfl, rfl⟩
theorem mem_ents {l : List Tm} {t : Tm} (h : t ∈ l) : ∃ e ∈ ents l, e.key = tv t := by
  obtain ⟨i, hi, rfl⟩ := List.mem_iff_getElem.1 h
  exact ⟨(ents l)[i]'(by simpa [ents] using hi), List.getElem_mem _, by simp [ents, ent]⟩
section
variable {l : List Tm} {t : Tm} {w : World}
theorem find_team (hl : ∀ u ∈ l, Tm.ok u) (ht : Tm.ok t) : (t ∉ l ∧ (Instr.findKey 79 (tv t) (ents l)).run Tryd.prog w = .ok none w) ∨ (t ∈ l ∧ ∃ j, (Instr.findKey 79 (tv t) (ents l)).run Tryd.prog w = .ok (some (j, .bool true)) w) := by
  have hall : ∀ e ∈ ents l, ∃ x, keyOf Tryd.prog 79 e.key = some x := fun e he => by
    obtain ⟨u, hu, hk, _⟩ := ents_keys he
    exact ⟨_, by rw [hk]; exact keyOf_team (hl u hu)⟩
  rcases teamLaw.find w (keyOf_team ht) (ents l) hall with ⟨h1, h2⟩ | ⟨j, e, h1, h2, h3⟩
  · refine .inl ⟨fun hm => ?_, h1⟩
    obtain ⟨e, he, hk⟩ := mem_ents hm
    exact h2 e he hk
  · obtain ⟨u, hu, hk, hv⟩ := ents_keys (List.mem_of_getElem? h2)
    refine .inr ⟨?_, j, by rw [h1, hv]⟩
    rw [h3] at hk
    rw [tv_inj hk]; exact hu
theorem run_lookup_team {b : Nat} (hb : w.heap[b]? = some (metObj l)) (hl : ∀ u ∈ l, Tm.ok u) (ht : Tm.ok t) : (Instr.lookup 136 (.map (some b)) (tv t) false).run Tryd.prog w = .ok (.bool (decide (t ∈ l))) w := by
  have hck := teamLaw.check w (ents l).toArray.isEmpty (keyOf_team ht)
  have hz : (zeroValue 4).run Tryd.prog w = .ok (.bool false) w := by
    obtain ⟨i, hi, hz, _⟩ := TI.of (P := Tryd.prog) (t := 4) (z := .bool false) (size := 1) (bytes := 1) (by kernel_rfl)
    simp [zeroValue, typeInfo, hi, hz]
  have hg : (getObj b).run Tryd.prog w = .ok (metObj l) w := MapKept.run_getObj_map hb
  unfold Instr.lookup
  simp only [Sem.run_bind, run_underlying Tryd.underlying136, Result.andThen_ok, hg, metObj, Sem.run_pure, hck]
  rcases find_team (w := w) hl ht with ⟨h1, h2⟩ | ⟨h1, j, h2⟩
  · simp [h2, hz, h1]
  · simp [h2, h1]
theorem ents_push (l : List Tm) (t : Tm) : (ents l).toArray.push { key := tv t, val := .bool true, born := l.length } = (ents (l ++ [t])).toArray := by
  apply Array.ext'
  simp [ents, ent, List.mapIdx_append]
theorem run_update_team {b : Nat} (hb : w.heap[b]? = some (metObj l)) (hl : ∀ u ∈ l, Tm.ok u) (ht : Tm.ok t) (hn : t ∉ l) :
    (Instr.mapUpdate 136 (.map (some b)) (tv t) (.bool true)).run Tryd.prog w = .ok () { w with heap := w.heap.setIfInBounds b (metObj (l ++ [t])) } := by
  have hck := teamLaw.check w false (keyOf_team ht)
  have hg : (getObj b).run Tryd.prog w = .ok (metObj l) w := MapKept.run_getObj_map hb
  rcases find_team (w := w) hl ht with ⟨_, h2⟩ | ⟨h1, _⟩
  · unfold Instr.mapUpdate
    simp only [Sem.run_bind, run_underlying Tryd.underlying136, Result.andThen_ok, hg, metObj, hck, h2, ents_push]
    rw [MapKept.run_setObj_map _ hb]
    simp
  · exact absurd h1 hn
end
theorem tv_np (t : Tm) : Np (tv t) := Np.ints (by intro x hx; simp [tcells] at hx; rcases hx with h | h | h <;> subst h <;> exact .int _ _)
instance TB.team (t : Tm) (u' : Value) : TB (tv t) u' := TB.agg (by have h := tv_np t; cases h with | agg xs h => exact h) u'
section
variable {C : Ctx} {fr : List (Nat × Value)} {hp hp' : List Res} {a : Act} {w : World} {ops : Array Oper} {Q : Exit → Act → World → Prop} {rest : List Oper}
  {d : Nat} {ty : TypeId} {pos : String} {after : Array Edge}
theorem yld_lookup_team {dst : Option Tmp} (hC : C.P = Tryd.prog) {x y : Operand} {b : Nat} {l : List Tm} {t : Tm} (hx : ev fr x = some (.map (some b))) (hy : ev fr y = some (tv t)) (hm : Res.blk b (metObj l) ∈ hp) (hl : ∀ u ∈ l, Tm.ok u) (ht : Tm.ok t) :
    Yld C ⟨dst, .lookup 136 x y false, ty, pos, after, none⟩ fr hp (.bool (decide (t ∈ l))) := by
  refine ⟨rfl, fun a w ha => ⟨tame_lookup (ha.eval hy) (tv_np t), ?_⟩⟩
  have := run_lookup_team (ha.mem_blk hm) hl ht
  simp [execOp, ha.eval hx, ha.eval hy, hC, this]
theorem grownBy_setObj (w : World) (b : Nat) (o : Obj) : w.grownBy { w with heap := w.heap.setIfInBounds b o } (some b) :=
  ⟨rfl, rfl, rfl, by simp, fun k _ hk => by
    simp only [Array.getElem?_setIfInBounds]
    rw [if_neg (fun e => hk (by rw [e]))]⟩
theorem lst_update_team (hC : C.P = Tryd.prog) {x y : Operand} {b : Nat} {l : List Tm} {t : Tm} (hx : ev fr x = some (.map (some b))) (hy : ev fr y = some (tv t)) (hl : ∀ u ∈ l, Tm.ok u) (ht : Tm.ok t) (hn : t ∉ l)
    (hu : Upd (.blk b (metObj l)) (.blk b (metObj (l ++ [t]))) hp hp') (k : Lst C ops Q rest fr hp') : Lst C ops Q (⟨none, .mapUpdate 136 x y (.const (.bool true)), ty, pos, after, none⟩ :: rest) fr hp := by
  refine lst_skip (fun a w ha => tame_mapUpdate (ha.eval hy) (tv_np t)) (fun a w ha => ?_) k
  have hb := ha.own _ hu.mem
  have h1 := run_update_team hb.2 hl ht hn
  refine ⟨{ w with heap := w.heap.setIfInBounds b (metObj (l ++ [t])) }, ?_, ?_⟩
  · simp only [execOp, ha.eval hx, ha.eval hy, show a.eval (.const (.bool true)) = .bool true from rfl, hC, Sem.run_bind, h1]
    rfl
  · refine ha.turn hu (grownBy_setObj w b _) ⟨hb.1, ?_⟩ (fun k hk => .inl hk)
    have hlt : b < w.heap.size := (Array.getElem?_eq_some_iff.1 hb.2).1
    simp [hlt]
/-- Two teams: are they apart? -/
theorem run_neq_team {t u : Tm} (ht : Tm.ok t) (hu : Tm.ok u) (x y : Operand) (w : World) : (do eqGuard .neq 79 x y (tv t) (tv u); binOp .neq 79 (tv t) (tv u) : Sem Value).run Tryd.prog w = .ok (.bool (decide (t ≠ u))) w := by
  obtain ⟨r, hr, hiff⟩ := run_equal_deep (P := Tryd.prog) w (m := 2) (by omega) (k := 79) (by kernel_rfl) (by rw [Tryd.underlying79]) (keyOf_team ht) (keyOf_team hu)
  have hg : (eqGuard .neq 79 x y (tv t) (tv u)).run Tryd.prog w = .ok () w := by
    have h1 : Tryd.prog.eqGuardType Tryd.prog.depth 79 = false := by kernel_rfl
    have hp : (program : Sem Program).run Tryd.prog w = .ok Tryd.prog w := rfl
    simp only [eqGuard, tv]
    simp
  have hb : (binOp .neq 79 (tv t) (tv u)).run Tryd.prog w = .ok (.bool (!r)) w := by
    show (do pure (.bool (!(← Op.equal 79 (tv t) (tv u)))) : Sem Value).run Tryd.prog w = _
    simp only [Sem.run_bind, hr, Result.andThen_ok, Sem.run_pure]
  simp only [Sem.run_bind, hg, Result.andThen_ok, hb]
  have e1 : r = true ↔ t = u := by
    rw [hiff]
    constructor
    · intro e
      exact tv_inj (teamLaw.inj (by rw [keyOf_team ht, e]) (keyOf_team hu))
    · rintro rfl; rfl
  have e2 : (!r) = decide (t ≠ u) := by
    cases r with
    | true => simp [e1.1 rfl]
    | false =>
      have : t ≠ u := fun e => by have := e1.2 e; cases this
      simp [this]
  rw [e2]
end
end Go.Proofs.YtofkhehcnfiopaaDoor.N
namespace Go.Proofs.YtofkhehcnfiopaaDoor.N
open Go Go.RowKit Go.Proofs
set_option linter.unusedSectionVars false
variable [I : Sys]
def ncell (n : Nat) : List Value := [.int .i64 (n : Int)]
section
variable {C : Ctx} {fr : List (Nat × Value)} {hp hp' : List Res} {a : Act} {w : World} {ops : Array Oper} {Q : Exit → Act → World → Prop} {rest : List Oper}
  {d : Nat} {ty : TypeId} {pos : String} {after : Array Edge}
theorem row_at (ha : At C fr hp a w) {α : Type} {cells : α → List Value} {size e n c g k j : Nat} {l : List α} {x : α} {u : Value} (hm : Res.row e size (some ⟨g, 0, none⟩) n c (l.flatMap cells) ∈ hp) (hs : ∀ x, (cells x).length = size) (hk : l[k]? = some x) (hu : (cells x)[j]? = some u) :
    w.cell? ⟨g, 0 + k * size + j, none⟩ = some u := by
  rw [Nat.zero_add]
  exact row_cell ha hm rfl (flatMap_get hs l k x hk j u hu)
theorem que_at (ha : At C fr hp a w) {α : Type} {cells : α → List Value} {size e n c g o k j : Nat} {l : List α} {x : α} {u : Value} (hm : Res.que e size (some ⟨g, o, none⟩) n c (l.flatMap cells) ∈ hp) (hs : ∀ x, (cells x).length = size) (hk : l[k]? = some x) (hu : (cells x)[j]? = some u) :
    w.cell? ⟨g, o + k * size + j, none⟩ = some u := by
  rw [Nat.add_assoc]
  exact que_cell ha hm _ _ (flatMap_get hs l k x hk j u hu)
/-- A slice's literal of no elements may grow. -/
theorem At.as_row (ha : At C fr hp a w) {b e size : Nat} (hu : Upd (.blk b (.cells ([] : List Value).toArray e (0, 0))) (.row e size (some ⟨b, 0, none⟩) 0 0 []) hp hp') : At C fr hp' a w := by
  have hb := ha.own _ hu.mem
  refine ha.turn hu (⟨rfl, rfl, rfl, Nat.le_refl _, fun _ _ _ => rfl⟩ : w.grownBy w _) ⟨by simp, .inr ⟨b, 0, #[], rfl, hb.1, hb.2, Nat.le_refl _, Nat.zero_le _, by simp, by simp⟩⟩ (fun k hk => .inl ?_)
  exact hk
theorem lst_as_row {l : List Oper} {b e : Nat} (size : Nat) (hu : Upd (.blk b (.cells ([] : List Value).toArray e (0, 0))) (.row e size (some ⟨b, 0, none⟩) 0 0 []) hp hp') (h : Lst C ops Q l fr hp') : Lst C ops Q l fr hp := fun a w ha => h a w (ha.as_row hu)
/-- What is appended lies where it is known to lie. -/
theorem lst_append_at {x y : Operand} {t e : TypeId} {A : Option Addr} {p : Addr} {n c m cb size bytes : Nat} {xs news : List Value} {z : Value} {hp' : Option Addr → Nat → List Res} (hd : Nat.blt d C.N = true)
    (hx : ev fr x = some (.slice A n c)) (hy : ev fr y = some (.slice (some p) m cb)) (ht : C.P.underlying t = some (.slice e)) (hi : TI C.P e z size bytes) (hzs : z.cells.size = size) (hs0 : Nat.blt 0 size = true)
    (hnews : ∀ a w, At C fr hp a w → ∀ j u, news[j]? = some u → w.cell? (p.add j) = some u) (hl : news.length = m * size) (ho : ∀ u ∈ news, u.oneCell' = true) [hr : InR A e size n c xs hp] [hu : ∀ A' c', UpR A e size n c xs (.row e size A' (n + m) c' (xs ++ news)) hp (hp' A' c')]
    (hplace : ∀ (w : World) (v' : Value) (w' : World), w.ownsRow C.B e size (.slice A n c) n xs → (∀ j u, news[j]? = some u → w.cell? (p.add j) = some u) → (Builtin.append_ #[t, t] ty #[.slice A n c, .slice (some p) m cb]).run C.P w = .ok v' w' → ∀ k, v'.ownBlock = some k → (Value.slice A n c).ownBlock = some k ∨ w.heap.size ≤ k)
    (h63 : n + m ≤ maxLen) (hbytes : (n + m) * bytes ≤ 140737488355328)
    (k : ∀ A' c', Lst C ops Q rest ((d, .slice A' (n + m) c') :: fr) (hp' A' c')) :
    Lst C ops Q (⟨some d, .call { callee := .builtin .append, args := #[x, y], argTypes := #[t, t] }, ty, pos, after, none⟩ :: rest) fr hp := by
  refine lst_of rfl fun a w ha => ?_
  obtain ⟨i, hi1, hi2, hi3, hi4⟩ := hi
  have hown := ha.own _ hr.mem
  subst hi3; subst hi4
  obtain ⟨v', w', hrun, hown', hg, _⟩ := run_append_own (P := C.P) w C.B t ty e i z i.size i.bytes ht hi1 hi2 rfl rfl hzs (lt_of_blt hs0) _ n xs hown p m cb news hl (hnews a w ha) ho h63 hbytes ha.base
  have hpl := hplace w v' w' hown (hnews a w ha) hrun
  obtain ⟨A', c', rfl⟩ := ownsRow_shape hown'
  refine ⟨tame_builtin fun cs => by simp only [List.map_toArray, List.map_cons, List.map_nil, ha.eval hx, ha.eval hy]; exact tame_append ht, ?_⟩
  have hr' : (execOp a.eval ⟨some d, .call { callee := .builtin .append, args := #[x, y], argTypes := #[t, t] }, ty, pos, after, none⟩).run C.P w = .ok (.value (.slice A' (n + m) c')) w' := by
    simp only [execOp, resolve, invoke, builtin, Sem.run_bind, Sem.run_pure, Result.andThen_ok, List.map_toArray, List.map_cons, List.map_nil, ha.eval hx, ha.eval hy, hrun]
  rw [hr']
  exact k A' c' _ _ ((ha.turn (hu A' c').upd hg hown' hpl).put (lt_of_blt hd) _)
/-- A list of numbers, appended. -/
theorem lst_append_ints {x y : Operand} {t e : TypeId} {A : Option Addr} {p : Addr} {n c m cb bytes : Nat} {xs : List Value} {l : List Nat} {z : Value} {hp' : Option Addr → Nat → List Res} (hd : Nat.blt d C.N = true)
    (hx : ev fr x = some (.slice A n c)) (hy : ev fr y = some (.slice (some p) m cb)) (ht : C.P.underlying t = some (.slice e)) (hi : TI C.P e z 1 bytes) (hzs : z.cells.size = 1)
    (hnews : ∀ a w, At C fr hp a w → ∀ j u, (ints l)[j]? = some u → w.cell? (p.add j) = some u) (hl : l.length = m) [hr : InR A e 1 n c xs hp] [hu : ∀ A' c', UpR A e 1 n c xs (.row e 1 A' (n + m) c' (xs ++ ints l)) hp (hp' A' c')]
    (h63 : n + m ≤ maxLen) (hbytes : (n + m) * bytes ≤ 140737488355328)
    (k : ∀ A' c', Lst C ops Q rest ((d, .slice A' (n + m) c') :: fr) (hp' A' c')) :
    Lst C ops Q (⟨some d, .call { callee := .builtin .append, args := #[x, y], argTypes := #[t, t] }, ty, pos, after, none⟩ :: rest) fr hp := by
  have ho : ∀ u ∈ ints l, u.oneCell' = true := by
    intro u hu'
    obtain ⟨n, _, rfl⟩ := List.mem_map.1 hu'
    simp [Value.oneCell']
  have hi' := hi
  obtain ⟨i, hi1, hi2, hi3, hi4⟩ := hi'
  subst hi4
  refine lst_append_at hd hx hy ht hi hzs rfl hnews (by rw [ints_len]; omega) ho (fun w v' w' hown hn hrun => ?_) h63 hbytes k
  exact append_place ht hi1 hi2 (hi3 ▸ hown) (by rw [ints_len, hi3]; omega) hn ho h63 hbytes hrun
/-- A slice and nil. -/
theorem run_eql_nil {t e : TypeId} {P : Program} (ht : P.underlying t = some (.slice e)) (A : Option Addr) (n c : Nat) (x y : Operand) (w : World) :
    (do eqGuard .eql t x y (.slice A n c) (.slice none 0 0); binOp .eql t (.slice A n c) (.slice none 0 0) : Sem Value).run P w = .ok (.bool A.isNone) w := by
  have hg : (eqGuard .eql t x y (.slice A n c) (.slice none 0 0)).run P w = .ok () w := by simp [eqGuard]
  have hb : (binOp .eql t (.slice A n c) (.slice none 0 0)).run P w = .ok (.bool A.isNone) w := by
    show (do pure (.bool (← Op.equal t (.slice A n c) (.slice none 0 0))) : Sem Value).run P w = _
    have he : (Op.equal t (.slice A n c) (.slice none 0 0)).run P w = .ok A.isNone w := by
      show (Op.equalIn (9999 + 1) t (.slice A n c) (.slice none 0 0)).run P w = _
      unfold Op.equalIn
      simp only [Sem.run_bind, run_underlying ht, Result.andThen_ok]
      cases A <;> simp
    simp only [Sem.run_bind, he, Result.andThen_ok, Sem.run_pure]
  simp only [Sem.run_bind, hg, Result.andThen_ok, hb]
/-- One cell of a block, at whatever place. -/
theorem lst_store_any {x y : Operand} {t ct : TypeId} {b o : Nat} {cs cs' : List Value} {v z : Value} {m : Nat} (hx : ev fr x = some (.pointer (some ⟨b, o, none⟩))) (hy : ev fr y = some v) (hi : TI C.P t z 1 m) [hc : Cells v [v]]
    (ho : o < cs.length) (hcs : cs' = cs.set o v) (hu : Upd (.blk b (.cells cs.toArray ct (0, 0))) (.blk b (.cells cs'.toArray ct (0, 0))) hp hp')
    (k : Lst C ops Q rest fr hp') : Lst C ops Q (⟨none, .store t x y, ty, pos, after, none⟩ :: rest) fr hp := by
  obtain ⟨i, hi, _, hsz, _⟩ := hi
  refine lst_skip (fun _ _ _ => tame_storeOp ..) (fun a w ha => ?_) k
  have hs : Splice cs o [v] cs' := ⟨by rw [hcs, List.set_eq_take_append_cons_drop, if_pos ho, List.append_assoc]; rfl, by simp; omega⟩
  obtain ⟨w', h1, h2, h3⟩ := splice_upd hs (ha.mem_blk hu.mem) hc.one C.P
  refine ⟨w', ?_, ha.turn hu h3 ⟨(ha.own _ hu.mem).1, h2⟩ (fun k hk => .inl hk)⟩
  simp [execOp, ha.eval hx, ha.eval hy, Instr.storeAt, Instr.sureAddr, storeVar, sizeOf, typeInfo, hi, hc.eq, hsz, h1]
end
theorem RdL.ints_at {w : World} {p : Addr} {l : List Nat} (h : RdL ncell 1 w (some p) l) {j : Nat} {u : Value} (hu : (ints l)[j]? = some u) : w.cell? (p.add j) = some u := by
  have hj : j < l.length := by
    rcases Nat.lt_or_ge j l.length with h1 | h1
    · exact h1
    · rw [List.getElem?_eq_none (by rw [ints_len]; exact h1)] at hu; cases hu
  obtain ⟨b, o, h1, _, h3⟩ := h (by omega)
  cases h1
  have := h3 j l[j] (List.getElem?_eq_getElem hj) 0 u (by
    simp only [ints, List.getElem?_map, List.getElem?_eq_getElem hj, Option.map_some] at hu
    exact hu)
  rw [addr_add]
  simpa using this
theorem ints_flat (l : List Nat) : ints l = l.flatMap ncell := by
  induction l with
  | nil => rfl
  | cons n l ih => rw [List.flatMap_cons, ← ih]; rfl
/-- A map is cleared. -/
theorem lst_clear_map {C : Ctx} {fr : List (Nat × Value)} {hp hp' : List Res} {ops : Array Oper} {Q : Exit → Act → World → Prop} {rest : List Oper} {ty : TypeId} {pos : String} {after : Array Edge}
    {x : Operand} {t k e b n : Nat} {es : Array MapEntry} (hx : ev fr x = some (.map (some b))) (ht : C.P.underlying t = some (.map k e)) (hu : Upd (.blk b (.map es n)) (.blk b (.map #[] n)) hp hp')
    (kk : Lst C ops Q rest fr hp') : Lst C ops Q (⟨none, .call { callee := .builtin .clear, args := #[x], argTypes := #[t] }, ty, pos, after, none⟩ :: rest) fr hp := by
  refine lst_of rfl fun a w ha => ?_
  have hb := ha.own _ hu.mem
  have hlt : b < w.heap.size := (Array.getElem?_eq_some_iff.1 hb.2).1
  refine ⟨tame_builtin fun _ => tame_clear, ?_⟩
  have hr : (execOp a.eval ⟨none, .call { callee := .builtin .clear, args := #[x], argTypes := #[t] }, ty, pos, after, none⟩).run C.P w = .ok (.value (.tuple #[])) { w with heap := w.heap.setIfInBounds b (.map #[] n) } := by
    simp [execOp, resolve, invoke, builtin, ha.eval hx, Builtin.clear_, run_underlying ht, MapKept.run_getObj_map hb.2, MapKept.run_setObj_map _ hb.2]
  rw [hr]
  refine kk _ _ ?_
  exact ha.turn hu (grownBy_setObj w b _) ⟨hb.1, by simp [hlt]⟩ (fun k hk => .inl hk)
/-- A walk through teams: who, in which order; where it led. -/
structure Wk where
  A : Option Addr
  c : Nat
  how : List Nat
  team : Tm
def Wk.cells (k : Wk) : List Value := .slice k.A k.how.length k.c :: tcells k.team
def Wk.res (k : Wk) : Res := .row 3 1 k.A k.how.length k.c (ints k.how)
theorem Wk.cells_len (k : Wk) : k.cells.length = 4 := rfl
def pushT (todo : List Wk) (met : List Tm) (k : Wk) : List Wk := if k.team ∈ met then todo else todo ++ [k]
def pushM (met : List Tm) (t : Tm) : List Tm := if t ∈ met then met else met ++ [t]
end Go.Proofs.YtofkhehcnfiopaaDoor.N
namespace Go.Proofs.YtofkhehcnfiopaaDoor.N
open Go Go.RowKit Go.Proofs
set_option linter.unusedSectionVars false
variable [I : Sys]
theorem F.agg142 : aggB Tryd.prog 142 = true := by unfold aggB; rw [Tryd.underlying142]
theorem F.agg79 : aggB Tryd.prog 79 = true := by unfold aggB; rw [Tryd.underlying79]
theorem F.fi139_0 : FI Tryd.prog 139 0 137 0 := ⟨_, _, Tryd.underlying139, rfl, rfl, rfl⟩
theorem F.fi139_1 : FI Tryd.prog 139 1 136 1 := ⟨_, _, Tryd.underlying139, rfl, rfl, rfl⟩
theorem F.follows : Tryd.prog.follows .mixedOrders = true := by kernel_rfl
theorem F.one136 : One Tryd.prog 136 := ⟨by unfold aggB; rw [Tryd.underlying136], by rw [Tryd.underlying136]; simp⟩
theorem F.one137 : One Tryd.prog 137 := ⟨by unfold aggB; rw [Tryd.underlying137], by rw [Tryd.underlying137]; simp⟩
theorem F.ti136 : TI Tryd.prog 136 (.map none) 1 8 := TI.of (by kernel_rfl)
theorem F.ti137 : TI Tryd.prog 137 (.slice none 0 0) 1 24 := TI.of (by kernel_rfl)
theorem F.ti142 : TI Tryd.prog 142 (.agg [.slice none 0 0, .int .u8 0, .int .u8 0, .int .u8 0].toArray) 4 32 := TI.of (by kernel_rfl)
theorem F.ti79 : TI Tryd.prog 79 (.agg [.int .u8 0, .int .u8 0, .int .u8 0].toArray) 3 3 := TI.of (by kernel_rfl)
theorem clone_c (A : Option Addr) (c : Nat) (l : List Nat) (hl : l.length ≤ 400000) (hn : A = none → l = []) (w : World) (hA : RdL ncell 1 w A l) : Calls Tryd.prog 114 #[.slice A l.length c] w fun e w' => ∃ A' c', e = .returned (.slice A' l.length c') ∧ Grew w w' [.row 3 1 A' l.length c' (ints l)] := by
  refine enter (N := 8) [(0, .slice A l.length c)] Tryd.func114 rfl Tryd.ntmps114 rfl rfl ?_
  refine cod_seq ?_
  refine cod_region ?_
  refine lst_assign rfl rfl ?_
  refine lst_nil ?_
  refine ex_then ?_
  refine cod_seq ?_
  refine cod_seq ?_
  refine cod_region ?_
  refine lst_move rfl rfl ?_
  refine lst_bin rfl rfl rfl (run_eql_nil Tryd.underlying25 _ _ _ _ _) ?_
  refine lst_nil ?_
  refine ex_then ?_
  refine cod_cond_bool rfl (fun hc0 => ?_) (fun hc0 => ?_)
  · skip
    refine cod_seq ?_
    refine cod_region ?_
    refine lst_assign rfl rfl ?_
    refine lst_nil ?_
    refine ex_then ?_
    refine cod_ret ?_
    refine ex_then_ret ?_
    have hA0 : A = none := by cases A with
      | none => rfl
      | some p => cases hc0
    obtain rfl := hn hA0
    exact ex_ret rfl (fun a w ha => res_one rfl rfl ha) (fun a w ha => ⟨none, 0, rfl, (ha.add_nil 3 1).grown sbl⟩)
  · skip
    obtain ⟨p, rfl⟩ : ∃ p, A = some p := by cases A with
      | none => cases hc0
      | some p => exact ⟨p, rfl⟩
    refine cod_skip ?_
    refine ex_then ?_
    refine cod_seq ?_
    refine cod_region ?_
    refine lst_lit0 rfl Tryd.underlying25 F.ti3 ?_
    intro b5
    refine lst_as_row 1 (.head _) ?_
    refine lst_move rfl rfl ?_
    refine lst_append_ints rfl rfl rfl Tryd.underlying25 F.ti3 rfl (fun a w ha j u hu => (hA.later ha.below).ints_at hu) rfl (by unfold maxLen; omega) (by omega) ?_
    intro A1 c1
    refine lst_assign rfl rfl ?_
    refine lst_nil ?_
    refine ex_then ?_
    refine cod_ret ?_
    simp only [Nat.zero_add, List.nil_append]
    exact ex_ret rfl (fun a w ha => res_one rfl rfl ha) (fun a w ha => ⟨A1, c1, rfl, ha.grown sbl⟩)

theorem push_c {C : Ctx} {fr : List (Nat × Value)} {T : List Res} {a : Act} {w : World} (hC : C.P = Tryd.prog) {bq bm : Nat} {A : Option Addr} {c : Nat} {todo : List Wk} {met : List Tm} {k : Wk} (hlen : todo.length ≤ 400000) (hmet : ∀ u ∈ met, Tm.ok u) (hk : Tm.ok k.team) (ha : At C fr (.blk bq (.cells [.slice A todo.length c, .map (some bm)].toArray 139 (0, 0)) :: .blk bm (metObj met) :: .que 142 4 A todo.length c (todo.flatMap Wk.cells) :: T) a w) : Calls C.P 112 #[.pointer (some ⟨bq, 0, none⟩), .agg [.int .u8 (k.team.1 : Int), .int .u8 (k.team.2.1 : Int), .int .u8 (k.team.2.2 : Int)].toArray, .agg [.slice k.A k.how.length k.c, .int .u8 (k.team.1 : Int), .int .u8 (k.team.2.1 : Int), .int .u8 (k.team.2.2 : Int)].toArray] w fun e w' => ∃ A' c', e = .returned (.tuple #[]) ∧ At C fr (.blk bq (.cells [.slice A' (pushT todo met k).length c', .map (some bm)].toArray 139 (0, 0)) :: .blk bm (metObj (pushM met k.team)) :: .que 142 4 A' (pushT todo met k).length c' ((pushT todo met k).flatMap Wk.cells) :: T) a w' := by
  obtain ⟨P, B, w0, N0, ds⟩ := C
  obtain rfl : P = Tryd.prog := hC
  refine enter_in (N := 28) [(0, .pointer (some ⟨bq, 0, none⟩)), (1, .agg [.int .u8 (k.team.1 : Int), .int .u8 (k.team.2.1 : Int), .int .u8 (k.team.2.2 : Int)].toArray), (2, .agg [.slice k.A k.how.length k.c, .int .u8 (k.team.1 : Int), .int .u8 (k.team.2.1 : Int), .int .u8 (k.team.2.2 : Int)].toArray)] ha Tryd.func112 rfl Tryd.ntmps112 rfl rfl ?_
  refine cod_seq ?_
  refine cod_region ?_
  refine lst_box rfl rfl ?_
  intro b4
  refine lst_box rfl rfl ?_
  intro b5
  refine lst_nil ?_
  refine ex_then ?_
  refine cod_seq ?_
  refine any_begin [] F.follows 7 rfl [false, false, false, false, false, false, false] rfl ?_
  refine any_tk 0 rfl rfl rfl (yld_move rfl) ?_
  refine any_tk 1 rfl rfl rfl (yld_nilCheck rfl) ?_
  refine any_tk 2 rfl rfl rfl (yld_field_z rfl F.fi139_1 F.ti136) ?_
  refine any_tk 3 rfl rfl rfl (yld_load rfl F.one136) ?_
  refine any_tk 4 rfl rfl rfl (yld_loadN rfl F.agg79 F.ti79) ?_
  refine any_tk 5 rfl rfl rfl (yld_lookup_team rfl (t := k.team) rfl rfl (by simp) hmet hk) ?_
  refine any_tk 6 rfl rfl rfl (yld_not rfl) ?_
  refine any_done rfl (by kernel_rfl) ?_
  refine ex_then ?_
  refine cod_cond_bool rfl (fun hc0 => ?_) (fun hc0 => ?_)
  · skip
    have hm : k.team ∉ met := by simpa using hc0
    have e1 : pushT todo met k = todo ++ [k] := if_neg hm
    have e2 : pushM met k.team = met ++ [k.team] := if_neg hm
    rw [e1, e2]
    refine cod_seq ?_
    refine any_begin [.b bm] F.follows 6 rfl [false, false, false, false, false, false] rfl ?_
    refine any_tk 0 rfl rfl rfl (yld_move rfl) ?_
    refine any_tk 1 rfl rfl rfl (yld_nilCheck rfl) ?_
    refine any_tk 2 rfl rfl rfl (yld_field_z rfl F.fi139_1 F.ti136) ?_
    refine any_tk 3 rfl rfl rfl (yld_load rfl F.one136) ?_
    refine any_tk 4 rfl rfl rfl (yld_loadN rfl F.agg79 F.ti79) ?_
    refine any_one 5 (by kernel_rfl) rfl rfl ?_
    refine lst_update_team rfl (t := k.team) rfl rfl hmet hk hm UpB.upd ?_
    refine lst_nil ?_
    refine any_next sbl ?_
    refine any_done rfl (by kernel_rfl) ?_
    refine ex_then ?_
    refine any_begin [.b bq, .q A] F.follows 11 rfl [false, false, false, false, false, false, false, false, false, false, false] rfl ?_
    refine any_tk 0 rfl rfl rfl (yld_move rfl) ?_
    refine any_tk 1 rfl rfl rfl (yld_move rfl) ?_
    refine any_tk 2 rfl rfl rfl (yld_nilCheck rfl) ?_
    refine any_tk 3 rfl rfl rfl (yld_field_z rfl F.fi139_0 F.ti137) ?_
    refine any_tk 5 rfl rfl rfl (yld_loadN rfl F.agg142 F.ti142) ?_
    refine any_two 4 6 (by kernel_rfl) rfl rfl rfl rfl ?_ ?_
    · skip
      refine lst_load rfl rfl F.one137 ?_
      refine lst_nil ?_
      refine any_next sbl ?_
      refine any_one 6 (by kernel_rfl) rfl rfl ?_
      refine lst_litN (vs := [(0, _)]) [_, _, _, _] rfl rfl Tryd.underlying137 F.ti142 rfl rfl rfl ⟨rfl, [_, _, _, _], [], rfl, rfl, rfl, rfl⟩ ?_
      intro b24
      refine lst_nil ?_
      refine any_next sbl ?_
      refine any_one 7 (by kernel_rfl) rfl rfl ?_
      refine lst_append_que rfl rfl rfl Tryd.underlying137 F.ti142 rfl rfl rfl (by unfold maxLen; omega) (by omega) ?_
      intro A1 c1
      refine lst_nil ?_
      refine any_next sbl ?_
      refine any_tk 8 rfl rfl rfl (yld_nilCheck rfl) ?_
      refine any_tk 9 rfl rfl rfl (yld_field_z rfl F.fi139_0 F.ti137) ?_
      refine any_one 10 (by kernel_rfl) rfl rfl ?_
      refine lst_store rfl rfl F.ti137 rfl ?_
      refine lst_nil ?_
      refine any_next sbl ?_
      refine any_done rfl (by kernel_rfl) ?_
      rw [List.length_append, List.length_singleton, List.flatMap_append, List.flatMap_singleton]
      exact ex_end rfl (fun a w ha => res_none rfl ha) (fun _ _ ha' => ⟨A1, c1, rfl, ha.back (ha'.pck (by repeat (first | exact Pck.nil _ | exact Pck.refl _ | (apply Pck.cons; focus (repeat (first | exact Rem.here _ | apply Rem.there))) | refine Pck.skip _ ?_)))⟩)
    · skip
      refine lst_litN (vs := [(0, _)]) [_, _, _, _] rfl rfl Tryd.underlying137 F.ti142 rfl rfl rfl ⟨rfl, [_, _, _, _], [], rfl, rfl, rfl, rfl⟩ ?_
      intro b24
      refine lst_nil ?_
      refine any_next sbl ?_
      refine any_one 4 (by kernel_rfl) rfl rfl ?_
      refine lst_load rfl rfl F.one137 ?_
      refine lst_nil ?_
      refine any_next sbl ?_
      refine any_one 7 (by kernel_rfl) rfl rfl ?_
      refine lst_append_que rfl rfl rfl Tryd.underlying137 F.ti142 rfl rfl rfl (by unfold maxLen; omega) (by omega) ?_
      intro A1 c1
      refine lst_nil ?_
      refine any_next sbl ?_
      refine any_tk 8 rfl rfl rfl (yld_nilCheck rfl) ?_
      refine any_tk 9 rfl rfl rfl (yld_field_z rfl F.fi139_0 F.ti137) ?_
      refine any_one 10 (by kernel_rfl) rfl rfl ?_
      refine lst_store rfl rfl F.ti137 rfl ?_
      refine lst_nil ?_
      refine any_next sbl ?_
      refine any_done rfl (by kernel_rfl) ?_
      rw [List.length_append, List.length_singleton, List.flatMap_append, List.flatMap_singleton]
      exact ex_end rfl (fun a w ha => res_none rfl ha) (fun _ _ ha' => ⟨A1, c1, rfl, ha.back (ha'.pck (by repeat (first | exact Pck.nil _ | exact Pck.refl _ | (apply Pck.cons; focus (repeat (first | exact Rem.here _ | apply Rem.there))) | refine Pck.skip _ ?_)))⟩)
  · skip
    have hm : k.team ∈ met := by simpa using hc0
    have e1 : pushT todo met k = todo := if_pos hm
    have e2 : pushM met k.team = met := if_pos hm
    rw [e1, e2]
    refine cod_skip ?_
    exact ex_end rfl (fun a w ha => res_none rfl ha) (fun _ _ ha' => ⟨A, c, rfl, ha.back (ha'.pck (by repeat (first | exact Pck.nil _ | exact Pck.refl _ | (apply Pck.cons; focus (repeat (first | exact Rem.here _ | apply Rem.there))) | refine Pck.skip _ ?_)))⟩)

theorem pop_none {C : Ctx} {fr : List (Nat × Value)} {T : List Res} {a : Act} {w : World} (hC : C.P = Tryd.prog) {bq bm : Nat} {A : Option Addr} {c : Nat} {met : List Tm} (ha : At C fr (.blk bq (.cells [.slice A 0 c, .map (some bm)].toArray 139 (0, 0)) :: .blk bm (metObj met) :: .que 142 4 A 0 c ([]) :: T) a w) : Calls C.P 113 #[.pointer (some ⟨bq, 0, none⟩)] w fun e w' => e = .returned (.tuple #[.agg [.slice none 0 0, .int .u8 0, .int .u8 0, .int .u8 0].toArray, .bool false]) ∧ At C fr T a w' := by
  obtain ⟨P, B, w0, N0, ds⟩ := C
  obtain rfl : P = Tryd.prog := hC
  refine enter_in (N := 32) [(0, .pointer (some ⟨bq, 0, none⟩))] ha Tryd.func113 rfl Tryd.ntmps113 rfl rfl ?_
  refine cod_seq ?_
  refine cod_region ?_
  refine lst_alloc rfl F.ti142 ?_
  intro b2
  refine lst_assign rfl rfl ?_
  refine lst_nil ?_
  refine ex_then ?_
  refine cod_seq ?_
  refine cod_seq ?_
  refine cod_region ?_
  refine lst_move rfl rfl ?_
  refine lst_nilCheck rfl rfl ?_
  refine lst_field_z rfl rfl F.fi139_0 F.ti137 ?_
  refine lst_load rfl rfl F.one137 ?_
  refine lst_len rfl rfl Tryd.underlying137 ?_
  refine lst_int rfl rfl rfl bin_eql ?_
  refine lst_nil ?_
  refine ex_then ?_
  refine cod_cond_dec rfl (fun hc0 => ?_) (fun hc0 => ?_)
  · skip
    refine cod_seq ?_
    refine cod_region ?_
    refine lst_move rfl rfl ?_
    refine lst_nilCheck rfl rfl ?_
    refine lst_field_z rfl rfl F.fi139_1 F.ti136 ?_
    refine lst_load rfl rfl F.one136 ?_
    refine lst_clear_map rfl Tryd.underlying136 (UpB.upd (b := bm)) ?_
    refine lst_nil ?_
    refine ex_then ?_
    refine cod_seq ?_
    refine cod_region ?_
    refine lst_alloc rfl F.ti142 ?_
    intro b4
    refine lst_nil ?_
    refine ex_then ?_
    refine cod_seq ?_
    refine cod_region ?_
    refine lst_loadN rfl rfl F.agg142 F.ti142 ?_
    refine lst_store rfl rfl F.ti142 rfl ?_
    refine lst_assign rfl rfl ?_
    refine lst_nil ?_
    refine ex_then ?_
    refine cod_ret ?_
    refine ex_then_ret ?_
    exact ex_ret rfl (fun a w ha => by exact res_cellN_tmp (ha := ha) rfl rfl rfl F.agg142 F.ti142 rfl) (fun _ _ ha' => ⟨rfl, ha.back (ha'.drop_res sbl)⟩)
  · skip
    exact (hc0 rfl).elim -- done

theorem pop_some {C : Ctx} {fr : List (Nat × Value)} {T : List Res} {a : Act} {w : World} (hC : C.P = Tryd.prog) {bq bm : Nat} {A : Option Addr} {c : Nat} {met : List Tm} {todo : List Wk} {k : Wk} (ha : At C fr (.blk bq (.cells [.slice A (todo.length + 1) c, .map (some bm)].toArray 139 (0, 0)) :: .blk bm (metObj met) :: .que 142 4 A (todo.length + 1) c ((k :: todo).flatMap Wk.cells) :: T) a w) : Calls C.P 113 #[.pointer (some ⟨bq, 0, none⟩)] w fun e w' => ∃ A' c', e = .returned (.tuple #[.agg [.slice k.A k.how.length k.c, .int .u8 (k.team.1 : Int), .int .u8 (k.team.2.1 : Int), .int .u8 (k.team.2.2 : Int)].toArray, .bool true]) ∧ At C fr (.blk bq (.cells [.slice A' todo.length c', .map (some bm)].toArray 139 (0, 0)) :: .blk bm (metObj met) :: .que 142 4 A' todo.length c' (todo.flatMap Wk.cells) :: T) a w' := by
  obtain ⟨g, o, rfl⟩ := que_some ha (InQ.mem (A := A)) (Nat.succ_pos _)
  obtain ⟨P, B, w0, N0, ds⟩ := C
  obtain rfl : P = Tryd.prog := hC
  refine enter_in (N := 32) [(0, .pointer (some ⟨bq, 0, none⟩))] ha Tryd.func113 rfl Tryd.ntmps113 rfl rfl ?_
  refine cod_seq ?_
  refine cod_region ?_
  refine lst_alloc rfl F.ti142 ?_
  intro b2
  refine lst_assign rfl rfl ?_
  refine lst_nil ?_
  refine ex_then ?_
  refine cod_seq ?_
  refine cod_seq ?_
  refine cod_region ?_
  refine lst_move rfl rfl ?_
  refine lst_nilCheck rfl rfl ?_
  refine lst_field_z rfl rfl F.fi139_0 F.ti137 ?_
  refine lst_load rfl rfl F.one137 ?_
  refine lst_len rfl rfl Tryd.underlying137 ?_
  refine lst_int rfl rfl rfl bin_eql ?_
  refine lst_nil ?_
  refine ex_then ?_
  refine cod_cond_dec rfl (fun hc0 => ?_) (fun hc0 => ?_)
  · skip
    exact absurd hc0 (by omega) -- done
  · skip
    refine cod_skip ?_
    refine ex_then ?_
    refine cod_seq ?_
    refine cod_region ?_
    refine lst_move rfl rfl ?_
    refine lst_nilCheck rfl rfl ?_
    refine lst_field_z rfl rfl F.fi139_0 F.ti137 ?_
    refine lst_load rfl rfl F.one137 ?_
    refine lst_index (j := 0) rfl rfl rfl Tryd.underlying137 F.ti142 rfl (by omega) ?_
    refine lst_loadN_at (l := [.slice k.A k.how.length k.c, .int .u8 (k.team.1 : Int), .int .u8 (k.team.2.1 : Int), .int .u8 (k.team.2.2 : Int)]) rfl rfl F.agg142 F.ti142 rfl (fun a w ha j u hu => que_at ha (k := 0) (l := k :: todo) (cells := Wk.cells) (InQ.mem (A := some ⟨g, o, none⟩)) Wk.cells_len rfl hu) ?_
    refine lst_alloc rfl F.ti142 ?_
    intro b5
    refine lst_store rfl rfl F.ti142 rfl ?_
    refine lst_nil ?_
    refine ex_then ?_
    refine cod_seq ?_
    refine cod_region ?_
    refine lst_move rfl rfl ?_
    refine lst_move rfl rfl ?_
    refine lst_nilCheck rfl rfl ?_
    refine lst_field_z rfl rfl F.fi139_0 F.ti137 ?_
    refine lst_load rfl rfl F.one137 ?_
    refine lst_slice1 rfl rfl rfl Tryd.underlying137 F.ti142 ?_
    intro A1
    refine lst_nilCheck rfl rfl ?_
    refine lst_field_z rfl rfl F.fi139_0 F.ti137 ?_
    refine lst_store rfl rfl F.ti137 rfl ?_
    refine lst_nil ?_
    refine ex_then ?_
    refine cod_seq ?_
    refine cod_region ?_
    refine lst_loadN rfl rfl F.agg142 F.ti142 ?_
    refine lst_store rfl rfl F.ti142 rfl ?_
    refine lst_assign rfl rfl ?_
    refine lst_nil ?_
    refine ex_then ?_
    refine cod_ret ?_
    exact ex_ret rfl (fun a w ha => by exact res_cellN_tmp (ha := ha) rfl rfl rfl F.agg142 F.ti142 rfl) (fun _ _ ha' => ⟨A1, c - 1, rfl, ha.back (ha'.pck (by repeat (first | exact Pck.nil _ | exact Pck.refl _ | (apply Pck.cons; focus (repeat (first | exact Rem.here _ | apply Rem.there))) | refine Pck.skip _ ?_)))⟩)

end Go.Proofs.YtofkhehcnfiopaaDoor.N
