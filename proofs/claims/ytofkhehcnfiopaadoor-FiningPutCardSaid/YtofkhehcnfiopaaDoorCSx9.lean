/- Parts of the walks of the laws on fining: Sx9, AsF, AsG, F28, Ref, F29. -/
import Derived.Test.YtofkhehcnfiopaaDoorCSx8
import Derived.LaidEql
import Derived.Stop.Asserts
import Derived.RowKitTokens
import Derived.Test.YtofkhehcnfiopaaDoorProg
namespace Go.Proofs.YtofkhehcnfiopaaDoor.N
open Go Go.RowKit Go.Proofs
variable {C : Ctx} {fr : List (Nat × Value)} {hp hp' : List Res} {ops : Array Oper} {Q : Exit → Act → World → Prop} {rest : List Oper} {d : Nat} {ty : TypeId} {pos : String} {after : Array Edge}
/-- A call of one of the model's own functions. -/
theorem lst_prim {X : Type} {x : Operand} {f : FuncId} {vs : List Value} {args : Array Operand} {ts : Array TypeId} {val : X → Value} {rs : X → List Res} (hd : Nat.blt d C.N = true)
    (hx : ev fr x = some (.func (.func f) #[] #[])) (hargs : args.toList.map (ev fr) = vs.map some)
    (h : ∀ a w, At C fr hp a w → ∃ y w', (callFunc f vs.toArray).run C.P w = .ok (.value (val y)) w' ∧ At C fr (rs y) a w')
    (k : ∀ y, Lst C ops Q rest ((d, val y) :: fr) (rs y)) : Lst C ops Q (⟨some d, .call { callee := .value x, args := args, argTypes := ts }, ty, pos, after, none⟩ :: rest) fr hp := by
  intro a w ha
  refine wpList_plain rfl fun K hK => ?_
  unfold Oper.wp
  obtain ⟨y, w', h1, h2⟩ := h a w ha
  have hr : (execOp a.eval ⟨some d, .call { callee := .value x, args := args, argTypes := ts }, ty, pos, after, none⟩).run C.P w = .ok (.value (val y)) w' := by
    simp only [execOp, resolve, ev_args ha hargs, ha.eval hx, Deferred.ofValue, Sem.run_bind, Sem.run_pure, Result.andThen_ok, invoke, List.append_toArray, List.append_nil]
    exact h1
  rw [hr]
  exact hK _ _ (k y _ _ (h2.put (lt_of_blt hd) _))
/-- A method of one of the model's own types, called by an interface. -/
theorem lst_method {x : Operand} {name : String} {t f : Nat} {rv rcv v : Value} {vs : List Value} {args : Array Operand} {ts : Array TypeId} (hd : Nat.blt d C.N = true)
    (hx : ev fr x = some (.iface t rv)) (hargs : args.toList.map (ev fr) = vs.map some)
    (hm : ∀ w, (Go.method (C.P.types.size + Made.depth) t rv name).run C.P w = .ok (f, rcv) w)
    (h : ∀ w, (callFunc f (#[rcv] ++ vs.toArray)).run C.P w = .ok (.value v) w)
    (k : Lst C ops Q rest ((d, v) :: fr) hp) : Lst C ops Q (⟨some d, .call { callee := .invoke x name, args := args, argTypes := ts }, ty, pos, after, none⟩ :: rest) fr hp := by
  refine lst_value _ hd (fun a w ha => ⟨w, ?_, ha⟩) k
  have hp : (program : Sem Program).run C.P w = .ok C.P w := rfl
  have e1 : (#[Value.iface t rv] ++ vs.toArray)[0]? = some (.iface t rv) := by simp
  have e2 : (#[Value.iface t rv] ++ vs.toArray).extract 1 (#[Value.iface t rv] ++ vs.toArray).size = vs.toArray := by simp
  simp only [execOp, resolve, ev_args ha hargs, ha.eval hx, Sem.run_bind, Sem.run_pure, Result.andThen_ok, invoke, e1, e2, callMethod, hp, hm, h]
theorem run_call_ext {P : Program} {f : FuncId} {fn : Func} {e : Array Value → Sem Value} (hf : P.funcs[f]? = some fn) (hname : (fn.name == "runtime.NumGoroutine") = false)
    (hb : fn.body.isNone = true) (hn : Extern.findNext fn = none) (he : Extern.find fn = some e) {args : Array Value} {w w' : World} {v : Value} (h : (e args).run P w = .ok v w') : (callFunc f args).run P w = .ok (.value v) w' := by
  rw [run_callFunc_extern hf hname hb hn he, h]
  rfl
end Go.Proofs.YtofkhehcnfiopaaDoor.N
namespace Go.Proofs.YtofkhehcnfiopaaDoor.N
open Go Go.RowKit Go.Proofs Go.Extern.Stop Go.Stop Go.Extern
/-! Closed facts on the model's entries for reflectlite, at this program's types: 111: an error that is no way; 113: a pointer to it; 107: error; 166: reflectlite's own rows of types. -/
def hT (t : Nat) : Value := .pointer (some ⟨1, t, none⟩)
def iT (t : Nat) : Value := .iface 166 (.agg #[hT t])
def rv (t : Nat) (a : Addr) (fl : Int) : Value := .agg #[hT t, .pointer (some a), .int .u64 fl]
theorem As.valueOf113 (t : Addr) (w : World) : (ReflectliteValue.unpack (.iface 113 (.pointer (some t)))).run Tryd.prog w = .ok (rv 113 ⟨w.heap.size, 0, none⟩ 150) (w.alloc (.cells #[.pointer (some t)] 113)) := by kernel_rfl
theorem As.type113 (a : Addr) (w : World) : (ReflectliteValue.methodAny (ReflectliteValue.valueError "reflectlite.Value.Type" 0) (fun t _ _ _ => ReflectliteType.toType t) #[rv 113 a 150]).run Tryd.prog w = .ok (iT 113) w := by kernel_rfl
theorem As.methodKind (h : Value) (w : World) : (Go.method (Tryd.prog.types.size + Made.depth) 166 (.agg #[h]) "Kind").run Tryd.prog w = .ok (145, h) w := by kernel_rfl
theorem As.methodElem (h : Value) (w : World) : (Go.method (Tryd.prog.types.size + Made.depth) 166 (.agg #[h]) "Elem").run Tryd.prog w = .ok (156, .agg #[h]) w := by kernel_rfl
theorem As.methodImplements (h : Value) (w : World) : (Go.method (Tryd.prog.types.size + Made.depth) 166 (.agg #[h]) "Implements").run Tryd.prog w = .ok (157, .agg #[h]) w := by kernel_rfl
theorem As.methodAssignableTo (h : Value) (w : World) : (Go.method (Tryd.prog.types.size + Made.depth) 166 (.agg #[h]) "AssignableTo").run Tryd.prog w = .ok (154, .agg #[h]) w := by kernel_rfl
theorem As.kind113 (w : World) : ((ReflectliteType.abiMethod fun t => (fun a : Nat => Value.int IntKind.u8 (a : Int)) <$> Rtype.kind t) #[hT 113]).run Tryd.prog w = .ok (.int .u8 22) w := by kernel_rfl
theorem As.kind111 (w : World) : ((ReflectliteType.abiMethod fun t => (fun a : Nat => Value.int IntKind.u8 (a : Int)) <$> Rtype.kind t) #[hT 111]).run Tryd.prog w = .ok (.int .u8 25) w := by kernel_rfl
theorem As.rlm (z : Sem Value) (f : TypeId → Addr → Nat → Nat → Sem Value) (v : Value) :
    ReflectliteValue.method z f #[v] = (do match ← ReflectliteValue.parts v with | none => z | some (t, a, fl) => f t a fl (fl % 32)) := rfl
theorem As.parts113 (a : Addr) (w : World) : (ReflectliteValue.parts (rv 113 a 150)).run Tryd.prog w = .ok (some (113, a, 150)) w := by kernel_rfl
theorem As.isNil113 (a p : Addr) (W : World) (ha : W.cell? a = some (.pointer (some p))) :
    (ReflectliteValue.method (ReflectliteValue.valueError "reflectlite.Value.IsNil" 0) ReflectliteValue.isNil #[rv 113 a 150]).run Tryd.prog W = .ok (.bool false) W := by
  rw [As.rlm]
  simp only [Sem.run_bind, As.parts113, Result.andThen]
  simp [ReflectliteValue.isNil, loadVar, isAgg, underlying, Tryd.underlying113, ha, Result.andThen]
theorem As.elem113 (w : World) : (ReflectliteType.method ReflectliteType.elem #[.agg #[hT 113]]).run Tryd.prog w = .ok (iT 111) w := by kernel_rfl
theorem As.implements111 (w : World) : (ReflectliteType.relation "Implements" ReflectliteType.implements_ #[.agg #[hT 111], iT 107]).run Tryd.prog w = .ok (.bool true) w := by kernel_rfl
theorem As.typeOf111 (v : Value) (w : World) : (ReflectliteType.typeOf #[.iface 111 v]).run Tryd.prog w = .ok (iT 111) w := by kernel_rfl
theorem As.assignable111 (w : World) : (ReflectliteType.relation "AssignableTo" ReflectliteType.assignableTo #[.agg #[hT 111], iT 111]).run Tryd.prog w = .ok (.bool true) w := by kernel_rfl
theorem As.valueOf111 (x y : Int) (w : World) : (ReflectliteValue.unpack (.iface 111 (.agg #[.int .i64 x, .int .i64 y]))).run Tryd.prog w = .ok (rv 111 ⟨w.heap.size, 0, none⟩ 153) (w.alloc (.cells #[.int .i64 x, .int .i64 y] 111)) := by kernel_rfl
theorem As.elemOf113 (w : World) : (Rtype.elem? 113).run Tryd.prog w = .ok (some 111) w := by kernel_rfl
theorem As.mk111 (p : Addr) (w : World) : (ReflectliteValue.mk 111 p ReflectliteValue.flagAddr).run Tryd.prog w = .ok (rv 111 p 409) w := by kernel_rfl
theorem As.elemV113 (a p : Addr) (W : World) (ha : W.cell? a = some (.pointer (some p))) :
    (ReflectliteValue.method (ReflectliteValue.valueError "reflectlite.Value.Elem" 0) ReflectliteValue.elem #[rv 113 a 150]).run Tryd.prog W = .ok (rv 111 p 409) W := by
  rw [As.rlm]
  simp only [Sem.run_bind, As.parts113, Result.andThen]
  simp [ReflectliteValue.elem, loadVar, isAgg, underlying, Tryd.underlying113, ha, Result.andThen, As.elemOf113, As.mk111]
theorem As.rls (v x : Value) : ReflectliteValue.set #[v, x] = (do
    let (some (dst, a, fl), some (src, b, _)) := (← ReflectliteValue.parts v, ← ReflectliteValue.parts x)
      | unsupported (.noEntry "extern/(internal/reflectlite.Value).Set.zeroValue")
    if fl / ReflectliteValue.flagAddr % 2 == 0 then unsupported (.noEntry "extern/(internal/reflectlite.Value).Set.unaddressable")
    let val ← loadVar src b
    if ← Rtype.directlyAssignable dst src then storeVar dst a val
    else if ← Rtype.implements dst src then
      if (← Rtype.kind src) == 20 then
        match val with
        | .nilIface => unsupported (.noEntry "extern/reflectlite: a nil value of one interface type handed on as a value of another")
        | _ => storeVar dst a val
      else storeVar dst a (.iface src val)
    else panicString ("reflectlite.Set: value of type " ++ (← Rtype.spelt src) ++ " is not assignable to type " ++ (← Rtype.spelt dst))
    pure (.tuple #[])) := rfl
theorem As.parts111a (a : Addr) (w : World) : (ReflectliteValue.parts (rv 111 a 409)).run Tryd.prog w = .ok (some (111, a, 409)) w := by kernel_rfl
theorem As.parts111 (a : Addr) (w : World) : (ReflectliteValue.parts (rv 111 a 153)).run Tryd.prog w = .ok (some (111, a, 153)) w := by kernel_rfl
theorem As.direct111 (w : World) : (Rtype.directlyAssignable 111 111).run Tryd.prog w = .ok true w := by kernel_rfl
/-- The variable at t gets what the value's own variable holds. -/
theorem As.set111 (t b : Addr) (V : Value) (W W' : World) (hb : (loadVar 111 b).run Tryd.prog W = .ok V W) (hs : (storeVar 111 t V).run Tryd.prog W = .ok () W') :
    (ReflectliteValue.set #[rv 111 t 409, rv 111 b 153]).run Tryd.prog W = .ok (.tuple #[]) W' := by
  rw [As.rls]
  simp only [Sem.run_bind, As.parts111a, As.parts111, Result.andThen]
  simp [ReflectliteValue.flagAddr, hb, hs, Result.andThen, As.direct111]
/-! The calls themselves. -/
theorem As.c117 {args : Array Value} {w w' : World} {v : Value} (h : (ReflectliteValue.unpack (args.getD 0 (.tuple #[]))).run Tryd.prog w = .ok v w') : (callFunc 117 args).run Tryd.prog w = .ok (.value v) w' :=
  run_call_ext (e := fun args => ReflectliteValue.unpack (args.getD 0 (.tuple #[]))) Tryd.func117 (by kernel_rfl) (by kernel_rfl) (by kernel_rfl) (by kernel_rfl) h
theorem As.c118 {args : Array Value} {w w' : World} {v : Value} (h : (ReflectliteValue.methodAny (ReflectliteValue.valueError "reflectlite.Value.Type" 0) (fun t _ _ _ => ReflectliteType.toType t) args).run Tryd.prog w = .ok v w') : (callFunc 118 args).run Tryd.prog w = .ok (.value v) w' :=
  run_call_ext Tryd.func118 (by kernel_rfl) (by kernel_rfl) (by kernel_rfl) (by kernel_rfl) h
theorem As.c119 {args : Array Value} {w w' : World} {v : Value} (h : (ReflectliteValue.method (ReflectliteValue.valueError "reflectlite.Value.IsNil" 0) ReflectliteValue.isNil args).run Tryd.prog w = .ok v w') : (callFunc 119 args).run Tryd.prog w = .ok (.value v) w' :=
  run_call_ext Tryd.func119 (by kernel_rfl) (by kernel_rfl) (by kernel_rfl) (by kernel_rfl) h
theorem As.c145 {args : Array Value} {w w' : World} {v : Value} (h : ((ReflectliteType.abiMethod fun t => do pure (.int .u8 (← Rtype.kind t))) args).run Tryd.prog w = .ok v w') : (callFunc 145 args).run Tryd.prog w = .ok (.value v) w' :=
  run_call_ext Tryd.func145 (by kernel_rfl) (by kernel_rfl) (by kernel_rfl) (by kernel_rfl) h
theorem As.c156 {args : Array Value} {w w' : World} {v : Value} (h : (ReflectliteType.method ReflectliteType.elem args).run Tryd.prog w = .ok v w') : (callFunc 156 args).run Tryd.prog w = .ok (.value v) w' :=
  run_call_ext Tryd.func156 (by kernel_rfl) (by kernel_rfl) (by kernel_rfl) (by kernel_rfl) h
theorem As.c157 {args : Array Value} {w w' : World} {v : Value} (h : (ReflectliteType.relation "Implements" ReflectliteType.implements_ args).run Tryd.prog w = .ok v w') : (callFunc 157 args).run Tryd.prog w = .ok (.value v) w' :=
  run_call_ext Tryd.func157 (by kernel_rfl) (by kernel_rfl) (by kernel_rfl) (by kernel_rfl) h
theorem As.c128 {args : Array Value} {w w' : World} {v : Value} (h : (ReflectliteType.typeOf args).run Tryd.prog w = .ok v w') : (callFunc 128 args).run Tryd.prog w = .ok (.value v) w' :=
  run_call_ext Tryd.func128 (by kernel_rfl) (by kernel_rfl) (by kernel_rfl) (by kernel_rfl) h
theorem As.c154 {args : Array Value} {w w' : World} {v : Value} (h : (ReflectliteType.relation "AssignableTo" ReflectliteType.assignableTo args).run Tryd.prog w = .ok v w') : (callFunc 154 args).run Tryd.prog w = .ok (.value v) w' :=
  run_call_ext Tryd.func154 (by kernel_rfl) (by kernel_rfl) (by kernel_rfl) (by kernel_rfl) h
theorem As.c129 {args : Array Value} {w w' : World} {v : Value} (h : (ReflectliteValue.method (ReflectliteValue.valueError "reflectlite.Value.Elem" 0) ReflectliteValue.elem args).run Tryd.prog w = .ok v w') : (callFunc 129 args).run Tryd.prog w = .ok (.value v) w' :=
  run_call_ext Tryd.func129 (by kernel_rfl) (by kernel_rfl) (by kernel_rfl) (by kernel_rfl) h
theorem As.c130 {args : Array Value} {w w' : World} {v : Value} (h : (ReflectliteValue.set args).run Tryd.prog w = .ok v w') : (callFunc 130 args).run Tryd.prog w = .ok (.value v) w' :=
  run_call_ext Tryd.func130 (by kernel_rfl) (by kernel_rfl) (by kernel_rfl) (by kernel_rfl) h
end Go.Proofs.YtofkhehcnfiopaaDoor.N
namespace Go.Proofs.YtofkhehcnfiopaaDoor.N
open Go Go.RowKit Go.Proofs
/-- An interface value and nil. -/
theorem run_eql_nil_no {t t' : TypeId} {v : Value} {P : Program} {ms} (ht : P.underlying t = some (.interface ms)) (x : Operand) (w : World) :
    (do eqGuard .eql t x (.const .nilIface) (.iface t' v) .nilIface; binOp .eql t (.iface t' v) .nilIface : Sem Value).run P w = .ok (.bool false) w := by
  have hg : (eqGuard .eql t x (.const .nilIface) (.iface t' v) .nilIface).run P w = .ok () w := by simp [eqGuard]
  have hb : (binOp .eql t (.iface t' v) .nilIface).run P w = .ok (.bool false) w := by
    show (do pure (.bool (← Op.equal t (.iface t' v) .nilIface)) : Sem Value).run P w = _
    have he : (Op.equal t (.iface t' v) .nilIface).run P w = .ok false w := by
      show (Op.equalIn (9999 + 1) t (.iface t' v) .nilIface).run P w = _
      unfold Op.equalIn
      simp only [Sem.run_bind, run_underlying ht, Result.andThen_ok]
      simp
    simp only [Sem.run_bind, he, Result.andThen_ok, Sem.run_pure]
  simp only [Sem.run_bind, hg, Result.andThen_ok, hb]
theorem At.store_blk {C : Ctx} {fr : List (Nat × Value)} {hp hp' : List Res} {a : Act} {w : World} (ha : At C fr hp a w) {ty t b n m : Nat} {cs vs : List Value} {z : Value} [hc : Cells (.agg vs.toArray) vs] (hi : TI C.P ty z n m) (hu : Upd (.blk b (.cells cs.toArray t (0, 0))) (.blk b (.cells vs.toArray t (0, 0))) hp hp') (hn : vs.length = n := by rfl) (hl : cs.length = vs.length := by rfl) :
    ∃ w', (storeVar ty ⟨b, 0, none⟩ (.agg vs.toArray)).run C.P w = .ok () w' ∧ At C fr hp' a w' := by
  obtain ⟨i, hi, _, hsz, _⟩ := hi
  have hs : Splice cs 0 vs vs := ⟨by simp [hl], by omega⟩
  obtain ⟨w', h1, h2, h3⟩ := splice_upd hs (ha.mem_blk hu.mem) hc.one C.P
  refine ⟨w', ?_, ha.turn hu h3 ⟨(ha.own _ hu.mem).1, h2⟩ (fun k hk => .inl hk)⟩
  simp [storeVar, sizeOf, typeInfo, hi, hc.eq, hn, hsz, h1]
end Go.Proofs.YtofkhehcnfiopaaDoor.N
namespace Go.Proofs.YtofkhehcnfiopaaDoor.N
open Go Go.RowKit Go.Proofs
theorem F.agg111 : aggB Tryd.prog 111 = true := by unfold aggB; rw [Tryd.underlying111]
theorem F.agg149 : aggB Tryd.prog 149 = true := by unfold aggB; rw [Tryd.underlying149]
theorem F.ent120 : Enters Tryd.prog 120 := enters_of Tryd.func120 rfl (by kernel_rfl)
theorem F.one152 : One Tryd.prog 152 := ⟨by unfold aggB; rw [Tryd.underlying152], by rw [Tryd.underlying152]; simp⟩
theorem F.ti149 : TI Tryd.prog 149 (.agg [.pointer none, .pointer none, .int .u64 0].toArray) 3 24 := TI.of (by kernel_rfl)
set_option maxRecDepth 100000 in
theorem as_hit {C : Ctx} {fr : List (Nat × Value)} {T : List Res} {a : Act} {w : World} (hC : C.P = Tryd.prog) {bt bp : Nat} {x y x0 y0 : Int} (ha : At C fr (.blk bt (.cells [.int .i64 x0, .int .i64 y0].toArray 111 (0, 0)) :: .blk bp (.cells [.pointer (some ⟨bt, 0, none⟩)].toArray 113 (0, 0)) :: T) a w) : Calls C.P 120 #[.iface 111 (.agg [.int .i64 x, .int .i64 y].toArray), .iface 113 (.pointer (some ⟨bt, 0, none⟩)), (Value.agg (([.pointer (some ⟨1, 113, none⟩), .pointer (some ⟨bp, 0, none⟩), .int .u64 150] : List Value)).toArray), iT 111] w fun e w' => e = .returned (.bool true) ∧ At C fr (.blk bt (.cells [.int .i64 x, .int .i64 y].toArray 111 (0, 0)) :: .blk bp (.cells [.pointer (some ⟨bt, 0, none⟩)].toArray 113 (0, 0)) :: T) a w' := by
  obtain ⟨P, B, w0, N0, ds⟩ := C
  obtain rfl : P = Tryd.prog := hC
  (try dsimp only at hB)
  (try dsimp only at hN)
  refine enter_in (N := 62) [(0, .iface 111 (.agg [.int .i64 x, .int .i64 y].toArray)), (1, .iface 113 (.pointer (some ⟨bt, 0, none⟩))), (2, (Value.agg (([.pointer (some ⟨1, 113, none⟩), .pointer (some ⟨bp, 0, none⟩), .int .u64 150] : List Value)).toArray)), (3, iT 111)] ha Tryd.func120 rfl Tryd.ntmps120 rfl rfl ?_
  refine cod_seq ?_
  refine cod_region ?_
  refine lst_box rfl rfl ?_
  intro b6
  refine lst_assign rfl rfl ?_
  refine lst_nil ?_
  refine ex_then ?_
  refine cod_block ?_
  refine cod_loop' (G := Nat) (fun g => g = 0) (fun g => 0) (fun g => [(0, .iface 111 (.agg [.int .i64 x, .int .i64 y].toArray)), (1, .iface 113 (.pointer (some ⟨bt, 0, none⟩))), (3, iT 111), (6, .pointer (some ⟨b6, 0, none⟩))]) (fun g => .blk b6 (.cells [.pointer (some ⟨1, 113, none⟩), .pointer (some ⟨bp, 0, none⟩), .int .u64 150].toArray 149 (0, 0)) :: .blk bt (.cells [.int .i64 x0, .int .i64 y0].toArray 111 (0, 0)) :: .blk bp (.cells [.pointer (some ⟨bt, 0, none⟩)].toArray 113 (0, 0)) :: T) (0) rfl (by repeat (first | exact Sub.nil _ | refine Sub.cons rfl ?_)) (by repeat (first | exact Pck.nil _ | exact Pck.refl _ | (apply Pck.cons; focus ((repeat (first | exact Rem.here _ | apply Rem.there)); done)) | refine Pck.skip _ ?_)) ?_
  rintro k hk0
  try dsimp only at hk0 ⊢
  refine cod_block ?_
  refine cod_seq ?_
  refine cod_seq ?_
  refine cod_region ?_
  refine lst_move rfl rfl ?_
  refine lst_prim (X := Unit) (vs := [_]) (val := fun _ => iT 111) (rs := fun _ => .blk b6 (.cells [.pointer (some ⟨1, 113, none⟩), .pointer (some ⟨bp, 0, none⟩), .int .u64 150].toArray 149 (0, 0)) :: .blk bt (.cells [.int .i64 x0, .int .i64 y0].toArray 111 (0, 0)) :: .blk bp (.cells [.pointer (some ⟨bt, 0, none⟩)].toArray 113 (0, 0)) :: T) rfl rfl rfl (fun a w ha => ⟨(), w, As.c128 (As.typeOf111 _ w), ha⟩) ?_
  rintro ⟨⟩
  (try dsimp only)
  refine lst_move rfl rfl ?_
  refine lst_method (vs := [_]) rfl rfl rfl (fun w => As.methodAssignableTo _ w) (fun w => As.c154 (As.assignable111 w)) ?_
  refine lst_nil ?_
  refine ex_then ?_
  refine cod_cond_true rfl ?_
  refine cod_seq ?_
  refine cod_region ?_
  refine lst_loadN rfl rfl F.agg149 F.ti149 ?_
  refine lst_prim (X := Unit) (vs := [_]) (val := fun _ => (Value.agg (([.pointer (some ⟨1, 111, none⟩), .pointer (some ⟨bt, 0, none⟩), .int .u64 409] : List Value)).toArray)) (rs := fun _ => .blk b6 (.cells [.pointer (some ⟨1, 113, none⟩), .pointer (some ⟨bp, 0, none⟩), .int .u64 150].toArray 149 (0, 0)) :: .blk bt (.cells [.int .i64 x0, .int .i64 y0].toArray 111 (0, 0)) :: .blk bp (.cells [.pointer (some ⟨bt, 0, none⟩)].toArray 113 (0, 0)) :: T) rfl rfl rfl (fun a w ha => ⟨(), w, As.c129 (As.elemV113 ⟨bp, 0, none⟩ ⟨bt, 0, none⟩ w (cell_of_blk (ha.mem_blk (InB.mem (b := bp))) rfl)), ha⟩) ?_
  rintro ⟨⟩
  (try dsimp only)
  refine lst_move rfl rfl ?_
  refine lst_prim (X := Nat) (vs := [_]) (val := fun b => (Value.agg (([.pointer (some ⟨1, 111, none⟩), .pointer (some ⟨b, 0, none⟩), .int .u64 153] : List Value)).toArray)) (rs := fun b => .blk b (.cells [.int .i64 x, .int .i64 y].toArray 111 (0, 0)) :: .blk b6 (.cells [.pointer (some ⟨1, 113, none⟩), .pointer (some ⟨bp, 0, none⟩), .int .u64 150].toArray 149 (0, 0)) :: .blk bt (.cells [.int .i64 x0, .int .i64 y0].toArray 111 (0, 0)) :: .blk bp (.cells [.pointer (some ⟨bt, 0, none⟩)].toArray 113 (0, 0)) :: T) rfl rfl rfl (fun a w ha => ⟨w.heap.size, _, As.c117 (As.valueOf111 x y w), ha.alloc (.cells [.int .i64 x, .int .i64 y].toArray 111)⟩) ?_
  intro b
  (try dsimp only)
  refine lst_prim (X := Unit) (vs := [_, _]) (val := fun _ => .tuple #[]) (rs := fun _ => .blk b (.cells [.int .i64 x, .int .i64 y].toArray 111 (0, 0)) :: .blk b6 (.cells [.pointer (some ⟨1, 113, none⟩), .pointer (some ⟨bp, 0, none⟩), .int .u64 150].toArray 149 (0, 0)) :: .blk bt (.cells [.int .i64 x, .int .i64 y].toArray 111 (0, 0)) :: .blk bp (.cells [.pointer (some ⟨bt, 0, none⟩)].toArray 113 (0, 0)) :: T) rfl rfl rfl (fun a w ha => by
    obtain ⟨w', h1, h2⟩ := ha.store_blk (ty := 111) (t := 111) (b := bt) (cs := [.int .i64 x0, .int .i64 y0]) (vs := [.int .i64 x, .int .i64 y]) F.ti111 (.tail _ (.tail _ (.head _)))
    have hl := run_loadVar_blk (ct := 111) (b := b) (l := [.int .i64 x, .int .i64 y]) ha F.agg111 F.ti111 rfl
    have hs := As.set111 ⟨bt, 0, none⟩ ⟨b, 0, none⟩ (.agg [.int .i64 x, .int .i64 y].toArray) w w' hl h1
    exact ⟨(), w', As.c130 hs, h2⟩) ?_
  rintro ⟨⟩
  (try dsimp only)
  refine lst_nil ?_
  refine ex_then ?_
  refine cod_seq ?_
  refine cod_region ?_
  refine lst_assign rfl rfl ?_
  refine lst_nil ?_
  refine ex_then ?_
  refine cod_ret ?_
  refine ex_then_ret ?_
  refine ex_block_ret ?_
  refine ex_then_ret ?_
  refine ex_block_ret ?_
  exact ex_ret rfl (fun a w ha => res_one rfl rfl ha) (fun _ _ ha' => ⟨rfl, ha.back (ha'.pck (by repeat (first | exact Pck.nil _ | exact Pck.refl _ | (apply Pck.cons; focus ((repeat (first | exact Rem.here _ | apply Rem.there)); done)) | refine Pck.skip _ ?_)))⟩)

theorem As_hit {C : Ctx} {fr : List (Nat × Value)} {T : List Res} {a : Act} {w : World} (hC : C.P = Tryd.prog) {bt : Nat} {x y x0 y0 : Int} (hB : C.w0.heap.size = C.B) (hB0 : 0 < C.B) (hE : C.w0.cell? ⟨0, 0, none⟩ = some (iT 107)) (ha : At C fr (.blk bt (.cells [.int .i64 x0, .int .i64 y0].toArray 111 (0, 0)) :: T) a w) : Calls C.P 96 #[.iface 111 (.agg [.int .i64 x, .int .i64 y].toArray), .iface 113 (.pointer (some ⟨bt, 0, none⟩))] w fun e w' => e = .returned (.bool true) ∧ At C fr (.blk bt (.cells [.int .i64 x, .int .i64 y].toArray 111 (0, 0)) :: T) a w' := by
  obtain ⟨P, B, w0, N0, ds⟩ := C
  obtain rfl : P = Tryd.prog := hC
  (try dsimp only at hB)
  (try dsimp only at hN)
  refine enter_in (N := 42) [(0, .iface 111 (.agg [.int .i64 x, .int .i64 y].toArray)), (1, .iface 113 (.pointer (some ⟨bt, 0, none⟩)))] ha Tryd.func96 rfl Tryd.ntmps96 rfl rfl ?_
  refine cod_seq ?_
  refine cod_region ?_
  refine lst_assign rfl rfl ?_
  refine lst_nil ?_
  refine ex_then ?_
  refine cod_seq ?_
  refine cod_seq ?_
  refine cod_region ?_
  refine lst_move rfl rfl ?_
  refine lst_bin (v := .bool false) rfl rfl rfl (run_eql_nil_no Tryd.underlying107 _) ?_
  refine lst_nil ?_
  refine ex_then ?_
  refine cod_cond_false rfl ?_
  refine cod_skip ?_
  refine ex_then ?_
  refine cod_seq ?_
  refine cod_seq ?_
  refine cod_region ?_
  refine lst_move rfl rfl ?_
  refine lst_bin (v := .bool false) rfl rfl rfl (run_eql_nil_no Tryd.underlying20 _) ?_
  refine lst_nil ?_
  refine ex_then ?_
  refine cod_cond_false rfl ?_
  refine cod_skip ?_
  refine ex_then ?_
  refine cod_seq ?_
  refine cod_region ?_
  refine lst_move rfl rfl ?_
  refine lst_prim (X := Nat) (vs := [_]) (val := fun b => (Value.agg (([.pointer (some ⟨1, 113, none⟩), .pointer (some ⟨b, 0, none⟩), .int .u64 150] : List Value)).toArray)) (rs := fun b => .blk b (.cells [.pointer (some ⟨bt, 0, none⟩)].toArray 113 (0, 0)) :: .blk bt (.cells [.int .i64 x0, .int .i64 y0].toArray 111 (0, 0)) :: T) rfl rfl rfl (fun a w ha => ⟨w.heap.size, _, As.c117 (As.valueOf113 ⟨bt, 0, none⟩ w), ha.alloc (.cells [.pointer (some ⟨bt, 0, none⟩)].toArray 113)⟩) ?_
  intro b
  (try dsimp only)
  refine lst_alloc rfl F.ti149 ?_
  intro b5
  refine lst_store rfl rfl F.ti149 rfl ?_
  refine lst_nil ?_
  refine ex_then ?_
  refine cod_seq ?_
  refine cod_region ?_
  refine lst_loadN rfl rfl F.agg149 F.ti149 ?_
  refine lst_prim (X := Unit) (vs := [_]) (val := fun _ => iT 113) (rs := fun _ => .blk b5 (.cells [.pointer (some ⟨1, 113, none⟩), .pointer (some ⟨b, 0, none⟩), .int .u64 150].toArray 149 (0, 0)) :: .blk b (.cells [.pointer (some ⟨bt, 0, none⟩)].toArray 113 (0, 0)) :: .blk bt (.cells [.int .i64 x0, .int .i64 y0].toArray 111 (0, 0)) :: T) rfl rfl rfl (fun a w ha => ⟨(), w, As.c118 (As.type113 ⟨b, 0, none⟩ w), ha⟩) ?_
  rintro ⟨⟩
  (try dsimp only)
  refine lst_assign rfl rfl ?_
  refine lst_nil ?_
  refine ex_then ?_
  refine cod_seq ?_
  refine cod_seq ?_
  refine cod_region ?_
  refine lst_move rfl rfl ?_
  refine lst_method (vs := []) rfl rfl rfl (fun w => As.methodKind _ w) (fun w => As.c145 (As.kind113 w)) ?_
  refine lst_int rfl rfl rfl bin_neq ?_
  refine lst_move rfl rfl ?_
  refine lst_on rfl rfl ?_
  refine lst_loadN rfl rfl F.agg149 F.ti149 ?_
  refine lst_on rfl rfl ?_
  refine lst_prim (X := Unit) (vs := [_]) (val := fun _ => .bool false) (rs := fun _ => .blk b5 (.cells [.pointer (some ⟨1, 113, none⟩), .pointer (some ⟨b, 0, none⟩), .int .u64 150].toArray 149 (0, 0)) :: .blk b (.cells [.pointer (some ⟨bt, 0, none⟩)].toArray 113 (0, 0)) :: .blk bt (.cells [.int .i64 x0, .int .i64 y0].toArray 111 (0, 0)) :: T) rfl rfl rfl (fun a w ha => ⟨(), w, As.c119 (As.isNil113 ⟨b, 0, none⟩ ⟨bt, 0, none⟩ w (cell_of_blk (ha.mem_blk (InB.mem (b := b))) rfl)), ha⟩) ?_
  rintro ⟨⟩
  (try dsimp only)
  refine lst_pick_false rfl rfl rfl ?_
  refine lst_nil ?_
  refine ex_then ?_
  refine cod_cond_false rfl ?_
  refine cod_skip ?_
  refine ex_then ?_
  refine cod_seq ?_
  refine cod_region ?_
  refine lst_move rfl rfl ?_
  refine lst_method (vs := []) rfl rfl rfl (fun w => As.methodElem _ w) (fun w => As.c156 (As.elem113 w)) ?_
  refine lst_assign rfl rfl ?_
  refine lst_nil ?_
  refine ex_then ?_
  refine cod_seq ?_
  refine cod_seq ?_
  refine cod_region ?_
  refine lst_move rfl rfl ?_
  refine lst_method (vs := []) rfl rfl rfl (fun w => As.methodKind _ w) (fun w => As.c145 (As.kind111 w)) ?_
  refine lst_int rfl rfl rfl bin_neq ?_
  refine lst_move rfl rfl ?_
  refine lst_on rfl rfl ?_
  refine lst_move rfl rfl ?_
  refine lst_on rfl rfl ?_
  refine lst_load_at (v := iT 107) rfl rfl F.one152 (fun a w ha => ha.old hE (by omega)) ?_
  refine lst_on rfl rfl ?_
  refine lst_method (vs := [_]) rfl rfl rfl (fun w => As.methodImplements _ w) (fun w => As.c157 (As.implements111 w)) ?_
  refine lst_on rfl rfl ?_
  refine lst_not rfl rfl ?_
  refine lst_pick_true rfl rfl rfl ?_
  refine lst_nil ?_
  refine ex_then ?_
  refine cod_cond_false rfl ?_
  refine cod_skip ?_
  refine ex_then ?_
  refine cod_seq ?_
  refine cod_region ?_
  refine lst_move rfl rfl ?_
  refine lst_move rfl rfl ?_
  refine lst_loadN rfl rfl F.agg149 F.ti149 ?_
  refine lst_move rfl rfl ?_
  refine lst_call (X := Unit) (first := []) (cap := []) (vs := [_, _, _, _]) (p := fun _ => True) (val := fun _ => .bool true) (rs := fun _ => .blk b5 (.cells [.pointer (some ⟨1, 113, none⟩), .pointer (some ⟨b, 0, none⟩), .int .u64 150].toArray 149 (0, 0)) :: .blk b (.cells [.pointer (some ⟨bt, 0, none⟩)].toArray 113 (0, 0)) :: .blk bt (.cells [.int .i64 x, .int .i64 y].toArray 111 (0, 0)) :: T) rfl rfl rfl F.ent120 (fun a w ha => (as_hit (bt := bt) (bp := b) (x := x) (y := y) (x0 := x0) (y0 := y0) (T := .blk b5 (.cells [.pointer (some ⟨1, 113, none⟩), .pointer (some ⟨b, 0, none⟩), .int .u64 150].toArray 149 (0, 0)) :: T) rfl (ha.pck (by repeat (first | exact Pck.nil _ | exact Pck.refl _ | (apply Pck.cons; focus ((repeat (first | exact Rem.here _ | apply Rem.there)); done)) | refine Pck.skip _ ?_)))).mono (fun e w' h => ⟨(), trivial, h.1, h.2.pck (by repeat (first | exact Pck.nil _ | exact Pck.refl _ | (apply Pck.cons; focus ((repeat (first | exact Rem.here _ | apply Rem.there)); done)) | refine Pck.skip _ ?_))⟩)) ?_
  rintro ⟨⟩ -
  (try dsimp only)
  refine lst_assign rfl rfl ?_
  refine lst_nil ?_
  refine ex_then ?_
  refine cod_ret ?_
  exact ex_ret rfl (fun a w ha => res_one rfl rfl ha) (fun _ _ ha' => ⟨rfl, ha.back (ha'.pck (by repeat (first | exact Pck.nil _ | exact Pck.refl _ | (apply Pck.cons; focus ((repeat (first | exact Rem.here _ | apply Rem.there)); done)) | refine Pck.skip _ ?_)))⟩)

end Go.Proofs.YtofkhehcnfiopaaDoor.N
namespace Go.Proofs.YtofkhehcnfiopaaDoor.N
open Go Go.RowKit Go.Proofs
/-- What is said first of agents and two numbers. -/
def askedR (l : List RA) (m p : Int) : Nat := if ¬ checkR l = 0 then checkR l else if (inB m 0 63 && inB p 0 63) = true then 0 else 1
theorem askedR_ok {ags : List Ag} {m : Nat} {p : Int} (hok : Oks ags) (hm : m < 64) (hp : 0 ≤ p ∧ p ≤ 63) : askedR (ags.map Ag.raw) (m : Int) p = 0 := by
  unfold askedR
  rw [checkR_raw hok, if_neg (by simp), if_pos]
  rw [Bool.and_eq_true, inB_true, inB_true]
  omega
end Go.Proofs.YtofkhehcnfiopaaDoor.N
namespace Go.Proofs.YtofkhehcnfiopaaDoor.N
open Go Go.RowKit Go.Proofs
theorem F.ent47 : Enters Tryd.prog 47 := enters_of Tryd.func47 rfl (by kernel_rfl)
theorem F.ent82 : Enters Tryd.prog 82 := enters_of Tryd.func82 rfl (by kernel_rfl)
theorem F.ent86 : Enters Tryd.prog 86 := enters_of Tryd.func86 rfl (by kernel_rfl)
theorem F.ent97 : Enters Tryd.prog 97 := enters_of Tryd.func97 rfl (by kernel_rfl)
theorem among_c (n lo hi : Int) (w : World) : Calls Tryd.prog 82 #[.int .i64 n, .int .i64 lo, .int .i64 hi] w fun e w' => e = .returned (.bool (inB n lo hi)) ∧ Grew w w' [] := by
  refine enter (N := 15) [(0, .int .i64 n), (1, .int .i64 lo), (2, .int .i64 hi)] Tryd.func82 rfl Tryd.ntmps82 rfl rfl ?_
  refine cod_seq ?_
  refine cod_region ?_
  refine lst_assign rfl rfl ?_
  refine lst_nil ?_
  refine ex_then ?_
  refine cod_seq ?_
  refine cod_region ?_
  refine lst_cut1 8 14 (.bool (inB n lo hi)) ?_ ?_
  · skip
    refine lst_move rfl rfl ?_
    refine lst_move rfl rfl ?_
    refine lst_int rfl rfl rfl bin_geq ?_
    refine lst_move rfl rfl ?_
    refine lst_split_bool (t := 10) rfl (fun hg10 => ?_) (fun hg10 => ?_)
    · skip
      refine lst_on rfl rfl ?_
      refine lst_move rfl rfl ?_
      refine lst_on rfl rfl ?_
      refine lst_move rfl rfl ?_
      refine lst_on rfl rfl ?_
      refine lst_int rfl rfl rfl bin_leq ?_
      refine lst_pick_true rfl rfl rfl ?_
      refine lst_nil ?_
      exact ex_cut (.cons (by first | (simp_all [look, inB]; done) | (simp_all [look, inB]; omega)) (by repeat (first | exact Sub.nil _ | refine Sub.cons rfl ?_))) (by repeat (first | exact List.Sublist.refl _ | exact List.nil_sublist _ | refine List.Sublist.cons_cons _ ?_ | refine List.Sublist.cons _ ?_))
    · skip
      refine lst_off rfl rfl rfl ?_
      refine lst_off rfl rfl rfl ?_
      refine lst_off rfl rfl rfl ?_
      refine lst_pick_false rfl rfl rfl ?_
      refine lst_nil ?_
      exact ex_cut (.cons (by first | (simp_all [look, inB]; done) | (simp_all [look, inB]; omega)) (by repeat (first | exact Sub.nil _ | refine Sub.cons rfl ?_))) (by repeat (first | exact List.Sublist.refl _ | exact List.nil_sublist _ | refine List.Sublist.cons_cons _ ?_ | refine List.Sublist.cons _ ?_))
  refine lst_assign rfl rfl ?_
  refine lst_nil ?_
  refine ex_then ?_
  refine cod_ret ?_
  refine ex_ret rfl (fun a w ha => res_one rfl rfl ha) (fun a w ha => ⟨by rfl, ha.grown (List.nil_sublist _)⟩)

theorem rcheck_c (A : Option Addr) (c : Nat) (l : List RA) (w : World) (hA : RdL RA.cells 5 w A l) : Calls Tryd.prog 47 #[.slice A l.length c] w fun e w' => e = .returned (.int .i64 ((checkR l : Nat) : Int)) ∧ Grew w w' [] := by
  refine enter (N := 50) [(0, .slice A l.length c)] Tryd.func47 rfl Tryd.ntmps47 rfl rfl ?_
  refine cod_seq ?_
  refine cod_region ?_
  refine lst_assign rfl rfl ?_
  refine lst_nil ?_
  refine ex_then ?_
  refine cod_seq ?_
  refine cod_seq ?_
  refine cod_region ?_
  refine lst_move rfl rfl ?_
  refine lst_len rfl rfl Tryd.underlying22 ?_
  refine lst_int rfl rfl rfl bin_gtr ?_
  refine lst_nil ?_
  refine ex_then ?_
  refine cod_cond_dec rfl (fun hc0 => ?_) (fun hc0 => ?_)
  · skip
    refine cod_seq ?_
    refine cod_region ?_
    refine lst_assign rfl rfl ?_
    refine lst_nil ?_
    refine ex_then ?_
    refine cod_ret ?_
    refine ex_then_ret ?_
    refine ex_ret rfl (fun a w ha => res_one rfl rfl ha) (fun a w ha => ⟨by rw [show checkR l = 6 from if_pos (by omega)]; rfl, ha.grown (List.nil_sublist _)⟩)
  · skip
    have hl4 : l.length ≤ 4 := by omega
    have hcr : checkR l = firstBad l := if_neg (by omega)
    refine cod_skip ?_
    refine ex_then ?_
    refine cod_seq ?_
    refine cod_seq ?_
    refine cod_region ?_
    refine lst_assign rfl rfl ?_
    refine lst_nil ?_
    refine ex_then ?_
    refine cod_block ?_
    refine cod_loop (G := Nat) (fun k => k ≤ l.length ∧ ∀ y ∈ l.take k, y.bad = 0) (fun k => l.length - k) (fun k => [(0, .slice A l.length c), (3, .int .i64 (k : Int))]) (fun k => []) 0 ⟨Nat.zero_le _, by simp⟩ (by repeat (first | exact Sub.nil _ | refine Sub.cons rfl ?_)) (by repeat (first | exact List.Sublist.refl _ | exact List.nil_sublist _ | refine List.Sublist.cons_cons _ ?_ | refine List.Sublist.cons _ ?_)) ?_
    intro k hk
    (try dsimp only at hk ⊢)
    refine cod_seq ?_
    refine cod_seq ?_
    refine cod_region ?_
    refine lst_move rfl rfl ?_
    refine lst_move rfl rfl ?_
    refine lst_len rfl rfl Tryd.underlying22 ?_
    refine lst_int rfl rfl rfl bin_lss ?_
    refine lst_nil ?_
    refine ex_then ?_
    refine cod_cond_dec rfl (fun hc1 => ?_) (fun hc1 => ?_)
    · skip
      have hk' : k < l.length := by omega
      obtain ⟨b, o, rfl, hb, hcell⟩ := hA (by omega)
      obtain ⟨x, hx⟩ : ∃ x, l[k]? = some x := ⟨_, List.getElem?_eq_getElem hk'⟩
      have hpos : x.bad ≠ 0 → checkR l = x.bad := by
        intro hne
        rw [hcr, ← List.take_append_drop k l, firstBad_pre hk.2, List.drop_eq_getElem_cons hk', firstBad]
        have : l[k] = x := by rw [List.getElem?_eq_getElem hk'] at hx; exact Option.some.inj hx
        rw [this, if_pos hne]
      refine cod_skip ?_
      refine ex_then ?_
      refine cod_seq ?_
      refine cod_block ?_
      refine cod_seq ?_
      refine cod_region ?_
      refine lst_move rfl rfl ?_
      refine lst_move rfl rfl ?_
      refine lst_index (j := k) rfl rfl rfl Tryd.underlying22 F.ti24 rfl hk' ?_
      refine lst_loadN_at (l := [.int .i64 x.needs, .int .i64 x.no, .int .i64 x.takes, .int .i64 x.leaves, .int .i64 x.cost]) rfl rfl F.agg24 F.ti24 rfl (fun a w ha j u hu => ha.old (hcell k x hx j u hu) hb) ?_
      refine lst_alloc rfl F.ti24 ?_
      intro b4
      refine lst_store rfl rfl F.ti24 rfl ?_
      refine lst_nil ?_
      refine ex_then ?_
      refine cod_seq ?_
      refine cod_seq ?_
      refine cod_region ?_
      refine lst_cut1 22 39 (.bool (!(allB x.four))) ?_ ?_
      · skip
        refine lst_field_z rfl rfl F.fi24_0 F.ti3 ?_
        refine lst_load rfl rfl F.one3 ?_
        refine lst_fn0 (vs := [_, _, _]) rfl rfl F.ent82 (fun a w ha => among_c x.needs 0 63 w) ?_
        refine lst_not rfl rfl ?_
        refine lst_move rfl rfl ?_
        refine lst_split_bool (t := 22) rfl (fun hg22 => ?_) (fun hg22 => ?_)
        · skip
          refine lst_off rfl rfl rfl ?_
          refine lst_off rfl rfl rfl ?_
          refine lst_off rfl rfl rfl ?_
          refine lst_off rfl rfl rfl ?_
          refine lst_pick_true rfl rfl rfl ?_
          refine lst_move rfl rfl ?_
          refine lst_split_bool (t := 28) rfl (fun hg28 => ?_) (fun hg28 => ?_)
          · skip
            refine lst_off rfl rfl rfl ?_
            refine lst_off rfl rfl rfl ?_
            refine lst_off rfl rfl rfl ?_
            refine lst_off rfl rfl rfl ?_
            refine lst_pick_true rfl rfl rfl ?_
            refine lst_move rfl rfl ?_
            refine lst_split_bool (t := 34) rfl (fun hg34 => ?_) (fun hg34 => ?_)
            · skip
              refine lst_off rfl rfl rfl ?_
              refine lst_off rfl rfl rfl ?_
              refine lst_off rfl rfl rfl ?_
              refine lst_off rfl rfl rfl ?_
              refine lst_pick_true rfl rfl rfl ?_
              refine lst_nil ?_
              exact ex_cut (.cons (by simp_all [look, allB, RA.four]) (by repeat (first | exact Sub.nil _ | refine Sub.cons rfl ?_))) (by repeat (first | exact List.Sublist.refl _ | exact List.nil_sublist _ | refine List.Sublist.cons_cons _ ?_ | refine List.Sublist.cons _ ?_))
            · skip
              refine lst_on rfl rfl ?_
              refine lst_field_z rfl rfl F.fi24_3 F.ti3 ?_
              refine lst_on rfl rfl ?_
              refine lst_load rfl rfl F.one3 ?_
              refine lst_on rfl rfl ?_
              refine lst_fn0 (vs := [_, _, _]) rfl rfl F.ent82 (fun a w ha => among_c x.leaves 0 63 w) ?_
              refine lst_on rfl rfl ?_
              refine lst_not rfl rfl ?_
              refine lst_pick_false rfl rfl rfl ?_
              refine lst_nil ?_
              exact ex_cut (.cons (by simp_all [look, allB, RA.four]) (by repeat (first | exact Sub.nil _ | refine Sub.cons rfl ?_))) (by repeat (first | exact List.Sublist.refl _ | exact List.nil_sublist _ | refine List.Sublist.cons_cons _ ?_ | refine List.Sublist.cons _ ?_))
          · skip
            refine lst_on rfl rfl ?_
            refine lst_field_z rfl rfl F.fi24_2 F.ti3 ?_
            refine lst_on rfl rfl ?_
            refine lst_load rfl rfl F.one3 ?_
            refine lst_on rfl rfl ?_
            refine lst_fn0 (vs := [_, _, _]) rfl rfl F.ent82 (fun a w ha => among_c x.takes 0 63 w) ?_
            refine lst_on rfl rfl ?_
            refine lst_not rfl rfl ?_
            refine lst_pick_false rfl rfl rfl ?_
            refine lst_move rfl rfl ?_
            refine lst_split_bool (t := 34) rfl (fun hg34 => ?_) (fun hg34 => ?_)
            · skip
              refine lst_off rfl rfl rfl ?_
              refine lst_off rfl rfl rfl ?_
              refine lst_off rfl rfl rfl ?_
              refine lst_off rfl rfl rfl ?_
              refine lst_pick_true rfl rfl rfl ?_
              refine lst_nil ?_
              exact ex_cut (.cons (by simp_all [look, allB, RA.four]) (by repeat (first | exact Sub.nil _ | refine Sub.cons rfl ?_))) (by repeat (first | exact List.Sublist.refl _ | exact List.nil_sublist _ | refine List.Sublist.cons_cons _ ?_ | refine List.Sublist.cons _ ?_))
            · skip
              refine lst_on rfl rfl ?_
              refine lst_field_z rfl rfl F.fi24_3 F.ti3 ?_
              refine lst_on rfl rfl ?_
              refine lst_load rfl rfl F.one3 ?_
              refine lst_on rfl rfl ?_
              refine lst_fn0 (vs := [_, _, _]) rfl rfl F.ent82 (fun a w ha => among_c x.leaves 0 63 w) ?_
              refine lst_on rfl rfl ?_
              refine lst_not rfl rfl ?_
              refine lst_pick_false rfl rfl rfl ?_
              refine lst_nil ?_
              exact ex_cut (.cons (by simp_all [look, allB, RA.four]) (by repeat (first | exact Sub.nil _ | refine Sub.cons rfl ?_))) (by repeat (first | exact List.Sublist.refl _ | exact List.nil_sublist _ | refine List.Sublist.cons_cons _ ?_ | refine List.Sublist.cons _ ?_))
        · skip
          refine lst_on rfl rfl ?_
          refine lst_field_z rfl rfl F.fi24_1 F.ti3 ?_
          refine lst_on rfl rfl ?_
          refine lst_load rfl rfl F.one3 ?_
          refine lst_on rfl rfl ?_
          refine lst_fn0 (vs := [_, _, _]) rfl rfl F.ent82 (fun a w ha => among_c x.no 0 63 w) ?_
          refine lst_on rfl rfl ?_
          refine lst_not rfl rfl ?_
          refine lst_pick_false rfl rfl rfl ?_
          refine lst_move rfl rfl ?_
          refine lst_split_bool (t := 28) rfl (fun hg28 => ?_) (fun hg28 => ?_)
          · skip
            refine lst_off rfl rfl rfl ?_
            refine lst_off rfl rfl rfl ?_
            refine lst_off rfl rfl rfl ?_
            refine lst_off rfl rfl rfl ?_
            refine lst_pick_true rfl rfl rfl ?_
            refine lst_move rfl rfl ?_
            refine lst_split_bool (t := 34) rfl (fun hg34 => ?_) (fun hg34 => ?_)
            · skip
              refine lst_off rfl rfl rfl ?_
              refine lst_off rfl rfl rfl ?_
              refine lst_off rfl rfl rfl ?_
              refine lst_off rfl rfl rfl ?_
              refine lst_pick_true rfl rfl rfl ?_
              refine lst_nil ?_
              exact ex_cut (.cons (by simp_all [look, allB, RA.four]) (by repeat (first | exact Sub.nil _ | refine Sub.cons rfl ?_))) (by repeat (first | exact List.Sublist.refl _ | exact List.nil_sublist _ | refine List.Sublist.cons_cons _ ?_ | refine List.Sublist.cons _ ?_))
            · skip
              refine lst_on rfl rfl ?_
              refine lst_field_z rfl rfl F.fi24_3 F.ti3 ?_
              refine lst_on rfl rfl ?_
              refine lst_load rfl rfl F.one3 ?_
              refine lst_on rfl rfl ?_
              refine lst_fn0 (vs := [_, _, _]) rfl rfl F.ent82 (fun a w ha => among_c x.leaves 0 63 w) ?_
              refine lst_on rfl rfl ?_
              refine lst_not rfl rfl ?_
              refine lst_pick_false rfl rfl rfl ?_
              refine lst_nil ?_
              exact ex_cut (.cons (by simp_all [look, allB, RA.four]) (by repeat (first | exact Sub.nil _ | refine Sub.cons rfl ?_))) (by repeat (first | exact List.Sublist.refl _ | exact List.nil_sublist _ | refine List.Sublist.cons_cons _ ?_ | refine List.Sublist.cons _ ?_))
          · skip
            refine lst_on rfl rfl ?_
            refine lst_field_z rfl rfl F.fi24_2 F.ti3 ?_
            refine lst_on rfl rfl ?_
            refine lst_load rfl rfl F.one3 ?_
            refine lst_on rfl rfl ?_
            refine lst_fn0 (vs := [_, _, _]) rfl rfl F.ent82 (fun a w ha => among_c x.takes 0 63 w) ?_
            refine lst_on rfl rfl ?_
            refine lst_not rfl rfl ?_
            refine lst_pick_false rfl rfl rfl ?_
            refine lst_move rfl rfl ?_
            refine lst_split_bool (t := 34) rfl (fun hg34 => ?_) (fun hg34 => ?_)
            · skip
              refine lst_off rfl rfl rfl ?_
              refine lst_off rfl rfl rfl ?_
              refine lst_off rfl rfl rfl ?_
              refine lst_off rfl rfl rfl ?_
              refine lst_pick_true rfl rfl rfl ?_
              refine lst_nil ?_
              exact ex_cut (.cons (by simp_all [look, allB, RA.four]) (by repeat (first | exact Sub.nil _ | refine Sub.cons rfl ?_))) (by repeat (first | exact List.Sublist.refl _ | exact List.nil_sublist _ | refine List.Sublist.cons_cons _ ?_ | refine List.Sublist.cons _ ?_))
            · skip
              refine lst_on rfl rfl ?_
              refine lst_field_z rfl rfl F.fi24_3 F.ti3 ?_
              refine lst_on rfl rfl ?_
              refine lst_load rfl rfl F.one3 ?_
              refine lst_on rfl rfl ?_
              refine lst_fn0 (vs := [_, _, _]) rfl rfl F.ent82 (fun a w ha => among_c x.leaves 0 63 w) ?_
              refine lst_on rfl rfl ?_
              refine lst_not rfl rfl ?_
              refine lst_pick_false rfl rfl rfl ?_
              refine lst_nil ?_
              exact ex_cut (.cons (by simp_all [look, allB, RA.four]) (by repeat (first | exact Sub.nil _ | refine Sub.cons rfl ?_))) (by repeat (first | exact List.Sublist.refl _ | exact List.nil_sublist _ | refine List.Sublist.cons_cons _ ?_ | refine List.Sublist.cons _ ?_))
      refine lst_nil ?_
      refine ex_then ?_
      refine cod_cond_bool rfl (fun hc2 => ?_) (fun hc2 => ?_)
      · skip
        refine cod_seq ?_
        refine cod_region ?_
        refine lst_assign rfl rfl ?_
        refine lst_nil ?_
        refine ex_then ?_
        refine cod_ret ?_
        refine ex_then_ret ?_
        refine ex_block_ret ?_
        refine ex_then_ret ?_
        refine ex_then_ret ?_
        refine ex_block_ret ?_
        refine ex_then_ret ?_
        have hb1 : x.bad = 1 := if_pos (by simpa using hc2)
        refine ex_ret rfl (fun a w ha => res_one rfl rfl ha) (fun a w ha => ⟨by rw [hpos (by omega), hb1]; rfl, ha.grown (List.nil_sublist _)⟩)
      · skip
        have h4 : allB x.four = true := by simpa using hc2
        have h4' := h4
        simp only [allB, RA.four, List.all_cons, List.all_nil, Bool.and_true, Bool.and_eq_true, inB_true] at h4'
        obtain ⟨n1, hn1⟩ := Int.eq_ofNat_of_zero_le h4'.1.1
        obtain ⟨n2, hn2⟩ := Int.eq_ofNat_of_zero_le h4'.2.1.1
        have hn1' : n1 < 64 := by omega
        have hn2' : n2 < 64 := by omega
        have hbad : x.bad = if n1 &&& n2 ≠ 0 then 9 else if inB x.cost 1 9 = false then 1 else 0 := by
          unfold RA.bad
          rw [if_neg (by rw [h4]; simp), hn1, hn2, Int.toNat_natCast, Int.toNat_natCast]
        rw [hn1, hn2]
        refine cod_skip ?_
        refine ex_then ?_
        refine cod_seq ?_
        refine cod_seq ?_
        refine cod_region ?_
        refine lst_field_z rfl rfl F.fi24_0 F.ti3 ?_
        refine lst_load rfl rfl F.one3 ?_
        refine lst_field_z rfl rfl F.fi24_1 F.ti3 ?_
        refine lst_load rfl rfl F.one3 ?_
        refine lst_int rfl rfl rfl (fun w => bin_and w (i64_and n1 n2 (by omega) (by omega))) ?_
        refine lst_int rfl rfl rfl bin_neq ?_
        refine lst_nil ?_
        refine ex_then ?_
        refine cod_cond_dec rfl (fun hc3 => ?_) (fun hc3 => ?_)
        · skip
          refine cod_seq ?_
          refine cod_region ?_
          refine lst_assign rfl rfl ?_
          refine lst_nil ?_
          refine ex_then ?_
          refine cod_ret ?_
          refine ex_then_ret ?_
          refine ex_block_ret ?_
          refine ex_then_ret ?_
          refine ex_then_ret ?_
          refine ex_block_ret ?_
          refine ex_then_ret ?_
          have hb9 : x.bad = 9 := by rw [hbad, if_pos (by omega)]
          refine ex_ret rfl (fun a w ha => res_one rfl rfl ha) (fun a w ha => ⟨by rw [hpos (by omega), hb9]; rfl, ha.grown (List.nil_sublist _)⟩)
        · skip
          have h5 : ¬ (n1 &&& n2 ≠ 0) := by omega
          rw [if_neg h5] at hbad
          refine cod_skip ?_
          refine ex_then ?_
          refine cod_seq ?_
          refine cod_region ?_
          refine lst_field_z rfl rfl F.fi24_4 F.ti3 ?_
          refine lst_load rfl rfl F.one3 ?_
          refine lst_fn0 (vs := [_, _, _]) rfl rfl F.ent82 (fun a w ha => among_c x.cost 1 9 w) ?_
          refine lst_not rfl rfl ?_
          refine lst_nil ?_
          refine ex_then ?_
          refine cod_cond_bool rfl (fun hc4 => ?_) (fun hc4 => ?_)
          · skip
            refine cod_seq ?_
            refine cod_region ?_
            refine lst_assign rfl rfl ?_
            refine lst_nil ?_
            refine ex_then ?_
            refine cod_ret ?_
            refine ex_block_ret ?_
            refine ex_then_ret ?_
            refine ex_then_ret ?_
            refine ex_block_ret ?_
            refine ex_then_ret ?_
            have hb1 : x.bad = 1 := by rw [hbad, if_pos (by simpa using hc4)]
            refine ex_ret rfl (fun a w ha => res_one rfl rfl ha) (fun a w ha => ⟨by rw [hpos (by omega), hb1]; rfl, ha.grown (List.nil_sublist _)⟩)
          · skip
            have hb0 : x.bad = 0 := by rw [hbad, if_neg (by simpa using hc4)]
            have htake : l.take (k + 1) = l.take k ++ [x] := by rw [List.take_add_one, hx]; rfl
            refine cod_skip ?_
            refine ex_block_normal ?_
            refine ex_then ?_
            refine cod_region ?_
            refine lst_move rfl rfl ?_
            refine lst_int rfl rfl rfl (fun w => bin_add w (wrap_i64' _ (by omega) (by omega))) ?_
            refine lst_assign rfl rfl ?_
            refine lst_nil ?_
            refine ex_round (k + 1) ⟨by omega, by rw [htake]; intro y hy; rcases List.mem_append.1 hy with h | h; exact hk.2 y h; simp at h; subst h; exact hb0⟩ (by (try dsimp only); omega) (by repeat (first | exact Sub.nil _ | refine Sub.cons rfl ?_)) (by repeat (first | exact List.Sublist.refl _ | exact List.nil_sublist _ | refine List.Sublist.cons_cons _ ?_ | refine List.Sublist.cons _ ?_))
    · skip
      refine cod_exit ?_
      refine ex_then_exit ?_
      refine ex_then_exit ?_
      refine ex_block_exit ?_
      refine ex_then ?_
      refine cod_seq ?_
      refine cod_region ?_
      refine lst_assign rfl rfl ?_
      refine lst_nil ?_
      refine ex_then ?_
      refine cod_ret ?_
      have hz : checkR l = 0 := by
        have h := hk.2
        rw [List.take_of_length_le (by omega)] at h
        rw [hcr, ← List.append_nil l, firstBad_pre h]; rfl
      refine ex_ret rfl (fun a w ha => res_one rfl rfl ha) (fun a w ha => ⟨by rw [hz]; rfl, ha.grown (List.nil_sublist _)⟩)

theorem asked_c (A : Option Addr) (c : Nat) (l : List RA) (m p : Int) (w : World) (hA : RdL RA.cells 5 w A l) : Calls Tryd.prog 86 #[.slice A l.length c, .int .i64 m, .int .i64 p] w fun e w' => e = .returned (.int .i64 ((askedR l m p : Nat) : Int)) ∧ Grew w w' [] := by
  refine enter (N := 21) [(0, .slice A l.length c), (1, .int .i64 m), (2, .int .i64 p)] Tryd.func86 rfl Tryd.ntmps86 rfl rfl ?_
  refine cod_seq ?_
  refine cod_region ?_
  refine lst_assign rfl rfl ?_
  refine lst_nil ?_
  refine ex_then ?_
  refine cod_seq ?_
  refine cod_seq ?_
  refine cod_region ?_
  refine lst_move rfl rfl ?_
  refine lst_fn0 (vs := [_]) rfl rfl F.ent47 (fun a w ha => rcheck_c A c l w (hA.later ha.below)) ?_
  refine lst_assign rfl rfl ?_
  refine lst_nil ?_
  refine ex_then ?_
  refine cod_seq ?_
  refine cod_region ?_
  refine lst_move rfl rfl ?_
  refine lst_int rfl rfl rfl bin_neq ?_
  refine lst_nil ?_
  refine ex_then ?_
  refine cod_cond_dec rfl (fun hc0 => ?_) (fun hc0 => ?_)
  · skip
    have hc : ¬ checkR l = 0 := by omega
    refine cod_seq ?_
    refine cod_region ?_
    refine lst_move rfl rfl ?_
    refine lst_assign rfl rfl ?_
    refine lst_nil ?_
    refine ex_then ?_
    refine cod_ret ?_
    refine ex_then_ret ?_
    refine ex_ret rfl (fun a w ha => res_one rfl rfl ha) (fun a w ha => ⟨by rw [show askedR l m p = checkR l from if_pos hc], ha.grown (List.nil_sublist _)⟩)
  · skip
    have hc : ¬ ¬ checkR l = 0 := by omega
    refine cod_skip ?_
    refine ex_then ?_
    refine cod_seq ?_
    refine cod_seq ?_
    refine cod_region ?_
    refine lst_cut1 8 20 (.bool (!(inB m 0 63 && inB p 0 63))) ?_ ?_
    · skip
      refine lst_move rfl rfl ?_
      refine lst_fn0 (vs := [_, _, _]) rfl rfl F.ent82 (fun a w ha => among_c m 0 63 w) ?_
      refine lst_not rfl rfl ?_
      refine lst_move rfl rfl ?_
      refine lst_split_bool (t := 16) rfl (fun hg16 => ?_) (fun hg16 => ?_)
      · skip
        refine lst_off rfl rfl rfl ?_
        refine lst_off rfl rfl rfl ?_
        refine lst_off rfl rfl rfl ?_
        refine lst_pick_true rfl rfl rfl ?_
        refine lst_nil ?_
        exact ex_cut (.cons (by simp_all [look]) (by repeat (first | exact Sub.nil _ | refine Sub.cons rfl ?_))) (by repeat (first | exact List.Sublist.refl _ | exact List.nil_sublist _ | refine List.Sublist.cons_cons _ ?_ | refine List.Sublist.cons _ ?_))
      · skip
        refine lst_on rfl rfl ?_
        refine lst_move rfl rfl ?_
        refine lst_on rfl rfl ?_
        refine lst_fn0 (vs := [_, _, _]) rfl rfl F.ent82 (fun a w ha => among_c p 0 63 w) ?_
        refine lst_on rfl rfl ?_
        refine lst_not rfl rfl ?_
        refine lst_pick_false rfl rfl rfl ?_
        refine lst_nil ?_
        exact ex_cut (.cons (by simp_all [look]) (by repeat (first | exact Sub.nil _ | refine Sub.cons rfl ?_))) (by repeat (first | exact List.Sublist.refl _ | exact List.nil_sublist _ | refine List.Sublist.cons_cons _ ?_ | refine List.Sublist.cons _ ?_))
    refine lst_nil ?_
    refine ex_then ?_
    refine cod_cond_bool rfl (fun hc1 => ?_) (fun hc1 => ?_)
    · skip
      have he : askedR l m p = 1 := by unfold askedR; rw [if_neg hc, if_neg (by intro h; rw [h] at hc1; cases hc1)]
      refine cod_seq ?_
      refine cod_region ?_
      refine lst_assign rfl rfl ?_
      refine lst_nil ?_
      refine ex_then ?_
      refine cod_ret ?_
      refine ex_then_ret ?_
      refine ex_ret rfl (fun a w ha => res_one rfl rfl ha) (fun a w ha => ⟨by rw [he]; rfl, ha.grown (List.nil_sublist _)⟩)
    · skip
      have he : askedR l m p = 0 := by unfold askedR; rw [if_neg hc, if_pos (by cases h : (inB m 0 63 && inB p 0 63) with | true => rfl | false => rw [h] at hc1; cases hc1)]
      refine cod_skip ?_
      refine ex_then ?_
      refine cod_seq ?_
      refine cod_region ?_
      refine lst_assign rfl rfl ?_
      refine lst_nil ?_
      refine ex_then ?_
      refine cod_ret ?_
      refine ex_ret rfl (fun a w ha => res_one rfl rfl ha) (fun a w ha => ⟨by rw [he]; rfl, ha.grown (List.nil_sublist _)⟩)

theorem rmay_c (x : Ag) (f : Nat) (hx : x.ok) (hf : f < 64) (w : World) : Calls Tryd.prog 97 #[.agg [.int .i64 (x.needs : Int), .int .i64 (x.no : Int), .int .i64 (x.takes : Int), .int .i64 (x.leaves : Int), .int .i64 (x.cost : Int)].toArray, .int .i64 (f : Int)] w fun e w' => e = .returned (.bool (mayN x f)) ∧ Grew w w' [] := by
  have h1 := hx.needs; have h2 := hx.no; clear hx
  refine enter (N := 19) [(0, .agg [.int .i64 (x.needs : Int), .int .i64 (x.no : Int), .int .i64 (x.takes : Int), .int .i64 (x.leaves : Int), .int .i64 (x.cost : Int)].toArray), (1, .int .i64 (f : Int))] Tryd.func97 rfl Tryd.ntmps97 rfl rfl ?_
  refine cod_seq ?_
  refine cod_region ?_
  refine lst_box rfl rfl ?_
  intro b2
  refine lst_assign rfl rfl ?_
  refine lst_nil ?_
  refine ex_then ?_
  refine cod_seq ?_
  refine cod_region ?_
  refine lst_cut1 14 18 (.bool (mayN x f)) ?_ ?_
  · skip
    refine lst_move rfl rfl ?_
    refine lst_field_z rfl rfl F.fi24_0 F.ti3 ?_
    refine lst_load rfl rfl F.one3 ?_
    refine lst_int rfl rfl rfl (fun w => bin_and w (i64_and f x.needs (by omega) (by omega))) ?_
    refine lst_field_z rfl rfl F.fi24_0 F.ti3 ?_
    refine lst_load rfl rfl F.one3 ?_
    refine lst_int rfl rfl rfl bin_eql ?_
    refine lst_move rfl rfl ?_
    refine lst_split (t := 12) rfl (fun hg12 => ?_) (fun hg12 => ?_)
    · skip
      refine lst_on rfl rfl ?_
      refine lst_move rfl rfl ?_
      refine lst_on rfl rfl ?_
      refine lst_field_z rfl rfl F.fi24_1 F.ti3 ?_
      refine lst_on rfl rfl ?_
      refine lst_load rfl rfl F.one3 ?_
      refine lst_on rfl rfl ?_
      refine lst_int rfl rfl rfl (fun w => bin_and w (i64_and f x.no (by omega) (by omega))) ?_
      refine lst_on rfl rfl ?_
      refine lst_int rfl rfl rfl bin_eql ?_
      refine lst_pick_true rfl rfl rfl ?_
      refine lst_nil ?_
      exact ex_cut (.cons (by first | (rw [may_and]; simp [look, hg12]; omega) | (rw [may_and]; simp [look, hg12]) | (rw [may_and]; simp_all [look]; omega)) (by repeat (first | exact Sub.nil _ | refine Sub.cons rfl ?_))) (by repeat (first | exact List.Sublist.refl _ | exact List.nil_sublist _ | refine List.Sublist.cons_cons _ ?_ | refine List.Sublist.cons _ ?_))
    · skip
      refine lst_off rfl rfl rfl ?_
      refine lst_off rfl rfl rfl ?_
      refine lst_off rfl rfl rfl ?_
      refine lst_off rfl rfl rfl ?_
      refine lst_off rfl rfl rfl ?_
      refine lst_pick_false rfl rfl rfl ?_
      refine lst_nil ?_
      exact ex_cut (.cons (by first | (rw [may_and]; simp [look, hg12]; omega) | (rw [may_and]; simp [look, hg12]) | (rw [may_and]; simp_all [look]; omega)) (by repeat (first | exact Sub.nil _ | refine Sub.cons rfl ?_))) (by repeat (first | exact List.Sublist.refl _ | exact List.nil_sublist _ | refine List.Sublist.cons_cons _ ?_ | refine List.Sublist.cons _ ?_))
  refine lst_assign rfl rfl ?_
  refine lst_nil ?_
  refine ex_then ?_
  refine cod_ret ?_
  refine ex_ret rfl (fun a w ha => res_one rfl rfl ha) (fun a w ha => ⟨by rfl, ha.grown (List.nil_sublist _)⟩)

theorem rafter_c (x : Ag) (f : Nat) (hx : x.ok) (hf : f < 64) (w : World) : Calls Tryd.prog 94 #[.agg [.int .i64 (x.needs : Int), .int .i64 (x.no : Int), .int .i64 (x.takes : Int), .int .i64 (x.leaves : Int), .int .i64 (x.cost : Int)].toArray, .int .i64 (f : Int)] w fun e w' => e = .returned (.int .i64 ((putN x f : Nat) : Int)) ∧ Grew w w' [] := by
  have h1 := hx.takes; have h2 := hx.leaves; clear hx
  refine enter (N := 12) [(0, .agg [.int .i64 (x.needs : Int), .int .i64 (x.no : Int), .int .i64 (x.takes : Int), .int .i64 (x.leaves : Int), .int .i64 (x.cost : Int)].toArray), (1, .int .i64 (f : Int))] Tryd.func94 rfl Tryd.ntmps94 rfl rfl ?_
  refine cod_seq ?_
  refine cod_region ?_
  refine lst_box rfl rfl ?_
  intro b2
  refine lst_assign rfl rfl ?_
  refine lst_nil ?_
  refine ex_then ?_
  refine cod_seq ?_
  refine cod_region ?_
  refine lst_move rfl rfl ?_
  refine lst_field_z rfl rfl F.fi24_2 F.ti3 ?_
  refine lst_load rfl rfl F.one3 ?_
  refine lst_int rfl rfl rfl (fun w => bin_andNot w (i64_andNot f x.takes (by omega) (by omega))) ?_
  refine lst_field_z rfl rfl F.fi24_3 F.ti3 ?_
  refine lst_load rfl rfl F.one3 ?_
  have h3 : nn f x.takes < 64 := nn64 hf
  refine lst_int rfl rfl rfl (fun w => bin_or w (i64_or (nn f x.takes) x.leaves (by omega) (by omega))) ?_
  refine lst_assign rfl rfl ?_
  refine lst_nil ?_
  refine ex_then ?_
  refine cod_ret ?_
  refine ex_ret rfl (fun a w ha => res_one rfl rfl ha) (fun a w ha => ⟨by rfl, ha.grown (List.nil_sublist _)⟩)

theorem rMay_ok (A : Option Addr) (c : Nat) (ags : List Ag) (hok : Oks ags) (f : Nat) (hf : f < 64) (w : World) (hA : RdL Ag.cells 5 w A ags) : Calls Tryd.prog 44 #[.slice A ags.length c, .int .i64 (f : Int)] w fun e w' => ∃ A' c', e = .returned (.tuple #[.slice A' (canTo ags (usedAll ags.length) f ags.length).length c', .int .i64 0]) ∧ Grew w w' [.row 3 1 A' (canTo ags (usedAll ags.length) f ags.length).length c' (ints (canTo ags (usedAll ags.length) f ags.length))] := by
  refine enter (N := 32) [(0, .slice A ags.length c), (1, .int .i64 (f : Int))] Tryd.func44 rfl Tryd.ntmps44 rfl rfl ?_
  refine cod_seq ?_
  refine cod_region ?_
  refine lst_assign rfl rfl ?_
  refine lst_assign rfl rfl ?_
  refine lst_nil ?_
  refine ex_then ?_
  refine cod_seq ?_
  refine cod_seq ?_
  refine cod_region ?_
  refine lst_move rfl rfl ?_
  refine lst_move rfl rfl ?_
  refine lst_fn0 (v := .int .i64 0) (vs := [_, _, _]) rfl rfl F.ent86 (fun a w ha => by
    have h := asked_c A c (ags.map Ag.raw) (f : Int) 0 w (hA.raw.later ha.below)
    rw [List.length_map, askedR_ok hok hf (by omega)] at h
    exact h) ?_
  refine lst_assign rfl rfl ?_
  refine lst_nil ?_
  refine ex_then ?_
  refine cod_seq ?_
  refine cod_region ?_
  refine lst_move rfl rfl ?_
  refine lst_int rfl rfl rfl bin_neq ?_
  refine lst_nil ?_
  refine ex_then ?_
  refine cod_cond_false rfl ?_
  refine cod_skip ?_
  refine ex_then ?_
  refine cod_seq ?_
  refine cod_region ?_
  refine lst_assign rfl rfl ?_
  refine lst_nil ?_
  refine ex_then ?_
  refine cod_seq ?_
  refine cod_seq ?_
  refine cod_region ?_
  refine lst_assign rfl rfl ?_
  refine lst_nil ?_
  refine ex_then ?_
  refine cod_block ?_
  refine cod_nil 3 1 ?_
  refine cod_loop (G := Nat × Option Addr × Nat) (fun g => g.1 ≤ ags.length) (fun g => ags.length - g.1) (fun g => [(0, .slice A ags.length c), (1, .int .i64 (f : Int)), (7, .slice g.2.1 (canTo ags (usedAll ags.length) f g.1).length g.2.2), (8, .int .i64 (g.1 : Int))]) (fun g => [.row 3 1 g.2.1 (canTo ags (usedAll ags.length) f g.1).length g.2.2 (ints (canTo ags (usedAll ags.length) f g.1))]) (0, none, 0) (Nat.zero_le _) (by repeat (first | exact Sub.nil _ | refine Sub.cons rfl ?_)) (by repeat (first | exact List.Sublist.refl _ | exact List.nil_sublist _ | refine List.Sublist.cons_cons _ ?_ | refine List.Sublist.cons _ ?_)) ?_
  rintro ⟨k, A1, c1⟩ hk
  (try dsimp only at hk ⊢)
  refine cod_seq ?_
  refine cod_seq ?_
  refine cod_region ?_
  refine lst_move rfl rfl ?_
  refine lst_move rfl rfl ?_
  refine lst_len rfl rfl Tryd.underlying22 ?_
  refine lst_int rfl rfl rfl bin_lss ?_
  refine lst_nil ?_
  refine ex_then ?_
  refine cod_cond_dec rfl (fun hc1 => ?_) (fun hc1 => ?_)
  · skip
    have hk' : k < ags.length := by omega
    obtain ⟨b, o, rfl, hb, hcell⟩ := hA (by omega)
    obtain ⟨x, hx⟩ : ∃ x, ags[k]? = some x := ⟨_, List.getElem?_eq_getElem hk'⟩
    have hxo : x.ok := hok.2 x (List.mem_of_getElem? hx)
    have hxd : ags.getD k default = x := by rw [List.getD_eq_getElem?_getD, hx]; rfl
    have hcl := canTo_len ags (usedAll ags.length) f k
    have h4 := hok.1
    refine cod_skip ?_
    refine ex_then ?_
    refine cod_seq ?_
    refine cod_block ?_
    refine cod_seq ?_
    refine cod_region ?_
    refine lst_move rfl rfl ?_
    refine lst_move rfl rfl ?_
    refine lst_index (j := k) rfl rfl rfl Tryd.underlying22 F.ti24 rfl hk' ?_
    refine lst_loadN_at (l := [.int .i64 (x.needs : Int), .int .i64 (x.no : Int), .int .i64 (x.takes : Int), .int .i64 (x.leaves : Int), .int .i64 (x.cost : Int)]) rfl rfl F.agg24 F.ti24 rfl (fun a w ha j u hu => ha.old (hcell k x hx j u hu) hb) ?_
    refine lst_move rfl rfl ?_
    refine lst_fn0 (vs := [_, _]) rfl rfl F.ent97 (fun a w ha => rmay_c x f hxo hf w) ?_
    refine lst_nil ?_
    refine ex_then ?_
    refine cod_cond_bool rfl (fun hc2 => ?_) (fun hc2 => ?_)
    · skip
      refine cod_region ?_
      refine lst_move rfl rfl ?_
      refine lst_move rfl rfl ?_
      refine lst_lit (vs := [(0, _)]) rfl rfl Tryd.underlying25 F.ti3 rfl rfl rfl ?_
      intro b29
      refine lst_append rfl rfl rfl Tryd.underlying25 F.ti3 rfl rfl rfl (by unfold maxLen; omega) (by omega) ?_
      intro A2 c2
      refine lst_assign rfl rfl ?_
      refine lst_nil ?_
      refine ex_block_normal ?_
      refine ex_then ?_
      refine cod_region ?_
      refine lst_move rfl rfl ?_
      refine lst_int rfl rfl rfl (fun w => bin_add w (wrap_i64' _ (by omega) (by omega))) ?_
      refine lst_assign rfl rfl ?_
      refine lst_nil ?_
      have e := canTo_succ ags (usedAll ags.length) f k
      rw [hxd, hc2, usedAll_bit, decide_eq_true hk', Bool.true_and, if_pos rfl] at e
      refine ex_round (k + 1, A2, c2) (by (try dsimp only); omega) (by (try dsimp only); omega) (by (try dsimp only); (try rw [e]); simp only [List.length_append, List.length_singleton]; repeat (first | exact Sub.nil _ | refine Sub.cons rfl ?_)) (by (try dsimp only); (try rw [e]); simp only [ints_snoc, List.length_append, List.length_singleton]; repeat (first | exact List.Sublist.refl _ | exact List.nil_sublist _ | refine List.Sublist.cons_cons _ ?_ | refine List.Sublist.cons _ ?_))
    · skip
      refine cod_skip ?_
      refine ex_block_normal ?_
      refine ex_then ?_
      refine cod_region ?_
      refine lst_move rfl rfl ?_
      refine lst_int rfl rfl rfl (fun w => bin_add w (wrap_i64' _ (by omega) (by omega))) ?_
      refine lst_assign rfl rfl ?_
      refine lst_nil ?_
      have e := canTo_succ ags (usedAll ags.length) f k
      rw [hxd, hc2, Bool.and_false, if_neg (by simp), List.append_nil] at e
      refine ex_round (k + 1, A1, c1) (by (try dsimp only); omega) (by (try dsimp only); omega) (by (try dsimp only); (try rw [e]); repeat (first | exact Sub.nil _ | refine Sub.cons rfl ?_)) (by (try dsimp only); (try rw [e]); repeat (first | exact List.Sublist.refl _ | exact List.nil_sublist _ | refine List.Sublist.cons_cons _ ?_ | refine List.Sublist.cons _ ?_))
  · skip
    refine cod_exit ?_
    refine ex_then_exit ?_
    refine ex_then_exit ?_
    refine ex_block_exit ?_
    refine ex_then ?_
    refine cod_seq ?_
    refine cod_region ?_
    refine lst_move rfl rfl ?_
    refine lst_assign rfl rfl ?_
    refine lst_assign rfl rfl ?_
    refine lst_nil ?_
    refine ex_then ?_
    refine cod_ret ?_
    obtain rfl : k = ags.length := by omega
    exact ex_ret rfl (fun a w ha => res_two rfl rfl rfl ha) (fun a w ha => ⟨A1, c1, rfl, ha.grown (by repeat (first | exact List.Sublist.refl _ | exact List.nil_sublist _ | refine List.Sublist.cons_cons _ ?_ | refine List.Sublist.cons _ ?_))⟩)

end Go.Proofs.YtofkhehcnfiopaaDoor.N
