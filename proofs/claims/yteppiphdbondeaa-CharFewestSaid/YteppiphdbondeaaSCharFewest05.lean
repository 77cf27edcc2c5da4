/- Parts of the walk of the law CharFewest: Sx3, Sq, Bits, Mod, V12, Rng, Sx4, Sx5, ChP, T1, ChP2, T2, T3, SxI, ChI, ChP3, T4, ChT, T5, RngO, SxJ, T6, T7, RngP, ChW. -/
import Derived.Test.YteppiphdbondeaaSCharFewest04
import Derived.Test.YteppiphdbondeaaSCharFewest01
import Derived.Test.YteppiphdbondeaaSCharFewest00
import Derived.RangeFuncRecord
import Derived.DeepKeys3
import Derived.Test.YteppiphdbondeaaProg
import Derived.Test.YteppiphdbondeaaSCharFewest03
import Derived.ArgAppend
namespace Go.Proofs.Yteppiphdbondeaa.N
open Go Go.RowKit Go.Proofs
set_option linter.unusedSectionVars false
variable [I : Sys]

variable {dst : Option Tmp} {l l' z : List Value} {m n : Nat} {parts : Array (Nat × Operand)} {pl : List (Nat × Nat)} {t : TypeId} {vs : List (Nat × Value)}
def Places (P : Program) (t : TypeId) (pl : List (Nat × Nat)) : Prop :=
 (∃ fs, P.underlying t = some (.struct fs) ∧ fs.toList.mapM (fun f => (P.info? f.type).map fun i => (f.offset, i.size)) = some pl) ∨
 (∃ n e s, P.underlying t = some (.array n e) ∧ (P.info? e).map (·.size) = some s ∧ pl = (List.range n).map (fun j => (j * s, s)))
inductive Filled (pl : List (Nat × Nat)) : List Value -> List (Nat × Value) -> List Value -> Prop
 | nil (z : List Value) : Filled pl z [] z
 | cons {i off : Nat} {v : Value} {z lv l : List Value} {ps : List (Nat × Value)} [h : Cells v lv] (hp : pl[i]? = some (off, lv.length)) (hb : Nat.ble (off + lv.length) z.length = true)
   (h' : Filled pl (z.take off ++ lv ++ z.drop (off + lv.length)) ps l) : Filled pl z ((i, v) :: ps) l
theorem zHk {place : Nat -> Option (Nat × Nat)} (hpl : ∀ i q, pl[i]? = some q -> place i = some q) {z l : List Value} {ps : List (Nat × Value)} (h : Filled pl z ps l) : Instr.fill place z.toArray ps = some l.toArray := by
 induction h with
 | nil z => rfl
 | @cons i off v z lv l ps hc hp hb _ ih =>
  have hb' : off + lv.length <= z.length := by simpa [Nat.ble_eq] using hb
  unfold Instr.fill
  rw [hpl _ _ hp]
  simp only [hc.eq]
  rw [if_neg (by simp; omega)]
  have hfold := zKt lv z.toArray off 0 (by simp; omega)
  simp only [Nat.add_zero] at hfold
  have hz : lv.toArray.zipIdx.foldl (fun cs (q : Value × Nat) => cs.setIfInBounds (off + q.2) q.1) z.toArray = (z.take off ++ lv ++ z.drop (off + lv.length)).toArray := by
   apply Array.ext'
   rw [<- Array.foldl_toList]
   simpa using hfold
  rw [show (fun (cs : Array Value) (x : Value × Nat) => match x with | (c, j) => cs.setIfInBounds (off + j) c) = (fun (cs : Array Value) (q : Value × Nat) => cs.setIfInBounds (off + q.2) q.1) from rfl, hz]
  exact ih
theorem zKw {P : Program} {ps : List (Nat × Value)} (hi : TI P t (.agg z.toArray) n m) (hpl : Places P t pl) (h : Filled pl z ps l) (w : World) :
  (Instr.build t ps.toArray).run P w = .ok (.agg l.toArray) w := by
 obtain ⟨i, hi, hz, _⟩ := hi
 refine run_build w t _ _ ?_
 unfold Program.built
 rcases hpl with ⟨fs, hu, hfs⟩ | ⟨k, e, s, hu, hs, rfl⟩
 ·have hf := zHk (place := fun i => pl.toArray[i]?) (fun i q hq => by simpa using hq) h
  simp only [hi, hu, hz, hfs]
  exact hf
 ·obtain ⟨j, hj, hjs⟩ := Option.map_eq_some_iff.1 hs
  have hf := zHk (place := fun i => some (i * s, s)) (fun i q hq => by
   rw [List.getElem?_map] at hq
   obtain ⟨a, ha, hq⟩ := Option.map_eq_some_iff.1 hq
   have hai : a = i := by
    rcases Nat.lt_or_ge i k with h1 | h1
    ·rw [List.getElem?_range h1] at ha; exact (Option.some.inj ha).symm
    ·rw [List.getElem?_eq_none (by simpa using h1)] at ha; cases ha
   rw [<- hq, hai]) h
  simp only [hi, hu, hz, hj, hjs]
  exact hf
section
variable {C : Ctx} {fr : List (Nat × Value)} {hp hp' : List Res} {a : Act} {w : World} {ops : Array Oper} {Q : Exit -> Act -> World -> Prop} {rest : List Oper}
 {d : Nat} {ty : TypeId} {pos : String} {after : Array Edge}
theorem kG (hd : Nat.blt d C.N = true)
  (hx : parts.toList.map (fun q => (q.1, ev fr q.2)) = vs.map (fun q => (q.1, some q.2))) (hi : TI C.P t (.agg z.toArray) n m) (hpl : Places C.P t pl) (h : Filled pl z vs l) (hl : l = l')
  (k : Lst C ops Q rest ((d, .agg l'.toArray) :: fr) hp) : Lst C ops Q (⟨some d, .build t parts, ty, pos, after, none⟩ :: rest) fr hp := by
 subst hl
 exact zRm hd hx (zKw hi hpl h) k
theorem xV 
  (hx : parts.toList.map (fun q => (q.1, ev fr q.2)) = vs.map (fun q => (q.1, some q.2))) (hi : TI C.P t (.agg z.toArray) n m) (hpl : Places C.P t pl) (h : Filled pl z vs l) (hl : l = l') :
  Yld C ⟨dst, .build t parts, ty, pos, after, none⟩ fr hp (.agg l'.toArray) := by
 subst hl
 refine ⟨rfl, fun a w ha => ⟨zIr .., ?_⟩⟩
 have h' : parts.map (fun (i, x) => (i, a.eval x)) = vs.toArray := by
  have : ∀ (l : List (Nat × Operand)) (vs : List (Nat × Value)), l.map (fun q => (q.1, ev fr q.2)) = vs.map (fun q => (q.1, some q.2)) -> l.map (fun (q : Nat × Operand) => (q.1, a.eval q.2)) = vs := by
   intro l
   induction l with
   | nil => intro vs h; cases vs with
    | nil => rfl
    | cons => simp at h
   | cons x l ih =>
    intro vs h
    cases vs with
    | nil => simp at h
    | cons v vs =>
     simp only [List.map_cons, List.cons.injEq, Prod.mk.injEq] at h
     rw [List.map_cons, ha.eval h.1.2, ih vs h.2, h.1.1]
  obtain ⟨l⟩ := parts
  simp only [List.map_toArray]
  rw [show (fun (x : Nat × Operand) => match x with | (i, x) => (i, a.eval x)) = (fun (q : Nat × Operand) => (q.1, a.eval q.2)) from rfl, this l vs hx]
 simp only [execOp, h', Sem.run_bind, zKw hi hpl h, Result.andThen_ok, Sem.run_pure]
theorem zO6 {op : BinOp} {x y : Operand} {t' : TypeId} {u u' : Value} {v : Value} [htb : TB u u'] (hx : ev fr x = some u) (hy : ev fr y = some u')
  (hr : ∀ w : World, (do eqGuard op t x y u u'; binOp op t u u' : Sem Value).run C.P w = .ok v w) : Yld C ⟨dst, .binOp op t x y t', ty, pos, after, none⟩ fr hp v := by
 refine ⟨rfl, fun a w ha => ⟨kJ _ (by rw [ha.eval hx, ha.eval hy]; exact htb.tame ..), ?_⟩⟩
 have := hr w
 simp only [execOp, ha.eval hx, ha.eval hy, Sem.run_bind] at this ⊢
 rw [this]; rfl
theorem zGf (ha : At C fr hp a w) {j t : Nat} (hj : (ops[j]?).bind (·.dst) = some t) (hv : look fr t = some undef) : yielded ops a.tmps j = none := by
 have h := ha.slots t _ hv
 unfold yielded
 rw [hj]
 simp only [Option.bind_some]
 cases hx : a.tmps[t]? with
 | none => rfl
 | some u =>
  rw [Array.getD_eq_getD_getElem?, hx] at h
  have hu : u = undef := h
  rw [hu]; rfl
theorem kQ {op : Op} {j t d : Nat} {b : Bool} (hd : Nat.blt d C.N = true) (hj : (ops[j]?).bind (·.dst) = some t) (hv : look fr t = some undef)
  (k : Lst C ops Q rest ((d, undef) :: fr) hp) : Lst C ops Q (⟨some d, op, ty, pos, after, some (j, b)⟩ :: rest) fr hp := by
 intro a w ha
 simp only [wpList]
 have e : Region.wanted ⟨some d, op, ty, pos, after, some (j, b)⟩ (yielded ops a.tmps) = false := by
  simp [Region.wanted, zGf ha hj hv]
 rw [if_neg (by rw [e]; simp)]
 exact k _ _ (ha.put (kC hd) _)
inductive Dk
 | b (n : Nat)
 | q (A : Option Addr)
 | r (A : Option Addr)
class Drp (bs : List Dk) (hp : List Res) (hp' : outParam (List Res)) : Prop where
 sub : hp'.Sublist hp
instance Drp.nil (hp : List Res) : Drp [] hp hp := ⟨List.Sublist.refl _⟩
class Drp1 (b : Dk) (hp : List Res) (hp' : outParam (List Res)) : Prop where
 sub : hp'.Sublist hp
instance Drp1.tail (b : Dk) (x : Res) (l l' : List Res) [h : Drp1 b l l'] : Drp1 b (x :: l) (x :: l') := ⟨h.sub.cons_cons x⟩
instance Drp1.b (b : Nat) (o : Obj) (l : List Res) : Drp1 (.b b) (.blk b o :: l) l := ⟨List.Sublist.cons _ (List.Sublist.refl _)⟩
instance Drp1.r (A : Option Addr) (e size n c : Nat) (xs : List Value) (l : List Res) : Drp1 (.r A) (.row e size A n c xs :: l) l := ⟨List.Sublist.cons _ (List.Sublist.refl _)⟩
instance Drp.cons (b : Dk) (bs : List Dk) (l l' l'' : List Res) [h : Drp1 b l l'] [h' : Drp bs l' l''] : Drp (b :: bs) l l'' := ⟨h'.sub.trans h.sub⟩
theorem kD {id : Nat} {l : List Oper} {hpS : List Res} (bs : List Dk) (hm : C.P.follows .mixedOrders = true) (n : Nat) (hn : l.length = n) (lst : List Bool) (hl : Array.replicate n false = lst.toArray) [hs : Drp bs hp hpS] (h : Any C l.toArray Q hpS n lst.toArray fr hp) :
  Cod C (.region id l.toArray true) Q fr hp := zKo hm n hn lst hl hs.sub h
theorem zH0 {fn : Func} {R : Ending -> World -> Prop} {ch : List PanicEntry} (hds : C.ds = []) (k : ∀ a w, At C fr hp a w -> R (.panicked ch) w) : Ex C (bodyPost C.P fn R) (.panic ch) fr hp :=
 fun a w ha => ⟨ha.defs.trans hds, k a w ha⟩
end
end Go.Proofs.Yteppiphdbondeaa.N
namespace Go.Proofs.Yteppiphdbondeaa.N
open Go Go.RowKit Go.Proofs
set_option linter.unusedSectionVars false
variable {l m : List Res} {o : Oper} {p : Prop}
theorem sbl (h : l.Sublist m := by repeat (first | exact List.Sublist.refl _ | exact List.nil_sublist _ | refine List.Sublist.cons_cons _ ?_ | refine List.Sublist.cons _ ?_)) : l.Sublist m := h
theorem sbn {l m : List (Nat × Value)} (h : Sub l m := by repeat (first | exact Sub.nil _ | refine Sub.cons rfl ?_)) : Sub l m := h
theorem pkk (h : Pck l m := by repeat (first | exact Pck.nil _ | exact Pck.refl _ | (apply Pck.cons; focus ((repeat (first | exact Rem.here _ | apply Rem.there)); done)) | refine Pck.skip _ ?_)) : Pck l m := h
theorem zG [I : Sys] {C : Ctx} {fr : List (Nat × Value)} {hp hpS : List Res} {ops : Array Oper} {Q : Exit -> Act -> World -> Prop} {d fuel : Nat} {listed : Array Bool} {v : Value} (i : Nat) (hi : ops[i]? = some o) (hdst : o.dst = some d) (hd : Nat.blt d C.N = true)
  (y : Yld C o fr hpS v) (k : Any C ops Q hpS fuel (listed.setIfInBounds i true) ((d, v) :: fr) hp) (hns : Region.noSelect ops = true := by kernel_rfl) (hf : Region.free .any ops listed i = true := by kernel_rfl) (hr : (Region.ready .any ops listed).contains i = true := by kernel_rfl)
  (hs : hpS.Sublist hp := by repeat (first | exact List.Sublist.refl _ | exact List.nil_sublist _ | refine List.Sublist.cons_cons _ ?_ | refine List.Sublist.cons _ ?_)) : Any C ops Q hpS (fuel + 1) listed fr hp :=
 zUw i hi hdst hd hns hf hr hs y rfl k
theorem om (h : p := by omega) : p := h
theorem kr (h : p := by kernel_rfl) : p := h
theorem tdo (h : p := by (try dsimp only); omega) : p := h
theorem nsl {α : Type} {l : List α} : [].Sublist l := List.nil_sublist l
section
variable [I : Sys] {C : Ctx} {fr : List (Nat × Value)} {hp hpS : List Res} {ops : Array Oper} {Q : Exit -> Act -> World -> Prop} {fuel : Nat} {listed : Array Bool}
theorem anx (h : Any C ops Q [] fuel listed fr hp) : Ex C (Exit.then (Nxt C ops Q [] fuel listed) (Lax (OnlyN Q))) .normal fr hp := zL1 nsl h
theorem anb (h : Any C ops Q hpS fuel listed fr hp) (hs : hpS.Sublist hp := by repeat (first | exact List.Sublist.refl _ | exact List.nil_sublist _ | refine List.Sublist.cons_cons _ ?_ | refine List.Sublist.cons _ ?_)) : Ex C (Exit.then (Nxt C ops Q hpS fuel listed) (Lax (OnlyN Q))) .normal fr hp := zL1 hs h
theorem adn (h : Ex C Q .normal fr hp) (h0 : Region.ready .any ops listed = [] := by kernel_rfl) : Any C ops Q hpS fuel listed fr hp := zU8 rfl h0 h
theorem an1 (i : Nat) (hi : ops[i]? = some o) (h : Lst C ops (Exit.then (Nxt C ops Q hpS fuel (listed.setIfInBounds i true)) (Lax (OnlyN Q))) [o] fr hp) (hr : Region.ready .any ops listed = [i] := by kernel_rfl) : Any C ops Q hpS (fuel + 1) listed fr hp := zXf i hr hi rfl h
end
abbrev V4 (a b c d : Nat) : List Value := [.int .i64 (a : Int), .int .i64 (b : Int), .int .i64 (c : Int), .int .u8 (d : Int)]
abbrev CA (fA : Option Addr) (n fc kiln : Nat) (dA : Option Addr) (m dc : Nat) : List Value := [.slice fA n fc, .int .i64 (kiln : Int), .slice dA m dc]
end Go.Proofs.Yteppiphdbondeaa.N
namespace Go.Proofs.Yteppiphdbondeaa.N
open Go
set_option linter.unusedSectionVars false
variable [I : Sys]
theorem zHq (n : Nat) (h : n < 18446744073709551616) : IntKind.u64.wrap (n : Int) = n := by
 simp [IntKind.wrap, IntKind.bits, IntKind.signed]
 omega
theorem zT (n : Int) (h : -9223372036854775808 <= n) (h' : n < 9223372036854775808) : IntKind.i64.wrap n = n := by
 rw [IntKind.wrap_i64]
 omega
theorem zKy (a : Nat) (h : a < 18446744073709551616) : (BitVec.ofInt IntKind.u64.bits (a : Int)).toNat = a := by
 rw [BitVec.ofInt_natCast, BitVec.toNat_ofNat]; exact Nat.mod_eq_of_lt h
theorem zCo (a b : Nat) (ha : a < 18446744073709551616) (hb : b < 18446744073709551616) : IntKind.u64.wrap ((BitVec.ofInt IntKind.u64.bits (a : Int) ^^^ BitVec.ofInt IntKind.u64.bits (b : Int)).toNat : Int) = ((a ^^^ b : Nat) : Int) := by
 rw [BitVec.toNat_xor, zKy a ha, zKy b hb]
 exact zHq _ (show _ < 2 ^ 64 from Nat.xor_lt_two_pow ha hb)
theorem zCv (a n k : Nat) : (a : Int).fdiv (2 ^ (min ((n : Int)).toNat k)) = ((a >>> (min n k) : Nat) : Int) := by
 rw [Int.toNat_natCast, Nat.shiftRight_eq_div_pow, Int.natCast_ediv, Int.fdiv_eq_ediv_of_nonneg]
 ·simp
 ·exact Int.pow_nonneg (by decide)
def ints (l : List Nat) : List Value := l.map fun (n : Nat) => Value.int .i64 (n : Int)
theorem zDa (l : List Nat) (n : Nat) : ints (l ++ [n]) = ints l ++ [.int .i64 (n : Int)] := by simp [ints]
theorem zEv (l : List Nat) : (ints l).length = l.length := by simp [ints]
def icell (n : Int) : List Value := [.int .i64 n]
end Go.Proofs.Yteppiphdbondeaa.N
namespace Go.Proofs.Yteppiphdbondeaa.N
open Go Go.RowKit Go.Conc
set_option linter.unusedSectionVars false
variable {a : Act} {assign body : Code} {b : Frame} {cs : List Frame} {f : FuncId} {g : Operand} {k : List Item} {l : Nat} {main : Bool} {ps : Array Tmp} {v v' : World}
def roundPost (P : Program) (l : Nat) (R : Ending -> World -> Prop) : Exit -> Act -> World -> Prop
 | .normal, _, v => ∀ v₁, Rl v v₁ -> ∃ x v', (Instr.endRound l none).run P v₁ = .ok x v' ∧ R (.returned x) v'
 | .ret, _, v => ∀ v₁, Rl v v₁ -> ∃ x v', (Instr.endRound l (some .ret)).run P v₁ = .ok x v' ∧ R (.returned x) v'
 | .exit id, _, v => ∀ v₁, Rl v v₁ -> ∃ x v', (Instr.endRound l (some (.exit id))).run P v₁ = .ok x v' ∧ R (.returned x) v'
 | _, _, _ => False
section
variable {P : Program} [I : Sys]
omit I in
theorem zC3 (l : Nat) : Tame P (Instr.beginRound l) := Tame.bind (zAo l) fun r => Tame.bind ⟨trivial, trivial⟩ fun _ => by
 split <;> first | trivial | exact jT _
omit I in
theorem zGh (l : Nat) : Tame P (Instr.endLoop l) := Tame.bind (zAo l) fun r => by
 show Tame P (if r.state == .busy then _ else _)
 split
 ·exact Tame.bind (jT _) fun _ => Tame.bind ⟨trivial, trivial⟩ fun _ => trivial
 ·exact Tame.bind ⟨trivial, trivial⟩ fun _ => trivial
theorem Stp.begin (hb : b.roundOf = some l) (hk : b.kind ≠ .early) (hr : (Instr.beginRound l).run P v = .ok () v') :
  ∃ es, Stp P main (G (b.atR a (.beginRound :: k)) cs) v (G (b.atR a k) cs) v' es := by
 have hk' : (b.kind == CallKind.early) = false := by simpa using hk
 have ht : Tame P (do Instr.beginRound l; pure .skip : Sem Next) := Tame.bind (zC3 l) fun _ => trivial
 have hr' : (do Instr.beginRound l; pure .skip : Sem Next).run P v = .ok .skip v' := by simp [hr]
 refine ⟨seen P b.fn ((do Instr.beginRound l; pure .skip : Sem Next).events P v #[]), ⟨fun F S w hw => ?_, fun _ _ w hw => ?_⟩⟩
 ·obtain ⟨w', h1, h2, h3, h4, h5⟩ := ht.ok hr' hw
  refine ⟨w', ?_, h3, h4, vL h5⟩
  rw [<- h2]
  obtain ⟨w2, k1, _⟩ := (zC3 l).ok hr hw
  obtain rfl : w2 = w' := by
   have e : (do Instr.beginRound l; pure .skip : Sem Next).run P w = .ok .skip w2 := by simp [k1]
   rw [h1] at e
   cases e; rfl
  simp [G, stepG, stepG.exec, Frame.atR, hb, stepG.apply, k1, hk', GStep.after, Frame.finish]
 ·obtain ⟨w', h1, _, _, h4, _⟩ := ht.ok hr' hw.self
  rw [hr'] at h1
  cases h1
  exact h4.output
theorem zLx {tmps : Array Value} {R : Ending -> World -> Prop} (hfa : fits assign = true) (hfb : fits body = true)
  (h : wp P assign (Exit.then (fun a v => ∀ v₁, Rl v v₁ -> ∃ v', (Instr.beginRound l).run P v₁ = .ok () v' ∧ wp P body (roundPost P l R) a v') (fun _ _ _ => False)) ⟨tmps, []⟩ v) : Rounds P l f tmps assign body v R := by
 intro cs
 let b : Frame := { (default : Frame) with fn := f, kind := .normal, roundOf := some l }
 have hb : b.kind ≠ .early := by simp [b]
 have he : Frame.round l f tmps assign body .normal = b.atR ⟨tmps, []⟩ [.code assign, .beginRound, .code body] := by simp [Frame.round, Frame.atR, b]
 rw [he]
 refine (h b [.beginRound, .code body] cs ⟨hb, .inr hfa⟩).bind ?_
 rintro g w' ⟨e, a', v0, hq, hr, harr⟩
 cases e with
 | normal =>
  obtain rfl := harr
  refine Gs.step' rfl fun v₁ h1 => ?_
  obtain ⟨v', h2, h3⟩ := hq v₁ (hr.trans h1)
  obtain ⟨es, h4⟩ := Stp.begin (main := I.main) (b := b) (a := a') (k := [.code body]) (cs := cs) rfl hb h2
  refine ⟨_, _, _, h4, (h3 b [] cs ⟨hb, .inr hfb⟩).bind ?_⟩
  rintro g w'' ⟨e, a2, v2, hq, hr, harr⟩
  cases e with
  | normal => obtain rfl := harr; exact .stop fun v3 h3 => ⟨_, rfl, b, a2, [], none, rfl, rfl, rfl, .inl ⟨rfl, rfl⟩, fun v4 h4 => hq v4 ((hr.trans h3).trans h4)⟩
  | ret => obtain ⟨todo, rfl⟩ := harr; exact .stop fun v3 h3 => ⟨_, rfl, b, a2, _, some .ret, rfl, rfl, rfl, .inr (.inl ⟨todo, rfl, rfl⟩), fun v4 h4 => hq v4 ((hr.trans h3).trans h4)⟩
  | exit id => obtain ⟨k₁, hk, rfl⟩ := harr; exact .stop fun v3 h3 => ⟨_, rfl, b, a2, _, some (.exit id), rfl, rfl, rfl, .inr (.inr ⟨id, k₁, rfl, by rw [hk]; rfl, rfl⟩), fun v4 h4 => hq v4 ((hr.trans h3).trans h4)⟩
  | _ => exact hq.elim
 | _ => exact hq.elim
def rangeSem (a : Act) (g : Operand) (l : Nat) : Sem Next := do
 let d <- resolve a.eval { callee := .value g, args := #[.const (.func (.yield l) #[] #[])], argTypes := #[] } 0
 invoke d.target d.args
omit I in
theorem zJh (fn : FuncId) (tmps : Array Value) (ps : Array Tmp) (assign body : Code) : Tame P (Instr.enterLoop fn tmps ps assign body none) := by
 exact And.intro trivial fun _ => And.intro trivial fun _ => trivial
theorem Stp.ranges {args : Array Value} (hb : b.roundOf = none) (hk : b.kind ≠ .early)
  (ht : Tame P (rangeSem a g (v.heap.size + 1))) (hr : ∀ w, (rangeSem a g (v.heap.size + 1)).run P w = .ok (.enter f args) w) :
  ∃ es, Stp P main (G (b.atR a (.code (.rangeFunc g ps assign body) :: k)) cs) v
   (G (Frame.enter P f args .normal) (b.atR { a with defers := { target := .collected v.heap.size, args := #[] } :: a.defers } (.inRangeFunc (v.heap.size + 1) :: k) :: cs))
   ((v.alloc (.deferred (some []))).alloc (.loop { state := .ready, pending := none, fn := b.fn, tmps := a.tmps, params := ps, assign, body, defers := v.heap.size })) es := by
 have hk' : (b.kind == CallKind.early) = false := by simpa using hk
 have he : ∀ w : World, w.heap.size = v.heap.size -> (Instr.enterLoop b.fn a.tmps ps assign body none).run P w = .ok (v.heap.size + 1, [{ target := .collected v.heap.size, args := #[] }])
   ((w.alloc (.deferred (some []))).alloc (.loop { state := .ready, pending := none, fn := b.fn, tmps := a.tmps, params := ps, assign, body, defers := v.heap.size })) := fun w hw => by
  rw [<- hw]; exact run_enterLoop_outer (w := w) b.fn a.tmps ps assign body
 refine ⟨seen P b.fn ((Instr.enterLoop b.fn a.tmps ps assign body none).events P v #[]) ++ seen P b.fn ((rangeSem a g (v.heap.size + 1)).events P ((v.alloc (.deferred (some []))).alloc (.loop { state := .ready, pending := none, fn := b.fn, tmps := a.tmps, params := ps, assign, body, defers := v.heap.size })) #[]), ⟨fun F S w hw => ?_, fun _ _ w hw => rfl⟩⟩
 obtain ⟨w1, h1, h2, h3, h4, h5⟩ := (zJh b.fn a.tmps ps assign body).ok (he v rfl) hw
 obtain ⟨w2, k1, k2, k3, k4, k5⟩ := ht.ok (hr _) h3
 rw [hr w1] at k1
 cases k1
 refine ⟨w1, ?_, k3, h4.trans k4, ?_⟩
 ·rw [<- h2, <- k2]
  have hev : ({ fn := b.fn, tmps := a.tmps, todo := .inRangeFunc (v.heap.size + 1) :: k, defers := { target := .collected v.heap.size, args := #[] } :: a.defers, mode := .run, kind := b.kind } : Frame).eval = a.eval := by
   funext x; cases x <;> rfl
  have hr1 := hr w1
  unfold rangeSem at hr1 ⊢
  simp only [G, stepG, stepG.exec, Frame.atR, hb, h1, Sem.runT_eq, stepG.apply, List.singleton_append, hev, hr1]
  simp [GStep.after, hk']
 ·intro e hm
  rcases Array.mem_append.1 hm with hm | hm
  ·exact vL h5 e hm
  ·exact vL k5 e hm
theorem Stp.endRange {jump : Option Code} (hr : (Instr.endLoop l).run P v = .ok jump v') :
  ∃ es, Stp P main (G (b.atR a (.endRangeFunc l :: k)) cs) v (G (b.atR a ((jump.map Item.code).toList ++ k)) cs) v' es := by
 refine ⟨seen P b.fn ((Instr.endLoop l).events P v #[]), ⟨fun F S w hw => ?_, fun _ _ w hw => ?_⟩⟩
 ·obtain ⟨w', h1, h2, h3, h4, h5⟩ := (zGh l).ok hr hw
  refine ⟨w', ?_, h3, h4, vL h5⟩
  rw [<- h2]
  simp [G, stepG, stepG.exec, Frame.atR, h1, Sem.runT_eq, GStep.after]
 ·obtain ⟨w', h1, _, _, h4, _⟩ := (zGh l).ok hr hw.self
  rw [hr] at h1
  cases h1
  exact h4.output
def rangeQ (Q : Exit -> Act -> World -> Prop) (a : Act) : Option Code -> World -> Prop
 | none, v => Q .normal a v
 | some .ret, v => Q .ret a v
 | some (.exit id), v => Q (.exit id) a v
 | _, _ => False
abbrev recIn (fn : FuncId) (a : Act) (ps : Array Tmp) (assign body : Code) (D : Nat) : Loop := { state := .ready, pending := none, fn, tmps := a.tmps, params := ps, assign, body, defers := D }
theorem zL2 {Q : Exit -> Act -> World -> Prop} 
  (h : ∀ fn v₁, Rl v v₁ -> ∃ f args, Tame P (rangeSem a g (v₁.heap.size + 1)) ∧ (∀ w, (rangeSem a g (v₁.heap.size + 1)).run P w = .ok (.enter f args) w) ∧
   Calls P f args ((v₁.alloc (.deferred (some []))).alloc (.loop (recIn fn a ps assign body v₁.heap.size))) fun e v3 => (∃ x, e = .returned x) ∧
    ∀ v4, Rl v3 v4 -> ∃ jump v5, (Instr.endLoop (v₁.heap.size + 1)).run P v4 = .ok jump v5 ∧ rangeQ Q { a with defers := { target := .collected v₁.heap.size, args := #[] } :: a.defers } jump v5) :
  wp P (.rangeFunc g ps assign body) Q a v := by
 intro b k cs hb
 have hro : b.roundOf = none := hb.2.resolve_right (by simp [fits])
 refine Gs.step' rfl fun v₁ h1 => ?_
 obtain ⟨f, args, ht, hr, hc⟩ := h b.fn v₁ h1
 obtain ⟨es, h2⟩ := Stp.ranges (main := I.main) (k := k) (cs := cs) (ps := ps) (assign := assign) (body := body) hro hb.1 ht hr
 refine ⟨_, _, _, h2, (hc _).bind ?_⟩
 rintro g' w' ⟨e, fr, v0, ⟨⟨x, rfl⟩, hend⟩, hr0, rfl, _, hle⟩
 refine Gs.step' rfl fun v2 h3 => ?_
 obtain ⟨es, h4⟩ := Stp.leaving (main := I.main) (c := b.atR { a with defers := { target := .collected v₁.heap.size, args := #[] } :: a.defers } (.inRangeFunc (v₁.heap.size + 1) :: k)) (cs := cs) (hle.rely h3)
 refine ⟨_, _, _, h4, Gs.step' rfl fun v4 h5 => ?_⟩
 obtain ⟨jump, v5, h6, h7⟩ := hend v4 ((hr0.trans h3).trans h5)
 obtain ⟨es, h8⟩ := Stp.endRange (main := I.main) (b := b) (a := { a with defers := { target := .collected v₁.heap.size, args := #[] } :: a.defers }) (k := k) (cs := cs) h6
 refine ⟨_, _, _, h8, ?_⟩
 match jump, h7 with
 | none, h7 => exact Out.now (e := .normal) h7 rfl
 | some .ret, h7 => exact Out.now (e := .ret) h7 ⟨k, rfl⟩
 | some (.exit id), h7 => exact Out.now (e := .exit id) h7 ⟨k, rfl, rfl⟩
end
end Go.Proofs.Yteppiphdbondeaa.N
namespace Go.Proofs.Yteppiphdbondeaa.N
open Go Go.RowKit Go.Proofs
set_option linter.unusedSectionVars false
variable [I : Sys]
variable {B N : Nat} {P : Program} {R : Ending -> World -> Prop} {ds : List Deferred} {rec : Loop} {w0 : World}
section
variable {C : Ctx} {fr frC : List (Nat × Value)} {hp hp' : List Res} {a : Act} {w : World} {ops : Array Oper} {Q : Exit -> Act -> World -> Prop} {rest : List Oper}
 {d : Nat} {ty : TypeId} {pos : String} {after : Array Edge} {r : Nat}
theorem At.putRec {rec' : Loop} (ha : At C fr (.blk r (.loop rec) :: hp) a w) : At C fr (.blk r (.loop rec') :: hp) a (w.putObj r (.loop rec')) := by
 have hb := ha.own _ (List.mem_cons_self ..)
 refine ha.turn (Upd.head hp) ⟨rfl, rfl, rfl, by simp, fun k _ hk => World.putObj_heap_other (fun e => hk (by rw [e]; rfl))⟩ ⟨hb.1, ?_⟩ (fun k hk => .inl hk)
 exact World.putObj_heap_same (Array.getElem?_eq_some_iff.1 hb.2).1
def YieldAt (P : Program) (r : Nat) (args : Array Value) (v : World) (R : Ending -> World -> Prop) : Prop :=
 ∃ rec : Loop, v.heap[r]? = some (.loop rec) ∧ args.size = rec.params.size ∧
  Rounds P r rec.fn ((rec.params.zip args).foldl (fun t (x : Tmp × Value) => t.setIfInBounds x.1 x.2) rec.tmps) rec.assign rec.body v R
theorem YieldAt.mono {args : Array Value} {v : World} {R' : Ending -> World -> Prop} (h : YieldAt P r args v R) (hr : ∀ e v', R e v' -> R' e v') : YieldAt P r args v R' := by
 obtain ⟨rec, h1, h2, h3⟩ := h
 exact ⟨rec, h1, h2, h3.mono hr⟩
omit I in
theorem zPo (r : Nat) (args : Array Value) : Tame P (Instr.yield r args) := Tame.bind (zAo r) fun rec => by
 show Tame P (if args.size ≠ rec.params.size then _ else _)
 split
 ·exact Tame.bind (vI _) fun _ => trivial
 ·trivial
theorem zH2 {X : Type} {frB : X -> List (Nat × Value)} {hp1 : X -> List Res} {N0 : Nat} {ds0 : List Deferred} {frI : List (Nat × Value)} {hpI : List Res} {aI : Act} {v : Value} 
  (ha : At ⟨P, B, w0, N0, ds0⟩ frI (.blk r (.loop rec) :: hpI) aI w) (hready : rec.state = .ready) (hps : rec.params = #[d]) (hsz : rec.tmps.size = N) (hd : Nat.blt d N = true) (hsl : ∀ t u, look frC t = some u -> rec.tmps.getD t undef = u)
  (hfa : fits rec.assign = true) (hfb : fits rec.body = true)
  (hassign : ∀ K : Act -> World -> Prop, (∀ x, Ex ⟨P, B, w0, N, []⟩ (Exit.then K (fun _ _ _ => False)) .normal (frB x) (.blk r (.loop rec) :: hp1 x)) -> Cod ⟨P, B, w0, N, []⟩ rec.assign (Exit.then K (fun _ _ _ => False)) ((d, v) :: frC) (.blk r (.loop rec) :: hpI))
  (hbody : ∀ x, Cod ⟨P, B, w0, N, []⟩ rec.body (roundPost P r R) (frB x) (.blk r (.loop { rec with state := .busy }) :: hp1 x)) : YieldAt P r [v].toArray w R := by
 have hl := (ha.own _ (List.mem_cons_self ..)).2
 refine ⟨rec, hl, by rw [hps]; simp, zLx hfa hfb ?_⟩
 have e : (rec.params.zip [v].toArray).foldl (fun t (x : Tmp × Value) => t.setIfInBounds x.1 x.2) rec.tmps = rec.tmps.setIfInBounds d v := by rw [hps]; simp
 rw [e]
 have h0 : At ⟨P, B, w0, N, []⟩ frC (.blk r (.loop rec) :: hpI) { tmps := rec.tmps, defers := [] } w := ⟨hsz, rfl, hsl, ha.below, ha.base, ha.own, ha.apart⟩
 refine hassign _ ?_ _ _ (h0.put (kC hd) v)
 intro x a w ha v₁ hv
 have ha1 := ha.rely hv
 exact ⟨_, run_beginRound (ha1.own _ (List.mem_cons_self ..)).2 hready, hbody x a _ ha1.putRec⟩
theorem wV (hready : rec.state = .ready) (hpe : rec.pending = none)
  (k : ∀ a w, At ⟨P, B, w0, N, ds⟩ fr (.blk r (.loop rec) :: hp) a w -> R (.returned (.bool true)) w) : Ex ⟨P, B, w0, N, ds⟩ (roundPost P r R) .normal fr (.blk r (.loop { rec with state := .busy }) :: hp) := by
 intro a w ha v₁ hv
 have ha1 := ha.rely hv
 obtain ⟨st, pe, _, _, _, _, _, _⟩ := rec
 simp only at hready hpe
 subst hready; subst hpe
 exact ⟨_, _, run_endRound (P := P) none (ha1.own _ (List.mem_cons_self ..)).2, k a _ ha1.putRec⟩
def isJump : Exit -> Code -> Prop
 | .ret, .ret => True
 | .exit i, .exit j => i = j
 | _, _ => False
theorem zN1 {e : Exit} {j : Code} (hj : isJump e j)
  (k : ∀ a w, At ⟨P, B, w0, N, ds⟩ fr (.blk r (.loop { rec with state := .done, pending := some j }) :: hp) a w -> R (.returned (.bool false)) w) : Ex ⟨P, B, w0, N, ds⟩ (roundPost P r R) e fr (.blk r (.loop { rec with state := .busy }) :: hp) := by
 intro a w ha
 have key : ∀ v₁, Rl w v₁ -> ∃ x v', (Instr.endRound r (some j)).run P v₁ = .ok x v' ∧ R (.returned x) v' := fun v₁ hv =>
  have ha1 := ha.rely hv
  ⟨_, _, run_endRound (P := P) (some j) (ha1.own _ (List.mem_cons_self ..)).2, k a _ ha1.putRec⟩
 cases e <;> cases j <;> first | exact hj.elim | exact key | (simp only [isJump] at hj; subst hj; exact key)
theorem zT5 {D : Nat} {fn : Func} (e : Exit) (he : e = .ret ∨ e = .normal) (x : Value)
  (hr : ∀ a w, At ⟨P, B, w0, N, [{ target := .collected D, args := #[] }]⟩ fr (.blk D (.deferred none) :: hp) a w -> ResV P fn a.tmps x w)
  (k : ∀ a w, At ⟨P, B, w0, N, [{ target := .collected D, args := #[] }]⟩ fr (.blk D (.deferred none) :: hp) a w -> R (.returned x) w) :
  Ex ⟨P, B, w0, N, [{ target := .collected D, args := #[] }]⟩ (bodyPostD P fn R) e fr (.blk D (.deferred (some [])) :: hp) := by
 intro a w ha
 have key : Leaves P fn a.tmps R a.defers .returning w := by
  rw [ha.defs]
  refine zHi (by simp) fun v₁ hv => ?_
  have ha1 := ha.rely hv
  have hD := (ha1.own _ (List.mem_cons_self ..)).2
  have at2 : At ⟨P, B, w0, N, [{ target := .collected D, args := #[] }]⟩ fr (.blk D (.deferred none) :: hp) a (v₁.putObj D (.deferred none)) := by
   refine ha1.turn (Upd.head _) ⟨rfl, rfl, rfl, by simp, fun k _ hk => World.putObj_heap_other (fun e => hk (by rw [e]; rfl))⟩ ⟨(ha1.own _ (List.mem_cons_self ..)).1, ?_⟩ (fun k hk => .inl hk)
   exact World.putObj_heap_same (Array.getElem?_eq_some_iff.1 hD).1
  exact ⟨_, run_takeDeferred hD, x, hr a _ at2, k a _ at2⟩
 rcases he with rfl | rfl <;> exact key
end
end Go.Proofs.Yteppiphdbondeaa.N
namespace Go.Proofs.Yteppiphdbondeaa.N
open Go Go.RowKit Go.Proofs
set_option linter.unusedSectionVars false
variable [I : Sys]
variable {A : Option Addr} {b bytes c cb m n : Nat} {e t : TypeId} {p : Addr} {x y : Operand} {xs : List Value} {z : Value}
def ncell (n : Nat) : List Value := [.int .i64 (n : Int)]
section
variable {C : Ctx} {fr : List (Nat × Value)} {hp hp' : List Res} {a : Act} {w : World} {ops : Array Oper} {Q : Exit -> Act -> World -> Prop} {rest : List Oper}
 {d : Nat} {ty : TypeId} {pos : String} {after : Array Edge}
theorem At.as_row (ha : At C fr hp a w) {b e size : Nat} (hu : Upd (.blk b (.cells ([] : List Value).toArray e (0, 0))) (.row e size (some ⟨b, 0, none⟩) 0 0 []) hp hp') : At C fr hp' a w := by
 have hb := ha.own _ hu.mem
 exact ha.turn hu (⟨rfl, rfl, rfl, Nat.le_refl _, fun _ _ _ => rfl⟩ : w.grownBy w _) ⟨by simp, .inr ⟨b, 0, #[], rfl, hb.1, hb.2, Nat.le_refl _, Nat.zero_le _, by simp, by simp⟩⟩ (fun k hk => .inl hk)
theorem zCa {l : List Oper} {e : Nat} (size : Nat) (hu : Upd (.blk b (.cells ([] : List Value).toArray e (0, 0))) (.row e size (some ⟨b, 0, none⟩) 0 0 []) hp hp') (h : Lst C ops Q l fr hp') : Lst C ops Q l fr hp := fun a w ha => h a w (ha.as_row hu)
theorem zFi {size : Nat} {news : List Value} {hp' : Option Addr -> Nat -> List Res} (hd : Nat.blt d C.N = true)
  (hx : ev fr x = some (.slice A n c)) (hy : ev fr y = some (.slice (some p) m cb)) (ht : C.P.underlying t = some (.slice e)) (hi : TI C.P e z size bytes) (hzs : z.cells.size = size) (hs0 : Nat.blt 0 size = true)
  (hnews : ∀ a w, At C fr hp a w -> ∀ j u, news[j]? = some u -> w.cell? (p.add j) = some u) (hl : news.length = m * size) (ho : ∀ u ∈ news, u.oneCell' = true) [hr : InR A e size n c xs hp] [hu : ∀ A' c', UpR A e size n c xs (.row e size A' (n + m) c' (xs ++ news)) hp (hp' A' c')]
  (hplace : ∀ (w : World) (v' : Value) (w' : World), w.ownsRow C.B e size (.slice A n c) n xs -> (∀ j u, news[j]? = some u -> w.cell? (p.add j) = some u) -> (Builtin.append_ #[t, t] ty #[.slice A n c, .slice (some p) m cb]).run C.P w = .ok v' w' -> ∀ k, v'.ownBlock = some k -> (Value.slice A n c).ownBlock = some k ∨ w.heap.size <= k)
  (h63 : n + m <= maxLen) (hbytes : (n + m) * bytes <= 140737488355328)
  (k : ∀ A' c', Lst C ops Q rest ((d, .slice A' (n + m) c') :: fr) (hp' A' c')) :
  Lst C ops Q (⟨some d, .call { callee := .builtin .append, args := #[x, y], argTypes := #[t, t] }, ty, pos, after, none⟩ :: rest) fr hp := by
 refine xH rfl fun a w ha => ?_
 obtain ⟨i, hi1, hi2, hi3, hi4⟩ := hi
 have hown := ha.own _ hr.mem
 subst hi3; subst hi4
 obtain ⟨v', w', hrun, hown', hg, _⟩ := run_append_own (P := C.P) w C.B t ty e i z i.size i.bytes ht hi1 hi2 rfl rfl hzs (kC hs0) _ n xs hown p m cb news hl (hnews a w ha) ho h63 hbytes ha.base
 have hpl := hplace w v' w' hown (hnews a w ha) hrun
 obtain ⟨A', c', rfl⟩ := zB4 hown'
 refine ⟨vM fun cs => by simp only [List.map_toArray, List.map_cons, List.map_nil, ha.eval hx, ha.eval hy]; exact zBk ht, ?_⟩
 have hr' : (execOp a.eval ⟨some d, .call { callee := .builtin .append, args := #[x, y], argTypes := #[t, t] }, ty, pos, after, none⟩).run C.P w = .ok (.value (.slice A' (n + m) c')) w' := by
  simp only [execOp, resolve, invoke, builtin, Sem.run_bind, Sem.run_pure, Result.andThen_ok, List.map_toArray, List.map_cons, List.map_nil, ha.eval hx, ha.eval hy, hrun]
 rw [hr']
 exact k A' c' _ _ ((ha.turn (hu A' c').upd hg hown' hpl).put (kC hd) _)
theorem zIh {l : List Nat} {hp' : Option Addr -> Nat -> List Res} (hd : Nat.blt d C.N = true)
  (hx : ev fr x = some (.slice A n c)) (hy : ev fr y = some (.slice (some p) m cb)) (ht : C.P.underlying t = some (.slice e)) (hi : TI C.P e z 1 bytes) (hzs : z.cells.size = 1)
  (hnews : ∀ a w, At C fr hp a w -> ∀ j u, (ints l)[j]? = some u -> w.cell? (p.add j) = some u) (hl : l.length = m) [hr : InR A e 1 n c xs hp] [hu : ∀ A' c', UpR A e 1 n c xs (.row e 1 A' (n + m) c' (xs ++ ints l)) hp (hp' A' c')]
  (h63 : n + m <= maxLen) (hbytes : (n + m) * bytes <= 140737488355328)
  (k : ∀ A' c', Lst C ops Q rest ((d, .slice A' (n + m) c') :: fr) (hp' A' c')) :
  Lst C ops Q (⟨some d, .call { callee := .builtin .append, args := #[x, y], argTypes := #[t, t] }, ty, pos, after, none⟩ :: rest) fr hp := by
 have ho : ∀ u ∈ ints l, u.oneCell' = true := by
  intro u hu'
  obtain ⟨n, _, rfl⟩ := List.mem_map.1 hu'
  simp [Value.oneCell']
 have hi' := hi
 obtain ⟨i, hi1, hi2, hi3, hi4⟩ := hi'
 subst hi4
 refine zFi hd hx hy ht hi hzs rfl hnews (by rw [zEv]; omega) ho (fun w v' w' hown hn hrun => ?_) h63 hbytes k
 exact zCx ht hi1 hi2 (hi3 ▸ hown) (by rw [zEv, hi3]; omega) hn ho h63 hbytes hrun
theorem zFj {ct : TypeId} {o : Nat} {cs cs' : List Value} {v : Value} (hx : ev fr x = some (.pointer (some ⟨b, o, none⟩))) (hy : ev fr y = some v) (hi : TI C.P t z 1 m) [hc : Cells v [v]]
  (ho : o < cs.length) (hcs : cs' = cs.set o v) (hu : Upd (.blk b (.cells cs.toArray ct (0, 0))) (.blk b (.cells cs'.toArray ct (0, 0))) hp hp')
  (k : Lst C ops Q rest fr hp') : Lst C ops Q (⟨none, .store t x y, ty, pos, after, none⟩ :: rest) fr hp := by
 obtain ⟨i, hi, _, hsz, _⟩ := hi
 refine zEj (fun _ _ _ => zCu ..) (fun a w ha => ?_) k
 have hs : Splice cs o [v] cs' := ⟨by rw [hcs, List.set_eq_take_append_cons_drop, if_pos ho, List.append_assoc]; rfl, by simp; omega⟩
 obtain ⟨w', h1, h2, h3⟩ := zE2 hs (ha.mem_blk hu.mem) hc.one C.P
 refine ⟨w', ?_, ha.turn hu h3 ⟨(ha.own _ hu.mem).1, h2⟩ (fun k hk => .inl hk)⟩
 simp [execOp, ha.eval hx, ha.eval hy, Instr.storeAt, Instr.sureAddr, storeVar, sizeOf, typeInfo, hi, hc.eq, hsz, h1]
end
theorem zKi (l : List Nat) : ints l = l.flatMap ncell := by
 induction l with
 | nil => rfl
 | cons n l ih => rw [List.flatMap_cons, <- ih]; rfl
end Go.Proofs.Yteppiphdbondeaa.N
namespace Go.Proofs.Yteppiphdbondeaa.N
open Go Go.RowKit Go.Proofs
set_option linter.unusedSectionVars false
variable [I : Sys]
variable {C : Ctx} {fr : List (Nat × Value)} {hp : List Res} {ops : Array Oper} {Q : Exit -> Act -> World -> Prop} {rest : List Oper} {d : Nat} {ty : TypeId} {pos : String} {after : Array Edge}
theorem RdL.take {α : Type} {cells : α -> List Value} {size : Nat} {w : World} {A : Option Addr} {l : List α} (h : RdL cells size w A l) (n : Nat) : RdL cells size w A (l.take n) := fun hl => by
 rw [List.length_take] at hl
 obtain ⟨b, o, h1, h2, h3⟩ := h om
 refine ⟨b, o, h1, h2, fun k x hk j u hu => h3 k x ?_ j u hu⟩
 rw [List.getElem?_take] at hk
 split at hk
 ·exact hk
 ·cases hk
end Go.Proofs.Yteppiphdbondeaa.N
namespace Go.Proofs.Yteppiphdbondeaa.N
open Go Go.RowKit Go.Proofs
set_option linter.unusedSectionVars false

structure Flt where
 power : Nat
 gain : Nat
 now : Nat
 washed : Bool
 deriving DecidableEq, Inhabited
def Flt.cells (f : Flt) : List Value := [.int .i64 (f.power : Int), .int .i64 (f.gain : Int), .int .i64 (f.now : Int), .bool f.washed]
def FltOk (f : Flt) : Prop := 1 <= f.power ∧ f.power <= 4 ∧ f.gain <= f.power ∧ f.now <= f.power
structure Mor where
 s : List Nat
 w : Nat
 deriving DecidableEq, Inhabited
abbrev O5 (a b c w d t : Nat) : Obj := .cells [.int .i64 (a : Int), .int .i64 (b : Int), .int .i64 (c : Int), .int .u8 (w : Int), .int .i64 (d : Int)].toArray t (0, 0)
abbrev OO (a b : Nat) (c : Bool) (t : Nat) : Obj := .cells [.int .i64 (a : Int), .int .i64 (b : Int), .bool c].toArray t (0, 0)
def Mor.cells (m : Mor) : List Value := m.s.map (fun (x : Nat) => Value.int .i64 (x : Int)) ++ [.int .u8 (m.w : Int)]
def Mor.val (m : Mor) : Value := .agg m.cells.toArray
structure MOk (m : Mor) : Prop where
 three : m.s.length = 3
 small : ∀ x ∈ m.s, x <= 4
 w : m.w < 8
def wWith (w n : Nat) : Nat := w ||| 2 ^ n
def wOut (w n : Nat) : Nat := w &&& (7 - 2 ^ n)
def startN (fs : List Flt) (k : Nat) : Mor := ⟨((fs.take k).map Flt.now) ++ List.replicate (3 - (fs.take k).length) 0, (List.range k).foldl (fun w i => if (fs.getD i default).washed then wWith w i else w) 0⟩
def start (fs : List Flt) : Mor := startN fs fs.length
def dStep (fs : List Flt) (m : Mor) (st : Nat × Mor) (i kind : Nat) : Nat × Mor :=
 let now := m.s.getD i 0
 let f := fs.getD i default
 if kind = 0 then (st.1 - min st.1 now, ⟨st.2.s.set i (now - min st.1 now), st.2.w⟩)
 else if kind = 2 then (st.1, ⟨st.2.s.set i (min f.power (now + f.gain)), wWith st.2.w i⟩)
 else if kind = 3 then (st.1, ⟨st.2.s.set i f.power, wOut st.2.w i⟩)
 else (st.1, ⟨st.2.s.set i now, st.2.w⟩)
def dRun (fs : List Flt) (m : Mor) (acts : List Nat) (sugar k : Nat) : Nat × Mor := (List.range k).foldl (fun st i => dStep fs m st i (acts.getD i 0)) (sugar, m)
def barred (m : Mor) (acts : List Nat) (k : Nat) : Bool := (List.range k).any fun i => acts.getD i 0 == 2 && m.w.testBit i
def firesN (acts : List Nat) (k : Nat) : Nat := (acts.take k).countP (· == 3)
def dayE (fs : List Flt) (kiln : Nat) (m : Mor) (acts : List Nat) (sugar : Nat) : Nat × Mor :=
 if barred m acts acts.length then (12, m)
 else if kiln < firesN acts acts.length then (6, m)
 else if 0 < (dRun fs m acts sugar acts.length).1 then (9, m)
 else (0, (dRun fs m acts sugar acts.length).2)
theorem zSi : ∀ w : Fin 8, ∀ n : Fin 3, IntKind.u8.wrap (((BitVec.ofInt IntKind.u8.bits (w.1 : Int) ||| BitVec.ofInt IntKind.u8.bits ((2 ^ n.1 : Nat) : Int)).toNat : Nat) : Int) = ((wWith w.1 n.1 : Nat) : Int) := by decide
theorem zUu : ∀ w : Fin 8, ∀ n : Fin 3, IntKind.u8.wrap (((BitVec.ofInt IntKind.u8.bits (w.1 : Int) &&& ~~~ BitVec.ofInt IntKind.u8.bits ((2 ^ n.1 : Nat) : Int)).toNat : Nat) : Int) = ((wOut w.1 n.1 : Nat) : Int) := by decide
theorem zUl : ∀ n : Fin 3, IntKind.u8.wrap ((1 : Int) * 2 ^ (min ((n.1 : Int)).toNat IntKind.u8.bits)) = ((2 ^ n.1 : Nat) : Int) := by decide
theorem zU6 : ∀ w : Fin 8, ∀ n : Fin 3, ((w.1 : Int)).fdiv (2 ^ (min ((n.1 : Int)).toNat IntKind.u8.bits)) = ((w.1 >>> n.1 : Nat) : Int) := by decide
theorem zUx : ∀ w : Fin 8, IntKind.u8.wrap (((BitVec.ofInt IntKind.u8.bits (w.1 : Int) &&& BitVec.ofInt IntKind.u8.bits 1).toNat : Nat) : Int) = ((w.1 % 2 : Nat) : Int) := by decide
theorem zWc : ∀ w : Fin 8, ∀ n : Fin 3, wWith w.1 n.1 < 8 := by decide
theorem zXl : ∀ w : Fin 8, ∀ n : Fin 3, wOut w.1 n.1 < 8 := by decide
theorem zRo : ∀ w : Fin 8, ∀ n : Fin 3, decide ((((w.1 >>> n.1) % 2 : Nat) : Int) = 1) = w.1.testBit n.1 := by decide
theorem zTj {w n : Nat} (hw : w < 8) (hn : n < 3) : decide ((((w >>> n) % 2 : Nat) : Int) = 1) = w.testBit n := zRo ⟨w, hw⟩ ⟨n, hn⟩
section
variable {x n : Nat} (hx : x < 8) (hn : n < 3)
include hx hn
theorem zXw : IntKind.u8.wrap (((BitVec.ofInt IntKind.u8.bits (x : Int) ||| BitVec.ofInt IntKind.u8.bits ((2 ^ n : Nat) : Int)).toNat : Nat) : Int) = ((wWith x n : Nat) : Int) := zSi ⟨x, hx⟩ ⟨n, hn⟩
theorem zZl : IntKind.u8.wrap (((BitVec.ofInt IntKind.u8.bits (x : Int) &&& ~~~ BitVec.ofInt IntKind.u8.bits ((2 ^ n : Nat) : Int)).toNat : Nat) : Int) = ((wOut x n : Nat) : Int) := zUu ⟨x, hx⟩ ⟨n, hn⟩
omit hx in
theorem zVd : IntKind.u8.wrap ((1 : Int) * 2 ^ (min ((n : Int)).toNat IntKind.u8.bits)) = ((2 ^ n : Nat) : Int) := zUl ⟨n, hn⟩
theorem zZg : ((x : Int)).fdiv (2 ^ (min ((n : Int)).toNat IntKind.u8.bits)) = ((x >>> n : Nat) : Int) := zU6 ⟨x, hx⟩ ⟨n, hn⟩
theorem zZs : IntKind.u8.wrap (((BitVec.ofInt IntKind.u8.bits ((x >>> n : Nat) : Int) &&& BitVec.ofInt IntKind.u8.bits 1).toNat : Nat) : Int) = (((x >>> n) % 2 : Nat) : Int) := zUx ⟨x >>> n, Nat.lt_of_le_of_lt (Nat.shiftRight_le ..) hx⟩
theorem zNf : wWith x n < 8 := zWc ⟨x, hx⟩ ⟨n, hn⟩
theorem zV3 : wOut x n < 8 := zXl ⟨x, hx⟩ ⟨n, hn⟩
end
end Go.Proofs.Yteppiphdbondeaa.N
namespace Go.Proofs.Yteppiphdbondeaa.N
open Go Go.RowKit Go.Proofs
set_option linter.unusedSectionVars false
variable [I : Sys]
theorem F.fi174_0 : FI Try.prog 174 0 3 0 := ⟨_, _, Try.underlying174, rfl, rfl, rfl⟩
theorem F.fi49_0 : FI Try.prog 49 0 3 0 := ⟨_, _, Try.underlying49, rfl, rfl, rfl⟩
theorem F.fi49_1 : FI Try.prog 49 1 3 1 := ⟨_, _, Try.underlying49, rfl, rfl, rfl⟩
theorem F.one3 : One Try.prog 3 := ⟨by unfold aggB; rw [Try.underlying3], by rw [Try.underlying3]; simp⟩
theorem F.ti3 : TI Try.prog 3 (.int .i64 0) 1 8 := TI.of (by kernel_rfl)
theorem zRf (x n : Nat) (hx : x < 8) (hn : n < 3) (w : World) : Calls Try.prog 80 #[.int .u8 (x : Int), .int .i64 (n : Int)] w fun e w' => e = .returned (.int .u8 ((wWith x n : Nat) : Int)) ∧ Grew w w' [] := by
 exact enter (N := 9) [(0, .int .u8 (x : Int)), (1, .int .i64 (n : Int))] Try.func80 rfl Try.ntmps80 rfl rfl (zD (zB (zE rfl rfl (zA (zC (zD (zB (zF rfl rfl (zF rfl rfl (zPj rfl rfl rfl om (zVd hn) (zI rfl rfl rfl (fun w => zXo w (zXw hx hn)) (zE rfl rfl (zA (zC (zY (jJ rfl (fun a w ha => jO rfl rfl ha) (fun a w ha => ⟨rfl, ha.grown nsl⟩)))))))))))))))))

theorem zSo (x n : Nat) (hx : x < 8) (hn : n < 3) (w : World) : Calls Try.prog 109 #[.int .u8 (x : Int), .int .i64 (n : Int)] w fun e w' => e = .returned (.int .u8 ((wOut x n : Nat) : Int)) ∧ Grew w w' [] := by
 exact enter (N := 9) [(0, .int .u8 (x : Int)), (1, .int .i64 (n : Int))] Try.func109 rfl Try.ntmps109 rfl rfl (zD (zB (zE rfl rfl (zA (zC (zD (zB (zF rfl rfl (zF rfl rfl (zPj rfl rfl rfl om (zVd hn) (zI rfl rfl rfl (fun w => zEs w (zZl hx hn)) (zE rfl rfl (zA (zC (zY (jJ rfl (fun a w ha => jO rfl rfl ha) (fun a w ha => ⟨rfl, ha.grown nsl⟩)))))))))))))))))

theorem jAa (x n : Nat) (hx : x < 8) (hn : n < 3) (w : World) : Calls Try.prog 107 #[.int .u8 (x : Int), .int .i64 (n : Int)] w fun e w' => e = .returned (.bool (x.testBit n)) ∧ Grew w w' [] := by
 exact enter (N := 10) [(0, .int .u8 (x : Int)), (1, .int .i64 (n : Int))] Try.func107 rfl Try.ntmps107 rfl rfl (zD (zB (zE rfl rfl (zA (zC (zD (zB (zF rfl rfl (zF rfl rfl (zCf rfl rfl rfl om (zZg hx hn) (zI rfl rfl rfl (fun w => zWx w (zZs hx hn)) (zI rfl rfl rfl jY (zE rfl rfl (zA (zC (zY (jJ rfl (fun a w ha => jO rfl rfl ha) (fun a w ha => ⟨by rw [zTj hx hn], ha.grown nsl⟩))))))))))))))))))

theorem zZi (f : Flt) (x : Nat) (_hf : FltOk f) (hx : x <= 4) (y : Nat) (hy : y <= x) (w : World) : Calls Try.prog 133 #[.agg [.int .i64 (y : Int)].toArray, .agg [.int .i64 (f.power : Int), .int .i64 (f.gain : Int), .int .i64 (f.now : Int), .bool f.washed].toArray, .int .i64 (x : Int)] w fun e w' => e = .returned (.int .i64 ((x - y : Nat) : Int)) ∧ Grew w w' [] := by
 refine enter (N := 11) [(0, .agg [.int .i64 (y : Int)].toArray), (1, .agg [.int .i64 (f.power : Int), .int .i64 (f.gain : Int), .int .i64 (f.now : Int), .bool f.washed].toArray), (2, .int .i64 (x : Int))] Try.func133 rfl Try.ntmps133 rfl rfl (zD (zB (kA rfl rfl ?_)))
 intro b3
 refine kA rfl rfl ?_
 intro b4
 exact zE rfl rfl (zA (zC (zD (zB (zF rfl rfl (zL rfl rfl F.fi174_0 F.ti3 (zR rfl rfl F.one3 (zI (v := .int .i64 ((x - y : Nat) : Int)) rfl rfl rfl (fun w => xZ w (by rw [zT _ om om]; omega)) (zE rfl rfl (zA (zC (zY (jJ rfl (fun a w ha => jO rfl rfl ha) (fun a w ha => ⟨rfl, ha.grown nsl⟩))))))))))))))

theorem zYc (f : Flt) (x : Nat) (_hf : FltOk f) (_hx : x <= 4) (w : World) : Calls Try.prog 134 #[.agg [].toArray, .agg [.int .i64 (f.power : Int), .int .i64 (f.gain : Int), .int .i64 (f.now : Int), .bool f.washed].toArray, .int .i64 (x : Int)] w fun e w' => e = .returned (.int .i64 (x : Int)) ∧ Grew w w' [] := by
 refine enter (N := 8) [(0, .agg [].toArray), (1, .agg [.int .i64 (f.power : Int), .int .i64 (f.gain : Int), .int .i64 (f.now : Int), .bool f.washed].toArray), (2, .int .i64 (x : Int))] Try.func134 rfl Try.ntmps134 rfl rfl (zD (zB (kA rfl rfl ?_)))
 intro b3
 refine kA rfl rfl ?_
 intro b4
 exact zE rfl rfl (zA (zC (zD (zB (zF rfl rfl (zE rfl rfl (zA (zC (zY (jJ rfl (fun a w ha => jO rfl rfl ha) (fun a w ha => ⟨rfl, ha.grown nsl⟩)))))))))))

theorem zYb (f : Flt) (x : Nat) (_hf : FltOk f) (_hx : x <= 4) (w : World) : Calls Try.prog 132 #[.agg [].toArray, .agg [.int .i64 (f.power : Int), .int .i64 (f.gain : Int), .int .i64 (f.now : Int), .bool f.washed].toArray, .int .i64 (x : Int)] w fun e w' => e = .returned (.int .i64 (f.power : Int)) ∧ Grew w w' [] := by
 refine enter (N := 9) [(0, .agg [].toArray), (1, .agg [.int .i64 (f.power : Int), .int .i64 (f.gain : Int), .int .i64 (f.now : Int), .bool f.washed].toArray), (2, .int .i64 (x : Int))] Try.func132 rfl Try.ntmps132 rfl rfl (zD (zB (kA rfl rfl ?_)))
 intro b3
 refine kA rfl rfl ?_
 intro b4
 exact zE rfl rfl (zA (zC (zD (zB (zL rfl rfl F.fi49_0 F.ti3 (zR rfl rfl F.one3 (zE rfl rfl (zA (zC (zY (jJ rfl (fun a w ha => jO rfl rfl ha) (fun a w ha => ⟨rfl, ha.grown nsl⟩))))))))))))

theorem zX6 (f : Flt) (x : Nat) (hf : FltOk f) (hx : x <= 4) (w : World) : Calls Try.prog 131 #[.agg [].toArray, .agg [.int .i64 (f.power : Int), .int .i64 (f.gain : Int), .int .i64 (f.now : Int), .bool f.washed].toArray, .int .i64 (x : Int)] w fun e w' => e = .returned (.int .i64 ((min f.power (x + f.gain) : Nat) : Int)) ∧ Grew w w' [] := by
 refine enter (N := 14) [(0, .agg [].toArray), (1, .agg [.int .i64 (f.power : Int), .int .i64 (f.gain : Int), .int .i64 (f.now : Int), .bool f.washed].toArray), (2, .int .i64 (x : Int))] Try.func131 rfl Try.ntmps131 rfl rfl (zD (zB (kA rfl rfl ?_)))
 intro b3
 refine kA rfl rfl ?_
 intro b4
 exact zE rfl rfl (zA (zC (zD (zB (zL rfl rfl F.fi49_0 F.ti3 (zR rfl rfl F.one3 (zF rfl rfl (zL rfl rfl F.fi49_1 F.ti3 (zR rfl rfl F.one3 (zI (v := .int .i64 ((x + f.gain : Nat) : Int)) rfl rfl rfl (fun w => jK w (by obtain ⟨h1, h2, h3, h4⟩ := hf; rw [zT _ om om]; omega)) (zPc rfl rfl rfl (zE rfl rfl (zA (zC (zY (jJ rfl (fun a w ha => jO rfl rfl ha) (fun a w ha => ⟨by congr 2; split <;> omega, ha.grown nsl⟩)))))))))))))))))

end Go.Proofs.Yteppiphdbondeaa.N
namespace Go.Proofs.Yteppiphdbondeaa.N
open Go Go.RowKit Go.Proofs
set_option linter.unusedSectionVars false
variable {i k s : Nat} {m : Mor}
theorem zHh (fs : List Flt) (k : Nat) (x : Flt) (hx : fs[k]? = some x) (hk : k < 3) : startN fs (k + 1) = ⟨(startN fs k).s.set k x.now, if x.washed then wWith (startN fs k).w k else (startN fs k).w⟩ := by
 have hlt := (List.getElem?_eq_some_iff.1 hx).1
 have h1 : fs.take (k + 1) = fs.take k ++ [x] := by rw [List.take_add_one, hx]; rfl
 have h2 : (fs.take k).length = k := by rw [List.length_take]; omega
 have h3 : fs.getD k default = x := by rw [List.getD_eq_getElem?_getD, hx]; rfl
 unfold startN
 rw [List.range_succ, List.foldl_append, List.foldl_cons, List.foldl_nil, h3, h1]
 congr 1
 simp only [List.map_append, List.map_cons, List.map_nil, List.length_append, h2, List.length_singleton, List.append_assoc]
 rw [List.set_append_right _ _ (by rw [List.length_map, h2]; exact Nat.le_refl _)]
 simp only [List.length_map, h2, Nat.sub_self]
 have : 3 - k = (3 - (k + 1)) + 1 := by omega
 rw [this, List.replicate_succ]
 rfl
theorem yG {fs : List Flt} (h3 : fs.length <= 3) (hf : ∀ f ∈ fs, FltOk f) (k : Nat) (hk : k <= fs.length) : MOk (startN fs k) := by
 refine ⟨?_, fun x hx => ?_, ?_⟩
 ·simp only [startN, List.length_append, List.length_map, List.length_replicate, List.length_take]
  omega
 ·simp only [startN, List.mem_append, List.mem_map, List.mem_replicate] at hx
  rcases hx with ⟨f, hf1, rfl⟩ | ⟨_, rfl⟩
  ·obtain ⟨_, h2, _, h4⟩ := hf f (List.mem_of_mem_take hf1)
   omega
  ·omega
 ·induction k with
  | zero => exact (by decide : 0 < 8)
  | succ k ih =>
   obtain ⟨x, hx⟩ : ∃ x, fs[k]? = some x := ⟨_, List.getElem?_eq_getElem om⟩
   rw [zHh fs k x hx om]
   dsimp only
   split
   ·exact zNf (ih om) om
   ·exact ih om
theorem MOk.form (h : MOk m) : ∃ z0 z1 z2 zw : Nat, m = ⟨[z0, z1, z2], zw⟩ ∧ z0 <= 4 ∧ z1 <= 4 ∧ z2 <= 4 ∧ zw < 8 := by
 obtain ⟨s, w⟩ := m
 obtain ⟨h1, h2, h3⟩ := h
 rcases s with _ | ⟨a, _ | ⟨b, _ | ⟨c, _ | ⟨d, r⟩⟩⟩⟩ <;> simp at h1
 exact ⟨a, b, c, w, rfl, h2 a (by simp), h2 b (by simp), h2 c (by simp), h3⟩
theorem zKc (a b c : Nat) (v : Value) (z k x : Nat) (_hv : v = .int .u8 (z : Int)) (hk : k < 3) : ∃ y0 y1 y2 : Nat, [a, b, c].set k x = [y0, y1, y2] ∧ [Value.int .i64 (a : Int), .int .i64 (b : Int), .int .i64 (c : Int), v].set k (.int .i64 (x : Int)) = [Value.int .i64 (y0 : Int), .int .i64 (y1 : Int), .int .i64 (y2 : Int), v] := by
 rcases k with _ | _ | _ | k
 ·exact ⟨x, b, c, rfl, rfl⟩
 ·exact ⟨a, x, c, rfl, rfl⟩
 ·exact ⟨a, b, x, rfl, rfl⟩
 ·omega
theorem zF5 (a b c : Nat) (v : Value) (k : Nat) (hk : k < 3) : [Value.int .i64 (a : Int), .int .i64 (b : Int), .int .i64 (c : Int), v][k]? = some (.int .i64 (([a, b, c].getD k 0 : Nat) : Int)) := by
 rcases k with _ | _ | _ | k
 ·rfl
 ·rfl
 ·rfl
 ·omega
def actOf (m : Mor) (i kind sugar : Nat) : Value × Nat :=
 if kind = 0 then (.iface 174 (.agg #[.int .i64 ((min sugar (m.s.getD i 0) : Nat) : Int)]), sugar - min sugar (m.s.getD i 0))
 else if kind = 2 then (.iface 165 (.agg #[]), sugar) else if kind = 3 then (.iface 166 (.agg #[]), sugar) else (.iface 175 (.agg #[]), sugar)
theorem zW3 (s sugar : Nat) : (if (s : Int) < (sugar : Int) then (s : Int) else (sugar : Int)) = ((min sugar s : Nat) : Int) := by split <;> omega
theorem actOf0 (h : (k : Int) = 0) : actOf m i k s = (.iface 174 (.agg #[.int .i64 ((min s (m.s.getD i 0) : Nat) : Int)]), s - min s (m.s.getD i 0)) := by unfold actOf; rw [if_pos (by omega)]
theorem actOf2 (h : (k : Int) = 2) : actOf m i k s = (.iface 165 (.agg #[]), s) := by unfold actOf; rw [if_neg (by omega), if_pos (by omega)]
theorem actOf3 (h : (k : Int) = 3) : actOf m i k s = (.iface 166 (.agg #[]), s) := by unfold actOf; rw [if_neg (by omega), if_neg (by omega), if_pos (by omega)]
theorem actOf1 (h0 : ¬ (k : Int) = 0) (h2 : ¬ (k : Int) = 2) (h3 : ¬ (k : Int) = 3) : actOf m i k s = (.iface 175 (.agg #[]), s) := by unfold actOf; rw [if_neg (by omega), if_neg (by omega), if_neg (by omega)]
theorem zIg {z0 z1 z2 b : Nat} (h0 : z0 <= b) (h1 : z1 <= b) (h2 : z2 <= b) (i : Nat) : [z0, z1, z2].getD i 0 <= b := by
 rcases i with _ | _ | _ | i
 ·exact h0
 ·exact h1
 ·exact h2
 ·exact Nat.zero_le _
end Go.Proofs.Yteppiphdbondeaa.N
namespace Go.Proofs.Yteppiphdbondeaa.N
open Go Go.RowKit Go.Proofs
set_option linter.unusedSectionVars false
variable [I : Sys]
theorem F.agg49 : aggB Try.prog 49 = true := by unfold aggB; rw [Try.underlying49]
theorem F.agg95 : aggB Try.prog 95 = true := by unfold aggB; rw [Try.underlying95]
theorem F.ent80 : Enters Try.prog 80 := jD Try.func80 rfl (by kernel_rfl)
theorem F.fi27_0 : FI Try.prog 27 0 25 0 := ⟨_, _, Try.underlying27, rfl, rfl, rfl⟩
theorem F.fi49_2 : FI Try.prog 49 2 3 2 := ⟨_, _, Try.underlying49, rfl, rfl, rfl⟩
theorem F.fi49_3 : FI Try.prog 49 3 4 3 := ⟨_, _, Try.underlying49, rfl, rfl, rfl⟩
theorem F.fi77_0 : FI Try.prog 77 0 27 0 := ⟨_, _, Try.underlying77, rfl, rfl, rfl⟩
theorem F.fi95_0 : FI Try.prog 95 0 92 0 := ⟨_, _, Try.underlying95, rfl, rfl, rfl⟩
theorem F.fi95_1 : FI Try.prog 95 1 93 3 := ⟨_, _, Try.underlying95, rfl, rfl, rfl⟩
theorem F.one25 : One Try.prog 25 := ⟨by unfold aggB; rw [Try.underlying25], by rw [Try.underlying25]; simp⟩
theorem F.one4 : One Try.prog 4 := ⟨by unfold aggB; rw [Try.underlying4], by rw [Try.underlying4]; simp⟩
theorem F.one93 : One Try.prog 93 := ⟨by unfold aggB; rw [Try.underlying93], by rw [Try.underlying93]; simp⟩
theorem F.ti25 : TI Try.prog 25 (.slice none 0 0) 1 24 := TI.of (by kernel_rfl)
theorem F.ti27 : TI Try.prog 27 (.agg [.slice none 0 0, .int .i64 0, .slice none 0 0].toArray) 3 56 := TI.of (by kernel_rfl)
theorem F.ti4 : TI Try.prog 4 (.bool false) 1 1 := TI.of (by kernel_rfl)
theorem F.ti49 : TI Try.prog 49 (.agg [.int .i64 0, .int .i64 0, .int .i64 0, .bool false].toArray) 4 32 := TI.of (by kernel_rfl)
theorem F.ti92 : TI Try.prog 92 (.agg [.int .i64 0, .int .i64 0, .int .i64 0].toArray) 3 24 := TI.of (by kernel_rfl)
theorem F.ti93 : TI Try.prog 93 (.int .u8 0) 1 1 := TI.of (by kernel_rfl)
theorem F.ti95 : TI Try.prog 95 (.agg [.int .i64 0, .int .i64 0, .int .i64 0, .int .u8 0].toArray) 4 32 := TI.of (by kernel_rfl)
theorem zDz (fA dA : Option Addr) (fc nd dc kiln : Nat) (fs : List Flt) (h3 : fs.length <= 3) (hf : ∀ f ∈ fs, FltOk f) (w : World) (hA : RdL Flt.cells 4 w fA fs) : Calls Try.prog 60 #[.agg (CA fA fs.length fc kiln dA nd dc).toArray] w fun e w' => e = .returned (Mor.val (start fs)) ∧ Grew w w' [] := by
 refine enter (N := 29) [(0, .agg (CA fA fs.length fc kiln dA nd dc).toArray)] Try.func60 rfl Try.ntmps60 rfl rfl (zD (zB (kA rfl rfl ?_)))
 intro b1
 refine zX rfl F.ti95 ?_
 intro b2
 refine zA (zC (zD (zB (zX rfl F.ti95 ?_))))
 intro b3
 refine zA (zC (zD (zD (zB (zL rfl rfl F.fi77_0 F.ti27 (zL rfl rfl F.fi27_0 F.ti25 (zR rfl rfl F.one25 (jX rfl rfl Try.underlying25 (zF rfl rfl (zA (zC (zS (xY (G := Nat) (fun k => k <= fs.length) (fun k => fs.length - k) (fun k => [(2, pt b2), (3, pt b3), (8, .slice fA fs.length fc), (9, .int .i64 (fs.length : Int)), (10, .int .i64 (k : Int))]) (fun k => [.blk b3 (.cells (Mor.cells (startN fs (k))).toArray 95 (0, 0)), .blk b2 (.cells [.int .i64 0, .int .i64 0, .int .i64 0, .int .u8 0].toArray 95 (0, 0))]) 0 (Nat.zero_le _) sbn sbl ?_)))))))))))))
 intro k hk
 (try dsimp only at hk ⊢)
 refine zD (zB (zI rfl rfl rfl jR ?_))
 refine zA (zC (zD (zN rfl (fun hc0 => ?_) (fun hc0 => ?_))))
 ·have hk' : k < fs.length := by omega
  obtain ⟨b, o, rfl, hb, hcell⟩ := hA om
  obtain ⟨x, hx⟩ : ∃ x, fs[k]? = some x := ⟨_, List.getElem?_eq_getElem hk'⟩
  obtain ⟨hx1, hx2, hx3, hx4⟩ := hf x (List.mem_of_getElem? hx)
  obtain ⟨z0, z1, z2, zw, hz, hz0, hz1, hz2, hzw⟩ := (yG h3 hf k om).form
  have hnx := zHh fs k x hx om
  rw [hz] at hnx
  rw [hz]
  simp only [Mor.cells, List.map_cons, List.map_nil, List.cons_append, List.nil_append] at hnx ⊢
  obtain ⟨y0, y1, y2, hy1, hy2⟩ := zKc z0 z1 z2 (.int .u8 (zw : Int)) zw k x.now rfl om
  refine zQ (zC (zD (zS (zD (zB (zF rfl rfl (qE (j := k) rfl rfl rfl Try.underlying25 F.ti49 rfl hk' (qZ (l := [.int .i64 (x.power : Int), .int .i64 (x.gain : Int), .int .i64 (x.now : Int), .bool x.washed]) rfl rfl F.agg49 F.ti49 rfl (fun a w ha j u hu => ha.old (hcell k x hx j u hu) hb) (zX rfl F.ti49 ?_)))))))))
  intro b5
  refine zE rfl rfl (zH rfl rfl F.ti49 rfl (zA (zC (zD (zB (zF rfl rfl (zL rfl rfl F.fi49_2 F.ti3 (zR rfl rfl F.one3 (zL rfl rfl F.fi95_0 F.ti92 (zB5 (j := k) rfl rfl rfl Try.underlying92 F.ti3 rfl om (zFj (cs := (V4 z0 z1 z2 zw)) (cs' := (V4 y0 y1 y2 zw)) rfl rfl F.ti3 (by simp; omega) (by rw [Nat.zero_add, Nat.mul_one]; exact hy2.symm) (.tail _ (.head _)) (zA (zC (zD (zB (zL rfl rfl F.fi49_3 F.ti4 (zR rfl rfl F.one4 ?_)))))))))))))))))
  refine zA (zC (qD rfl (fun hc1 => ?_) (fun hc1 => ?_)))
  ·refine zB (zL rfl rfl F.fi95_1 F.ti93 (zR rfl rfl F.one93 (zF rfl rfl (jM (vs := [_, _]) rfl rfl F.ent80 (fun a w ha => zRf zw k hzw om w) (zL rfl rfl F.fi95_1 F.ti93 (zH rfl rfl F.ti93 rfl (zA (zJ (zC (zB (zI rfl rfl rfl (fun w => jK w (zT _ om om)) (zF rfl rfl (zA (qY (k + 1) om tdo sbn (by (try dsimp only); rw [hnx, hy1, if_pos hc1]; simp only [List.map_cons, List.map_nil, List.cons_append, List.nil_append]; repeat (first | exact List.Sublist.refl _ | exact List.nil_sublist _ | refine List.Sublist.cons_cons _ ?_ | refine List.Sublist.cons _ ?_))))))))))))))))
  ·refine zQ (zJ (zC (zB (zI rfl rfl rfl (fun w => jK w (zT _ om om)) (zF rfl rfl (zA (qY (k + 1) om tdo sbn (by (try dsimp only); rw [hnx, hy1, if_neg (by rw [hc1]; simp)]; simp only [List.map_cons, List.map_nil, List.cons_append, List.nil_append]; repeat (first | exact List.Sublist.refl _ | exact List.nil_sublist _ | refine List.Sublist.cons_cons _ ?_ | refine List.Sublist.cons _ ?_)))))))))
 ·obtain rfl : k = fs.length := by omega
  obtain ⟨z0, z1, z2, zw, hz, _⟩ := (yG h3 hf fs.length (Nat.le_refl _)).form
  rw [hz]
  simp only [Mor.cells, List.map_cons, List.map_nil, List.cons_append, List.nil_append]
  exact jU (zO (zO (jF (zC (zD (zB (jE rfl rfl F.agg95 F.ti95 (zH rfl rfl F.ti95 rfl (zA (zC (zY (jJ rfl (fun a w ha => by exact xC (ha := ha) rfl rfl F.agg95 F.ti95 rfl) (fun a w ha => ⟨by unfold start; rw [hz]; rfl, ha.grown nsl⟩)))))))))))))

theorem F.pl165 : Places Try.prog 165 [] := .inl ⟨_, Try.underlying165, by kernel_rfl⟩
theorem F.pl166 : Places Try.prog 166 [] := .inl ⟨_, Try.underlying166, by kernel_rfl⟩
theorem F.pl174 : Places Try.prog 174 [(0, 1)] := .inl ⟨_, Try.underlying174, by kernel_rfl⟩
theorem F.pl175 : Places Try.prog 175 [] := .inl ⟨_, Try.underlying175, by kernel_rfl⟩
theorem F.ti165 : TI Try.prog 165 (.agg [].toArray) 0 0 := TI.of (by kernel_rfl)
theorem F.ti166 : TI Try.prog 166 (.agg [].toArray) 0 0 := TI.of (by kernel_rfl)
theorem F.ti174 : TI Try.prog 174 (.agg [.int .i64 0].toArray) 1 8 := TI.of (by kernel_rfl)
theorem F.ti175 : TI Try.prog 175 (.agg [].toArray) 0 0 := TI.of (by kernel_rfl)
theorem zZ2 (z0 z1 z2 zw i k s : Nat) (hz0 : z0 <= 4) (hz1 : z1 <= 4) (hz2 : z2 <= 4) (hi : i < 3) (hs : s <= 12) (w : World) : Calls Try.prog 108 #[.agg (V4 z0 z1 z2 zw).toArray, .int .i64 (i : Int), .int .i64 (k : Int), .int .i64 (s : Int)] w fun e w' => e = .returned (.tuple #[(actOf ⟨[z0, z1, z2], zw⟩ i k s).1, .int .i64 ((actOf ⟨[z0, z1, z2], zw⟩ i k s).2 : Int)]) ∧ Grew w w' [] := by
 refine enter (N := 39) [(0, .agg (V4 z0 z1 z2 zw).toArray), (1, .int .i64 (i : Int)), (2, .int .i64 (k : Int)), (3, .int .i64 (s : Int))] Try.func108 rfl Try.ntmps108 rfl rfl (zD (zB (kA rfl rfl ?_)))
 intro b4
 refine zE rfl rfl (zE rfl rfl (zA (zC (zD (zD (zB (zF rfl rfl (zA (zC (zS (zD (zB (zI rfl rfl rfl jY ?_)))))))))))))
 refine zE rfl rfl (zA (zC (zN rfl (fun hc0 => ?_) (fun hc0 => ?_))))
 ·refine zD (zB (zF rfl rfl (zF rfl rfl (zL rfl rfl F.fi95_0 F.ti92 (zB5 (j := i) rfl rfl rfl Try.underlying92 F.ti3 rfl hi (kN (v := .int .i64 (([z0, z1, z2].getD i 0 : Nat) : Int)) rfl rfl F.one3 (fun a w ha => qH (ha.mem_blk (InB.mem (b := b4) (o := .cells (V4 z0 z1 z2 zw).toArray 95 (0, 0)))) (by rw [Nat.zero_add, Nat.mul_one]; exact zF5 z0 z1 z2 _ i hi)) ?_))))))
  have hmn : [z0, z1, z2].getD i 0 <= 4 := zIg hz0 hz1 hz2 i
  refine zPc rfl rfl rfl ?_
  rw [zW3]
  exact zE rfl rfl (zA (zC (zD (zB (zF rfl rfl (kG (vs := [(0, _)]) (l' := [_]) rfl rfl F.ti174 F.pl174 (.cons rfl rfl (.nil _)) rfl (xI rfl rfl Try.underlying174 rfl (zF rfl rfl (zF rfl rfl (zI (v := .int .i64 ((s - min s ([z0, z1, z2].getD i 0) : Nat) : Int)) rfl rfl rfl (fun w => xZ w (by rw [zT _ om om]; omega)) (zE rfl rfl (zE rfl rfl (zA (zC (zY (jW (jB (jJ rfl (fun a w ha => vT rfl rfl rfl ha) (fun a w ha => ⟨by rw [actOf0 hc0]; first | rfl | skip, ha.grown nsl⟩)))))))))))))))))))
 ·refine zD (zB (zI rfl rfl rfl jY ?_))
  refine zE rfl rfl (zA (zC (zN rfl (fun hc1 => ?_) (fun hc1 => ?_))))
  ·exact zD (zB (kG (vs := []) (l' := []) rfl rfl F.ti165 F.pl165 (.nil _) rfl (xI rfl rfl Try.underlying165 rfl (zF rfl rfl (zE rfl rfl (zE rfl rfl (zA (zC (zY (jW (jB (jJ rfl (fun a w ha => vT rfl rfl rfl ha) (fun a w ha => ⟨by rw [actOf2 hc1]; first | rfl | skip, ha.grown nsl⟩)))))))))))))
  ·refine zD (zB (zI rfl rfl rfl jY ?_))
   refine zE rfl rfl (zA (zC (zN rfl (fun hc2 => ?_) (fun hc2 => ?_))))
   ·exact zD (zB (kG (vs := []) (l' := []) rfl rfl F.ti166 F.pl166 (.nil _) rfl (xI rfl rfl Try.underlying166 rfl (zF rfl rfl (zE rfl rfl (zE rfl rfl (zA (zC (zY (jW (jB (jJ rfl (fun a w ha => vT rfl rfl rfl ha) (fun a w ha => ⟨by rw [actOf3 hc2]; first | rfl | skip, ha.grown nsl⟩)))))))))))))
   ·exact zQ (zJ (zC (zD (zB (kG (vs := []) (l' := []) rfl rfl F.ti175 F.pl175 (.nil _) rfl (xI rfl rfl Try.underlying175 rfl (zF rfl rfl (zE rfl rfl (zE rfl rfl (zA (zC (zY (jJ rfl (fun a w ha => vT rfl rfl rfl ha) (fun a w ha => ⟨by rw [actOf1 hc0 hc1 hc2]; first | rfl | skip, ha.grown nsl⟩))))))))))))))

end Go.Proofs.Yteppiphdbondeaa.N
namespace Go.Proofs.Yteppiphdbondeaa.N
open Go Go.RowKit Go.Proofs
set_option linter.unusedSectionVars false
variable {P : Program} {args : Array Operand} {f t : Nat} {name : String} {rcv rv : Value} {ts : Array TypeId} {vs : List Value} {x : Operand} {α β : Type}
def pureOf {α : Type} (P : Program) : Sem α -> Option α
 | .pure a => some a
 | .program k => pureOf P (k P)
 | _ => none
theorem zIo {s : Sem α} {x : α} (h : pureOf P s = some x) (w : World) : s.run P w = .ok x w := by
 induction s with
 | pure a => cases h; rfl
 | program k ih => exact ih P h
 | _ => cases h
theorem zOc {s : Sem α} {x : α} {f : α -> Sem β} (h : pureOf P s = some x) (hf : Tame P (f x)) : Tame P (s >>= f) := by
 show Tame P (s.bind f)
 induction s with
 | pure a => cases h; exact hf
 | program k ih => exact ih P h
 | _ => cases h
variable [I : Sys]
section
variable {C : Ctx} {fr : List (Nat × Value)} {hp hp' : List Res} {ops : Array Oper} {Q : Exit -> Act -> World -> Prop} {rest : List Oper} {d : Nat} {ty : TypeId} {pos : String} {after : Array Edge}
theorem zQv {X : Type} {p : X -> Prop} {val : X -> Value} {rs : X -> List Res} (hd : Nat.blt d C.N = true)
  (hx : ev fr x = some (.iface t rv)) (hargs : args.toList.map (ev fr) = vs.map some) (hm : pureOf C.P (Go.method (C.P.types.size + Made.depth) t rv name) = some (f, rcv)) (hf : Enters C.P f)
  (hc : ∀ a w, At C fr hp a w -> Calls C.P f (rcv :: vs).toArray w fun e w' => ∃ y, p y ∧ e = .returned (val y) ∧ At C fr (rs y) a w')
  (k : ∀ y, p y -> Lst C ops Q rest ((d, val y) :: fr) (rs y)) : Lst C ops Q (⟨some d, .call { callee := .invoke x name, args := args, argTypes := ts }, ty, pos, after, none⟩ :: rest) fr hp := by
 refine xH rfl fun a w ha => ?_
 have e1 : (#[Value.iface t rv] ++ vs.toArray)[0]? = some (.iface t rv) := by simp
 have e2 : (#[Value.iface t rv] ++ vs.toArray).extract 1 (#[Value.iface t rv] ++ vs.toArray).size = vs.toArray := by simp
 have e3 : #[rcv] ++ vs.toArray = (rcv :: vs).toArray := by simp
 have he : execOp a.eval ⟨some d, .call { callee := .invoke x name, args := args, argTypes := ts }, ty, pos, after, none⟩ = ((program : Sem Program) >>= fun P => Go.method (P.types.size + Made.depth) t rv name >>= fun y => callFunc y.1 (#[y.2] ++ vs.toArray)) := by
  simp only [execOp, resolve, vY ha hargs, ha.eval hx, pure_bind, invoke, e1, e2, callMethod]
 have hm' : pureOf C.P ((program : Sem Program) >>= fun P => Go.method (P.types.size + Made.depth) t rv name) = some (f, rcv) := hm
 have hr : (execOp a.eval ⟨some d, .call { callee := .invoke x name, args := args, argTypes := ts }, ty, pos, after, none⟩).run C.P w = .ok (.enter f (rcv :: vs).toArray) w := by
  rw [he, <- bind_assoc, Sem.run_bind, zIo hm' w, Result.andThen_ok, e3]
  exact hf.1 _ w
 refine ⟨by rw [he, <- bind_assoc]; exact zOc hm' (hf.2 _), ?_⟩
 rw [hr]
 refine (hc a w ha).mono ?_
 rintro e w' ⟨y, h1, rfl, h2⟩
 exact k y h1 _ _ (h2.put (kC hd) _)
theorem zBb {v : Value} (hd : Nat.blt d C.N = true)
  (hx : ev fr x = some (.iface t rv)) (hargs : args.toList.map (ev fr) = vs.map some) (hm : pureOf C.P (Go.method (C.P.types.size + Made.depth) t rv name) = some (f, rcv)) (hf : Enters C.P f)
  (hc : ∀ a w, At C fr hp a w -> Calls C.P f (rcv :: vs).toArray w fun e w' => e = .returned v ∧ Grew w w' [])
  (k : Lst C ops Q rest ((d, v) :: fr) hp) : Lst C ops Q (⟨some d, .call { callee := .invoke x name, args := args, argTypes := ts }, ty, pos, after, none⟩ :: rest) fr hp := by
 refine zQv (X := Unit) (p := fun _ => True) (val := fun _ => v) (rs := fun _ => hp) hd hx hargs hm hf (fun a w ha => (hc a w ha).mono fun e w' ⟨h1, h2⟩ => ⟨(), trivial, h1, ?_⟩) (fun _ _ => k)
 have := ha.more h2
 simpa using this
theorem zG5 {s : Sem α} {x : α} {f : α -> Sem β} {y : β} (h : pureOf P s = some x) (hf : pureOf P (f x) = some y) : pureOf P (s >>= f) = some y := by
 show pureOf P (s.bind f) = some y
 induction s with
 | pure a => cases h; exact hf
 | program k ih => exact ih P h
 | _ => cases h
theorem zPr {s : Sem α} {x : α} (h : pureOf P s = some x) : Tame P s := by
 induction s with
 | pure a => trivial
 | program k ih => exact ih P h
 | _ => cases h
theorem zE0 {dst : Option Tmp} {aS : List Value} {cs : List Value} (hx : ev fr x = some (.func (.method name) (Value.iface t rv :: aS).toArray cs.toArray))
  (hn : pureOf C.P (Go.nilAhead (C.P.types.size + Made.depth) t rv name) = some (some false)) : Yld C ⟨dst, .nilCheck x, ty, pos, after, none⟩ fr hp (.func (.method name) (Value.iface t rv :: aS).toArray cs.toArray) := by
 have h : ∀ a : Act, a.eval x = .func (.method name) (Value.iface t rv :: aS).toArray cs.toArray -> pureOf C.P (execOp a.eval ⟨dst, .nilCheck x, ty, pos, after, none⟩) = some (.value (.func (.method name) (Value.iface t rv :: aS).toArray cs.toArray)) := by
  intro a ha
  simp only [execOp, ha, List.getElem?_toArray, List.getElem?_cons_zero]
  refine zG5 (s := (program : Sem Program)) (x := C.P) rfl (zG5 hn ?_)
  rfl
 exact ⟨rfl, fun a w ha => ⟨zPr (h a (ha.eval hx)), zIo (h a (ha.eval hx)) w⟩⟩
end
end Go.Proofs.Yteppiphdbondeaa.N
namespace Go.Proofs.Yteppiphdbondeaa.N
open Go Go.RowKit Go.Proofs
set_option linter.unusedSectionVars false
variable {i k s : Nat} {m : Mor} {x : Operand}
def aftOf (f : Flt) (now i kind s : Nat) (m : Mor) : Nat := if kind = 0 then now - min s (m.s.getD i 0) else if kind = 2 then min f.power (now + f.gain) else if kind = 3 then f.power else now
theorem Act.m0 (n : Int) : pureOf Try.prog (Go.method (Try.prog.types.size + Made.depth) 174 (.agg #[.int .i64 n]) "muscovado/char.after") = some (133, .agg #[.int .i64 n]) := by kernel_rfl
theorem Act.m2 : pureOf Try.prog (Go.method (Try.prog.types.size + Made.depth) 165 (.agg #[]) "muscovado/char.after") = some (131, .agg #[]) := by kernel_rfl
theorem Act.m3 : pureOf Try.prog (Go.method (Try.prog.types.size + Made.depth) 166 (.agg #[]) "muscovado/char.after") = some (132, .agg #[]) := by kernel_rfl
theorem Act.m1 : pureOf Try.prog (Go.method (Try.prog.types.size + Made.depth) 175 (.agg #[]) "muscovado/char.after") = some (134, .agg #[]) := by kernel_rfl
theorem Act.n0 (n : Int) : pureOf Try.prog (Go.nilAhead (Try.prog.types.size + Made.depth) 174 (.agg #[.int .i64 n]) "muscovado/char.after") = some (some false) := by kernel_rfl
theorem Act.n2 : pureOf Try.prog (Go.nilAhead (Try.prog.types.size + Made.depth) 165 (.agg #[]) "muscovado/char.after") = some (some false) := by kernel_rfl
theorem Act.n3 : pureOf Try.prog (Go.nilAhead (Try.prog.types.size + Made.depth) 166 (.agg #[]) "muscovado/char.after") = some (some false) := by kernel_rfl
theorem Act.n1 : pureOf Try.prog (Go.nilAhead (Try.prog.types.size + Made.depth) 175 (.agg #[]) "muscovado/char.after") = some (some false) := by kernel_rfl
variable [I : Sys]
section
variable {B N : Nat} {w0 : World} {ds : List Deferred} {fr : List (Nat × Value)} {hp hp' : List Res} {ops : Array Oper} {Q : Exit -> Act -> World -> Prop} {rest : List Oper} {d : Nat} {ty : TypeId} {pos : String} {after : Array Edge}
theorem zK7 {dst : Option Tmp} (hx : ev fr x = some (.func (.method "muscovado/char.after") [(actOf m i k s).1].toArray [].toArray)) : Yld ⟨Try.prog, B, w0, N, ds⟩ ⟨dst, .nilCheck x, ty, pos, after, none⟩ fr hp (.func (.method "muscovado/char.after") [(actOf m i k s).1].toArray [].toArray) := by
 unfold actOf at hx ⊢
 split at hx
 ·rename_i h; rw [if_pos h]; exact zE0 hx (Act.n0 _)
 ·rename_i h0; rw [if_neg h0]
  split at hx
  ·rename_i h; rw [if_pos h]; exact zE0 hx Act.n2
  ·rename_i h2; rw [if_neg h2]
   split at hx
   ·rename_i h; rw [if_pos h]; exact zE0 hx Act.n3
   ·rename_i h3; rw [if_neg h3]; exact zE0 hx Act.n1
theorem zSl {now : Nat} {f : Flt} {args : Array Operand} {ts : Array TypeId} (hd : Nat.blt d N = true) (hx : ev fr x = some (actOf m i k s).1)
  (hargs : args.toList.map (ev fr) = [Value.agg [.int .i64 (f.power : Int), .int .i64 (f.gain : Int), .int .i64 (f.now : Int), .bool f.washed].toArray, .int .i64 (now : Int)].map some) (hf : FltOk f) (hn : now <= 4) (hm : min s (m.s.getD i 0) <= now)
  (kk : Lst ⟨Try.prog, B, w0, N, ds⟩ ops Q rest ((d, .int .i64 ((aftOf f now i k s m : Nat) : Int)) :: fr) hp) : Lst ⟨Try.prog, B, w0, N, ds⟩ ops Q (⟨some d, .call { callee := .invoke x "muscovado/char.after", args := args, argTypes := ts }, ty, pos, after, none⟩ :: rest) fr hp := by
 unfold actOf at hx
 unfold aftOf at kk
 split at hx
 ·rename_i h
  rw [if_pos h] at kk
  exact zBb hd hx hargs (Act.m0 _) (jD Try.func133 rfl kr) (fun a w ha => zZi f now hf hn _ hm w) kk
 ·rename_i h0
  rw [if_neg h0] at kk
  split at hx
  ·rename_i h
   rw [if_pos h] at kk
   exact zBb hd hx hargs Act.m2 (jD Try.func131 rfl kr) (fun a w ha => zX6 f now hf hn w) kk
  ·rename_i h2
   rw [if_neg h2] at kk
   split at hx
   ·rename_i h
    rw [if_pos h] at kk
    exact zBb hd hx hargs Act.m3 (jD Try.func132 rfl kr) (fun a w ha => zYb f now hf hn w) kk
   ·rename_i h3
    rw [if_neg h3] at kk
    exact zBb hd hx hargs Act.m1 (jD Try.func134 rfl kr) (fun a w ha => zYc f now hf hn w) kk
end
theorem zVa (m : Mor) (i k s : Nat) (w : World) : (Instr.typeAssert (actOf m i k s).1 161 165 true).run Try.prog w = .ok (.tuple [.agg #[], .bool (decide ((k : Int) = 2))].toArray) w := by
 unfold actOf
 split
 ·rename_i h; subst h; simp [Instr.typeAssert, go_sem]
 ·split
  ·rename_i h; subst h; simp [Instr.typeAssert, go_sem]
  ·rename_i h0 h2
   have e : decide ((k : Int) = 2) = false := decide_eq_false om
   rw [e]
   split
   ·simp [Instr.typeAssert, go_sem]
   ·simp [Instr.typeAssert, go_sem]
theorem zTy (m : Mor) (i k s : Nat) (w : World) : (Instr.typeAssert (actOf m i k s).1 161 166 true).run Try.prog w = .ok (.tuple [.agg #[], .bool (decide ((k : Int) = 3))].toArray) w := by
 unfold actOf
 split
 ·rename_i h; subst h; simp [Instr.typeAssert, go_sem]
 ·split
  ·rename_i h; subst h; simp [Instr.typeAssert, go_sem]
  ·split
   ·rename_i h; subst h; simp [Instr.typeAssert, go_sem]
   ·rename_i h0 h2 h3
    have e : decide ((k : Int) = 3) = false := decide_eq_false om
    rw [e]
    simp [Instr.typeAssert, go_sem]
end Go.Proofs.Yteppiphdbondeaa.N
namespace Go.Proofs.Yteppiphdbondeaa.N
open Go Go.RowKit Go.Proofs
set_option linter.unusedSectionVars false
variable {acts : List Nat} {fs : List Flt} {k kiln sugar x : Nat} {m : Mor}
theorem zUs {f : Flt} {now i kind s : Nat} (hf : FltOk f) (hn : now <= 4) : aftOf f now i kind s m <= 4 := by
 obtain ⟨_, h2, _, _⟩ := hf
 unfold aftOf
 split
 ·omega
 ·split
  ·omega
  ·split <;> omega
theorem zC0 (fs : List Flt) (m : Mor) (acts : List Nat) (sugar k : Nat) : dRun fs m acts sugar (k + 1) = dStep fs m (dRun fs m acts sugar k) k (acts.getD k 0) := by
 unfold dRun
 rw [List.range_succ, List.foldl_append]
 rfl
theorem zGa (fs : List Flt) (m : Mor) (st : Nat × Mor) (i kind : Nat) : dStep fs m st i kind = ((actOf m i kind st.1).2, ⟨st.2.s.set i (aftOf (fs.getD i default) (m.s.getD i 0) i kind st.1 m), if kind = 2 then wWith st.2.w i else if kind = 3 then wOut st.2.w i else st.2.w⟩) := by
 unfold dStep actOf aftOf
 by_cases h0 : kind = 0
 ·subst h0; simp
 ·by_cases h2 : kind = 2
  ·subst h2; simp
  ·by_cases h3 : kind = 3
   ·subst h3; simp
   ·simp [h0, h2, h3]
theorem MOk.set (h : MOk m) {i x w : Nat} (hx : x <= 4) (hw : w < 8) : MOk ⟨m.s.set i x, w⟩ :=
 ⟨by simp [h.three], fun y hy => (List.mem_or_eq_of_mem_set hy).elim (h.small y) fun e => e ▸ hx, hw⟩
theorem MOk.getD (h : MOk m) (i : Nat) : m.s.getD i 0 <= 4 := by
 rw [List.getD_eq_getElem?_getD]
 cases hi : m.s[i]? with
 | none => exact Nat.zero_le _
 | some x => exact h.small x (List.mem_of_getElem? hi)
theorem zJl (hf : ∀ f ∈ fs, FltOk f) (hm : MOk m) : ∀ k, k <= fs.length -> k <= 3 -> MOk (dRun fs m acts sugar k).2 ∧ (dRun fs m acts sugar k).1 <= sugar := by
 intro k
 induction k with
 | zero => exact fun _ _ => ⟨hm, Nat.le_refl _⟩
 | succ k ih =>
  intro hk h3
  obtain ⟨h1, h2⟩ := ih om om
  obtain ⟨x, hx⟩ : ∃ x, fs[k]? = some x := ⟨_, List.getElem?_eq_getElem om⟩
  have e : fs.getD k default = x := by rw [List.getD_eq_getElem?_getD, hx]; rfl
  rw [zC0, zGa, e]
  refine ⟨h1.set (zUs (hf x (List.mem_of_getElem? hx)) (hm.getD k)) ?_, ?_⟩
  ·split
   ·exact zNf h1.w om
   ·split
    ·exact zV3 h1.w om
    ·exact h1.w
  ·unfold actOf
   dsimp only
   split
   ·dsimp only; omega
   ·split
    ·exact h2
    ·split <;> exact h2
theorem zNp (hx : acts[k]? = some x) (h : barred m acts k = false) (hn : (decide ((x : Int) = 2) && m.w.testBit k) = false) : barred m acts (k + 1) = false := by
 unfold barred at h ⊢
 have e : acts.getD k 0 = x := by rw [List.getD_eq_getElem?_getD, hx]; rfl
 rw [List.range_succ, List.any_append, h]
 simp only [List.any_cons, List.any_nil, Bool.or_false, Bool.false_or, e]
 have : (x == 2) = decide ((x : Int) = 2) := by
  by_cases h2 : x = 2
  ·subst h2; rfl
  ·have h3 : ¬ (x : Int) = 2 := by omega
   simp [h2, h3]
 rw [this]
 exact hn
theorem zRw (hx : acts[k]? = some x) (hn : (decide ((x : Int) = 2) && m.w.testBit k) = true) : barred m acts acts.length = true := by
 unfold barred
 rw [List.any_eq_true]
 have hlt := (List.getElem?_eq_some_iff.1 hx).1
 have e : acts.getD k 0 = x := by rw [List.getD_eq_getElem?_getD, hx]; rfl
 refine ⟨k, List.mem_range.2 hlt, ?_⟩
 rw [e]
 simp only [Bool.and_eq_true, decide_eq_true_eq] at hn
 have h2 : x = 2 := by omega
 rw [hn.2, h2]
 rfl
theorem zQ3 (hx : acts[k]? = some x) : firesN acts (k + 1) = firesN acts k + if (x : Int) = 3 then 1 else 0 := by
 unfold firesN
 rw [List.take_add_one, hx, List.countP_append]
 simp only [Option.toList, List.countP_cons, List.countP_nil, Nat.zero_add]
 congr 1
 by_cases h : x = 3
 ·subst h; rfl
 ·have h3 : ¬ (x : Int) = 3 := by omega
  simp [h, h3]
theorem zUa (acts : List Nat) (k : Nat) : firesN acts k <= k := by
 unfold firesN
 exact Nat.le_trans List.countP_le_length (by rw [List.length_take]; omega)
def dayEnd (x : Nat × Mor) : Ending := if x.1 = 0 then .returned x.2.val else .panicked [{ v := .iface 141 (.agg [.int .i64 (x.1 : Int)].toArray), recovered := false }]
theorem day12 (h : barred m acts acts.length = true) : dayE fs kiln m acts sugar = (12, m) := by unfold dayE; rw [if_pos h]
theorem day6 (h : barred m acts acts.length = false) (h2 : kiln < firesN acts acts.length) : dayE fs kiln m acts sugar = (6, m) := by unfold dayE; rw [if_neg (by rw [h]; simp), if_pos h2]
theorem day9 {fs : List Flt} {kiln : Nat} {m : Mor} {acts : List Nat} {sugar : Nat} (h : barred m acts acts.length = false) (h2 : ¬ kiln < firesN acts acts.length) (h3 : 0 < (dRun fs m acts sugar acts.length).1) : dayE fs kiln m acts sugar = (9, m) := by unfold dayE; rw [if_neg (by rw [h]; simp), if_neg h2, if_pos h3]
theorem day0 {fs : List Flt} {kiln : Nat} {m : Mor} {acts : List Nat} {sugar : Nat} (h : barred m acts acts.length = false) (h2 : ¬ kiln < firesN acts acts.length) (h3 : ¬ 0 < (dRun fs m acts sugar acts.length).1) : dayE fs kiln m acts sugar = (0, (dRun fs m acts sugar acts.length).2) := by unfold dayE; rw [if_neg (by rw [h]; simp), if_neg h2, if_neg h3]
theorem wC (hf : ∀ f ∈ fs, FltOk f) (hm : MOk m) (hl : acts.length <= fs.length) (h3 : fs.length <= 3) : MOk (dayE fs kiln m acts sugar).2 ∧ ((dayE fs kiln m acts sugar).1 ≠ 0 -> (dayE fs kiln m acts sugar).2 = m) := by
 have h := (zJl (acts := acts) (sugar := sugar) hf hm acts.length hl om).1
 unfold dayE
 split
 ·exact ⟨hm, fun _ => rfl⟩
 ·split
  ·exact ⟨hm, fun _ => rfl⟩
  ·split
   ·exact ⟨hm, fun _ => rfl⟩
   ·exact ⟨h, fun x => absurd rfl x⟩
end Go.Proofs.Yteppiphdbondeaa.N
namespace Go.Proofs.Yteppiphdbondeaa.N
open Go Go.RowKit Go.Proofs
set_option linter.unusedSectionVars false
variable [I : Sys]
theorem F.ent107 : Enters Try.prog 107 := jD Try.func107 rfl (by kernel_rfl)
theorem F.ent108 : Enters Try.prog 108 := jD Try.func108 rfl (by kernel_rfl)
theorem F.ent109 : Enters Try.prog 109 := jD Try.func109 rfl (by kernel_rfl)
theorem F.fi27_1 : FI Try.prog 27 1 3 1 := ⟨_, _, Try.underlying27, rfl, rfl, rfl⟩
theorem F.follows : Try.prog.follows .mixedOrders = true := by kernel_rfl
theorem F.pl141 : Places Try.prog 141 [(0, 1)] := .inl ⟨_, Try.underlying141, by kernel_rfl⟩
theorem F.ti141 : TI Try.prog 141 (.agg [.int .i64 0].toArray) 1 8 := TI.of (by kernel_rfl)
theorem zZe (fA dA aA : Option Addr) (fc nd dc ac kiln : Nat) (fs : List Flt) (h3 : fs.length <= 3) (hf : ∀ f ∈ fs, FltOk f) (z0 z1 z2 zw : Nat) (hz0 : z0 <= 4) (hz1 : z1 <= 4) (hz2 : z2 <= 4) (hzw : zw < 8) (acts : List Nat) (hla : acts.length <= fs.length) (sugar : Nat) (hs : sugar <= 12) (w : World) (hF : RdL Flt.cells 4 w fA fs) (hA : RdL ncell 1 w aA acts) : Calls Try.prog 87 #[.agg (CA fA fs.length fc kiln dA nd dc).toArray, .agg (V4 z0 z1 z2 zw).toArray, .slice aA acts.length ac, .int .i64 (sugar : Int)] w fun e w' => e = dayEnd (dayE fs kiln (⟨[z0, z1, z2], zw⟩ : Mor) acts sugar) ∧ Grew w w' [] := by
 have hm : MOk (⟨[z0, z1, z2], zw⟩ : Mor) := ⟨rfl, (by simp; omega), hzw⟩
 refine enter (N := 102) [(0, .agg (CA fA fs.length fc kiln dA nd dc).toArray), (1, .agg (V4 z0 z1 z2 zw).toArray), (2, .slice aA acts.length ac), (3, .int .i64 (sugar : Int))] Try.func87 rfl Try.ntmps87 rfl rfl (zD (zB (kA rfl rfl ?_)))
 intro b4
 refine kA rfl rfl ?_
 intro b5
 refine zX rfl F.ti95 ?_
 intro b8
 refine zA (zC (zD (zB (zE rfl rfl (zA (zC (zD (zD (zB (zF rfl rfl (jX rfl rfl Try.underlying22 (zF rfl rfl (zA (zC (zS (xY (G := Nat) (fun k => k <= acts.length ∧ barred (⟨[z0, z1, z2], zw⟩ : Mor) acts k = false) (fun k => acts.length - k) (fun k => [(3, .int .i64 (sugar : Int)), (4, pt b4), (5, pt b5), (2, .slice aA acts.length ac), (8, pt b8), (9, .int .i64 ((firesN acts k : Nat) : Int)), (16, .slice aA acts.length ac), (17, .int .i64 (acts.length : Int)), (18, .int .i64 (k : Int))]) (fun k => [.blk b8 (.cells [.int .i64 0, .int .i64 0, .int .i64 0, .int .u8 0].toArray 95 (0, 0)), .blk b5 (.cells (V4 z0 z1 z2 zw).toArray 95 (0, 0)), .blk b4 (.cells (CA fA fs.length fc kiln dA nd dc).toArray 77 (0, 0))]) 0 ⟨Nat.zero_le _, rfl⟩ sbn sbl ?_))))))))))))))))
 intro k hk
 (try dsimp only at hk ⊢)
 refine zD (zB (zI rfl rfl rfl jR ?_))
 refine zA (zC (zD (zN rfl (fun hc0 => ?_) (fun hc0 => ?_))))
 ·have hk' : k < acts.length := by omega
  obtain ⟨b, o, rfl, hb, hcell⟩ := hA om
  obtain ⟨x, hx⟩ : ∃ x, acts[k]? = some x := ⟨_, List.getElem?_eq_getElem hk'⟩
  refine zQ (zC (zD (zS (zD (zB (zF rfl rfl (qE (j := k) rfl rfl rfl Try.underlying22 F.ti3 rfl hk' (kN (v := .int .i64 (x : Int)) rfl rfl F.one3 (fun a w ha => ha.old (hcell k x hx 0 _ rfl) hb) ?_))))))))
  refine zE rfl rfl (zE rfl rfl (zA (zC (zD (zD (zB (zAd 8 30 (.bool (decide ((x : Int) = 2) && zw.testBit k)) ?_ ?_)))))))
  ·refine zF rfl rfl (zI rfl rfl rfl jY ?_)
   refine zF rfl rfl (vS (t := 25) rfl (fun hg25 => ?_) (fun hg25 => ?_))
   ·exact zM rfl rfl (zL rfl rfl F.fi95_1 F.ti93 (zM rfl rfl (zR rfl rfl F.one93 (zM rfl rfl (zF rfl rfl (zM rfl rfl (jM (vs := [_, _]) rfl rfl F.ent107 (fun a w ha => jAa zw k hzw om w) (jI rfl rfl rfl (zA (xW (.cons (by first | (simp_all [look]; done) | (simp_all [look]; omega)) sbn) sbl))))))))))
   ·exact jH rfl rfl rfl (jH rfl rfl rfl (jH rfl rfl rfl (jH rfl rfl rfl (jQ rfl rfl rfl (zA (xW (.cons (by first | (simp_all [look]; done) | (simp_all [look]; omega)) sbn) sbl))))))
  refine zA (zC (qD rfl (fun hc1 => ?_) (fun hc1 => ?_)))
  ·exact zB (kG (vs := [(0, _)]) (l' := [_]) rfl rfl F.ti141 F.pl141 (.cons rfl rfl (.nil _)) rfl (xI rfl rfl Try.underlying141 rfl (zF2 rfl (vP (zD2 (vP (vP (zD2 (vP (zH0 rfl (fun a w ha => ⟨by rw [day12 (zRw hx hc1)]; rfl, ha.grown nsl⟩)))))))))))
  ·have hbk := zNp hx hk.2 hc1
   have hfk := zQ3 hx
   have hfl := zUa acts k
   refine zQ (zC (zD (zB (zF rfl rfl (zI rfl rfl rfl jY ?_)))))
   refine zA (zC (zN rfl (fun hc2 => ?_) (fun hc2 => ?_)))
   ·refine zB (zF rfl rfl (zI (v := .int .i64 ((firesN acts k + 1 : Nat) : Int)) rfl rfl rfl (fun w => jK w (by rw [zT _ om om]; omega)) (zE rfl rfl (zA (zJ (zC (zB (zI rfl rfl rfl (fun w => jK w (zT _ om om)) (zF rfl rfl (zA ?_))))))))))
    rw [if_pos hc2] at hfk
    refine qY (k + 1) ⟨by omega, hbk⟩ tdo (by (try dsimp only); rw [hfk]; repeat (first | exact Sub.nil _ | refine Sub.cons rfl ?_)) sbl
   ·refine zQ (zJ (zC (zB (zI rfl rfl rfl (fun w => jK w (zT _ om om)) (zF rfl rfl (zA ?_))))))
    rw [if_neg hc2, Nat.add_zero] at hfk
    refine qY (k + 1) ⟨by omega, hbk⟩ tdo (by (try dsimp only); rw [hfk]; repeat (first | exact Sub.nil _ | refine Sub.cons rfl ?_)) sbl
 ·obtain ⟨hk, hbar⟩ := hk
  obtain rfl : k = acts.length := by omega
  refine jU (zO (zO (jF (zC (zD (zD (zB (zF rfl rfl (zL rfl rfl F.fi77_0 F.ti27 (zL rfl rfl F.fi27_1 F.ti3 (zR rfl rfl F.one3 (zI rfl rfl rfl zCi ?_))))))))))))
  refine zA (zC (zN rfl (fun hc3 => ?_) (fun hc3 => ?_)))
  ·exact zB (kG (vs := [(0, _)]) (l' := [_]) rfl rfl F.ti141 F.pl141 (.cons rfl rfl (.nil _)) rfl (xI rfl rfl Try.underlying141 rfl (zF2 rfl (vP (zH0 rfl (fun a w ha => ⟨by rw [day6 hbar om]; rfl, ha.grown nsl⟩))))))
  ·have hkiln : ¬ kiln < firesN acts acts.length := by omega
   refine zQ (zC (zD (zB (jE rfl rfl F.agg95 F.ti95 (zX rfl F.ti95 ?_)))))
   intro b12
   refine zH rfl rfl F.ti95 rfl (zA (zC (zD (zD (zB (zF rfl rfl (jX rfl rfl Try.underlying22 (zF rfl rfl (zA (zC (zS (xY (G := Nat) (fun k => k <= acts.length) (fun k => acts.length - k) (fun k => [(3, .int .i64 (((dRun fs (⟨[z0, z1, z2], zw⟩ : Mor) acts sugar k).1 : Nat) : Int)), (4, pt b4), (5, pt b5), (8, pt b8), (12, pt b12), (46, .slice aA acts.length ac), (47, .int .i64 (acts.length : Int)), (48, .int .i64 (k : Int))]) (fun k => [.blk b12 (.cells (Mor.cells (dRun fs (⟨[z0, z1, z2], zw⟩ : Mor) acts sugar k).2).toArray 95 (0, 0)), .blk b8 (.cells [.int .i64 0, .int .i64 0, .int .i64 0, .int .u8 0].toArray 95 (0, 0)), .blk b5 (.cells (V4 z0 z1 z2 zw).toArray 95 (0, 0)), .blk b4 (.cells (CA fA fs.length fc kiln dA nd dc).toArray 77 (0, 0))]) 0 (Nat.zero_le _) sbn sbl ?_))))))))))))
   intro k hk
   (try dsimp only at hk ⊢)
   refine zD (zB (zI rfl rfl rfl jR ?_))
   refine zA (zC (zD (zN rfl (fun hc4 => ?_) (fun hc4 => ?_))))
   ·have hk' : k < acts.length := by omega
    obtain ⟨b, o, rfl, hb, hcell⟩ := hA om
    obtain ⟨x, hx⟩ : ∃ x, acts[k]? = some x := ⟨_, List.getElem?_eq_getElem hk'⟩
    have hk3 : k < fs.length := by omega
    obtain ⟨f, hfx⟩ : ∃ f, fs[k]? = some f := ⟨_, List.getElem?_eq_getElem hk3⟩
    have hfok := hf f (List.mem_of_getElem? hfx)
    obtain ⟨bf, bo, rfl, hbf, hcf⟩ := hF om
    have hnx := zC0 fs (⟨[z0, z1, z2], zw⟩ : Mor) acts sugar k
    obtain ⟨hmk, hsk⟩ := zJl (sugar := sugar) (acts := acts) hf hm k om om
    rw [zGa, show acts.getD k 0 = x from by rw [List.getD_eq_getElem?_getD, hx]; rfl, show fs.getD k default = f from by rw [List.getD_eq_getElem?_getD, hfx]; rfl] at hnx
    generalize hst : dRun fs (⟨[z0, z1, z2], zw⟩ : Mor) acts sugar k = st at hnx hmk hsk ⊢
    obtain ⟨sk, nk⟩ := st
    obtain ⟨n0, n1, n2, nw, rfl, hn0, hn1, hn2, hnw⟩ := hmk.form
    have hgm : [z0, z1, z2].getD k 0 <= 4 := zIg hz0 hz1 hz2 k
    dsimp only at hnx hsk ⊢
    have hmi : min sk ([z0, z1, z2].getD k 0) <= [z0, z1, z2].getD k 0 := Nat.min_le_right ..
    obtain ⟨y0, y1, y2, hy1, hy2⟩ := zKc n0 n1 n2 (.int .u8 (nw : Int)) nw k (aftOf f ([z0, z1, z2].getD k 0) k x sk (⟨[z0, z1, z2], zw⟩ : Mor)) rfl om
    rw [hy1] at hnx
    simp only [Mor.cells, List.map_cons, List.map_nil, List.cons_append, List.nil_append]
    refine zQ (zC (zD (zS (zD (zB (zF rfl rfl (qE (j := k) rfl rfl rfl Try.underlying22 F.ti3 rfl hk' (kN (v := .int .i64 (x : Int)) rfl rfl F.one3 (fun a w ha => ha.old (hcell k x hx 0 _ rfl) hb) (zE rfl rfl (zE rfl rfl (zA (zC (zD (zB (zE rfl rfl (zA (zC (zD (zB (jE rfl rfl F.agg95 F.ti95 (zF rfl rfl (zF rfl rfl (zF rfl rfl (jM (vs := [_, _, _, _]) rfl rfl F.ent108 (fun a w ha => zZ2 z0 z1 z2 zw k x sk hz0 hz1 hz2 om om w) (zF rfl rfl (zW rfl rfl rfl (zW rfl rfl rfl (zE rfl rfl (zE rfl rfl (zA (zC (zD (kD [.b b12] F.follows 19 rfl [false, false, false, false, false, false, false, false, false, false, false, false, false, false, false, false, false, false, false] rfl (zG 0 rfl rfl rfl (zP rfl) (zG 1 rfl rfl rfl (zP rfl) (zG 2 rfl rfl rfl (jA rfl F.fi77_0 F.ti27) (zG 3 rfl rfl rfl (jA rfl F.fi27_0 F.ti25) (zG 4 rfl rfl rfl (kH rfl F.one25) (zG 5 rfl rfl rfl (zP rfl) (zG 6 rfl rfl rfl (kM (j := k) rfl rfl Try.underlying25 F.ti49 rfl om) (zG 7 rfl rfl rfl (zFs (l := [.int .i64 (f.power : Int), .int .i64 (f.gain : Int), .int .i64 (f.now : Int), .bool f.washed]) rfl F.agg49 F.ti49 rfl (fun a w ha j u hu => ha.old (hcf k f hfx j u hu) hbf)) (zG 8 rfl rfl rfl (zP rfl) (zG 9 rfl rfl rfl (jA rfl F.fi95_0 F.ti92) ?_)))))))))))))))))))))))))))))))))))))))))))
    refine zG 10 rfl rfl rfl (zFe (j := k) rfl rfl Try.underlying92 F.ti3 rfl om) (zG 11 rfl rfl rfl (jP (v := .int .i64 (([z0, z1, z2].getD k 0 : Nat) : Int)) rfl F.one3 (fun a w ha => qH (ha.mem_blk (InB.mem (b := b5) (o := .cells (V4 z0 z1 z2 zw).toArray 95 (0, 0)))) (by rw [Nat.zero_add, Nat.mul_one]; exact zF5 z0 z1 z2 _ k om))) (zG 12 rfl rfl rfl (zMx (fs := [_]) (cs := []) rfl rfl) (zG 13 rfl rfl rfl (zK7 (m := (⟨[z0, z1, z2], zw⟩ : Mor)) (i := k) (k := x) (s := sk) rfl) (zG 14 rfl rfl rfl (zP rfl) (zG 16 rfl rfl rfl (jA rfl F.fi95_0 F.ti92) (an1 15 rfl (zSl (m := (⟨[z0, z1, z2], zw⟩ : Mor)) (i := k) (k := x) (s := sk) (now := [z0, z1, z2].getD k 0) (f := f) rfl rfl rfl hfok hgm hmi (zA (anb (zG 17 rfl rfl rfl (zFe (j := k) rfl rfl Try.underlying92 F.ti3 rfl om) (an1 18 rfl (zFj (cs := (V4 n0 n1 n2 nw)) (cs' := (V4 y0 y1 y2 nw)) rfl rfl F.ti3 (by simp; omega) (by rw [Nat.zero_add, Nat.mul_one]; exact hy2.symm) (.head _) (zA (anb (adn (zC (zD (zB (zF rfl rfl (zA (zC (zS (zD (zB (zB8 (r := .tuple [.agg #[], .bool (decide ((x : Int) = 2))].toArray) rfl rfl (fun w => zVa _ _ _ _ w) ?_)))))))))))))))))))))))))
    refine zW rfl rfl rfl (zW rfl rfl rfl (zA (zC (zN rfl (fun hc5 => ?_) (fun hc5 => ?_)))))
    ·refine zB (zL rfl rfl F.fi95_1 F.ti93 (zR rfl rfl F.one93 (zF rfl rfl (jM (vs := [_, _]) rfl rfl F.ent80 (fun a w ha => zRf nw k hnw om w) (zL rfl rfl F.fi95_1 F.ti93 (zH rfl rfl F.ti93 rfl (zA (zJ (zJ (zC (zB (zI rfl rfl rfl (fun w => jK w (zT _ om om)) (zF rfl rfl (zA (qY (k + 1) om tdo (by (try dsimp only); rw [hnx]; repeat (first | exact Sub.nil _ | refine Sub.cons rfl ?_)) (by (try dsimp only); rw [hnx]; dsimp only; rw [if_pos om]; simp only [List.map_cons, List.map_nil, List.cons_append, List.nil_append]; repeat (first | exact List.Sublist.refl _ | exact List.nil_sublist _ | refine List.Sublist.cons_cons _ ?_ | refine List.Sublist.cons _ ?_)))))))))))))))))
    ·refine zD (zB (zB8 (r := .tuple [.agg #[], .bool (decide ((x : Int) = 3))].toArray) rfl rfl (fun w => zTy _ _ _ _ w) ?_))
     refine zW rfl rfl rfl (zW rfl rfl rfl (zA (zC (zN rfl (fun hc6 => ?_) (fun hc6 => ?_)))))
     ·refine zB (zL rfl rfl F.fi95_1 F.ti93 (zR rfl rfl F.one93 (zF rfl rfl (jM (vs := [_, _]) rfl rfl F.ent109 (fun a w ha => zSo nw k hnw om w) (zL rfl rfl F.fi95_1 F.ti93 (zH rfl rfl F.ti93 rfl (zA (zJ (zJ (zC (zB (zI rfl rfl rfl (fun w => jK w (zT _ om om)) (zF rfl rfl (zA (qY (k + 1) om tdo (by (try dsimp only); rw [hnx]; repeat (first | exact Sub.nil _ | refine Sub.cons rfl ?_)) (by (try dsimp only); rw [hnx]; dsimp only; rw [if_neg om, if_pos om]; simp only [List.map_cons, List.map_nil, List.cons_append, List.nil_append]; repeat (first | exact List.Sublist.refl _ | exact List.nil_sublist _ | refine List.Sublist.cons_cons _ ?_ | refine List.Sublist.cons _ ?_)))))))))))))))))
     ·refine zQ (zJ (zJ (zC (zB (zI rfl rfl rfl (fun w => jK w (zT _ om om)) (zF rfl rfl (zA (qY (k + 1) om tdo (by (try dsimp only); rw [hnx]; repeat (first | exact Sub.nil _ | refine Sub.cons rfl ?_)) (by (try dsimp only); rw [hnx]; dsimp only; rw [if_neg om, if_neg om]; simp only [List.map_cons, List.map_nil, List.cons_append, List.nil_append]; repeat (first | exact List.Sublist.refl _ | exact List.nil_sublist _ | refine List.Sublist.cons_cons _ ?_ | refine List.Sublist.cons _ ?_))))))))))
   ·obtain rfl : k = acts.length := by omega
    obtain ⟨hmk, hsk⟩ := zJl (sugar := sugar) (acts := acts) hf hm acts.length om om
    have h9 := @day9 fs kiln (⟨[z0, z1, z2], zw⟩ : Mor) acts sugar hbar hkiln
    have h0 := @day0 fs kiln (⟨[z0, z1, z2], zw⟩ : Mor) acts sugar hbar hkiln
    generalize dRun fs (⟨[z0, z1, z2], zw⟩ : Mor) acts sugar acts.length = st at h9 h0 hmk hsk ⊢
    obtain ⟨sk, nk⟩ := st
    obtain ⟨n0, n1, n2, nw, rfl, hn0, hn1, hn2, hnw⟩ := hmk.form
    dsimp only at h9 h0 hsk ⊢
    simp only [Mor.cells, List.map_cons, List.map_nil, List.cons_append, List.nil_append]
    refine jU (zO (zO (jF (zC (zD (zD (zB (zF rfl rfl (zI rfl rfl rfl zCi ?_)))))))))
    refine zA (zC (zN rfl (fun hc7 => ?_) (fun hc7 => ?_)))
    ·exact zB (kG (vs := [(0, _)]) (l' := [_]) rfl rfl F.ti141 F.pl141 (.cons rfl rfl (.nil _)) rfl (xI rfl rfl Try.underlying141 rfl (zF2 rfl (vP (zH0 rfl (fun a w ha => ⟨by rw [h9 om]; rfl, ha.grown nsl⟩))))))
    ·exact zQ (zC (zD (zB (jE rfl rfl F.agg95 F.ti95 (zH rfl rfl F.ti95 rfl (zA (zC (zY (jJ rfl (fun a w ha => by exact xC (ha := ha) rfl rfl F.agg95 F.ti95 rfl) (fun a w ha => ⟨by rw [h0 om]; rfl, ha.grown nsl⟩))))))))))

variable {hp : List Res}
theorem F.fi141_0 : FI Try.prog 141 0 30 0 := ⟨_, _, Try.underlying141, rfl, rfl, rfl⟩
theorem F.ti30 : TI Try.prog 30 (.int .i64 0) 1 8 := TI.of (by kernel_rfl)
theorem F.one30 : One Try.prog 30 := ⟨by unfold aggB; rw [Try.underlying30], by rw [Try.underlying30]; simp⟩
theorem zVv (p0 p1 p2 : Option Addr) (w : World) : CallsD Try.prog 86 [.pointer p0, .pointer p1, .pointer p2].toArray .returning w fun e u w' => e = .returned (.tuple #[]) ∧ u = .returning ∧ Rl w w' := by
 refine enterS (C := ⟨Try.prog, w.heap.size, w, 0, []⟩) (vs := [.pointer p0, .pointer p1, .pointer p2]) (N := 14) [(0, .pointer p0), (1, .pointer p1), (2, .pointer p2)] (At.bare0 _ w) Try.func86 rfl Try.ntmps86 rfl rfl fun c₀ cs hu => (zMw (zPz (by simp [recoverD, hu]) rfl (zB8 (r := .tuple [.agg [.int .i64 0].toArray, .bool false].toArray) rfl rfl (fun w => by simp [Instr.typeAssert, go_sem]) (zF rfl rfl (zW rfl rfl rfl (zW rfl rfl rfl (zX rfl F.ti141 ?_)))))))
 intro b3
 refine zH rfl rfl F.ti141 rfl (zE rfl rfl (zA (zMe (zM0 (zD (zB (zF rfl rfl (zA (zC (kI rfl (zQ ?_)))))))))))
 exact fun a w' ha => ⟨ha.defs, .returning, by rw [<- hu], _, zHw (C := ⟨Try.prog, _, _, 14, _⟩) rfl ha, rfl, rfl, ha.below⟩
section
variable {B N N0 : Nat} {w0 : World} {ds0 : List Deferred} {fr fr0 : List (Nat × Value)} {a0 : Act} {w : World} {b4 b5 b8 b9 : Nat} {o4 : Obj} {z0 z1 z2 zw : Nat} {fn : Func} {R : Ending -> World -> Prop}
abbrev mcells (z0 z1 z2 zw : Nat) : List Value := (V4 z0 z1 z2 zw)
abbrev tryH (b4 b5 b8 b9 : Nat) (o4 : Obj) (z0 z1 z2 zw : Nat) (nx : List Value) (e : Int) : List Res := [.blk b9 (.cells [.int .i64 e].toArray 30 (0, 0)), .blk b8 (.cells nx.toArray 95 (0, 0)), .blk b5 (.cells (mcells z0 z1 z2 zw).toArray 95 (0, 0)), .blk b4 o4]
theorem zSj (ha0 : At ⟨Try.prog, B, w0, N0, ds0⟩ fr0 (tryH b4 b5 b8 b9 o4 z0 z1 z2 zw [.int .i64 0, .int .i64 0, .int .i64 0, .int .u8 0] 0) a0 w) (n : Int) :
  CallsD Try.prog 86 [pt b5, pt b8, pt b9].toArray (.panicking [{ v := .iface 141 (.agg [.int .i64 n].toArray), recovered := false }]) w
   fun e u w' => e = .returned (.tuple #[]) ∧ u = .panicking [{ v := .iface 141 (.agg [.int .i64 n].toArray), recovered := true }] ∧ At ⟨Try.prog, B, w0, N0, ds0⟩ fr0 (tryH b4 b5 b8 b9 o4 z0 z1 z2 zw (mcells z0 z1 z2 zw) n) a0 w' := by
 refine enterS (vs := [pt b5, pt b8, pt b9]) (N := 14) [(0, pt b5), (1, pt b8), (2, pt b9)] ha0 Try.func86 rfl Try.ntmps86 rfl rfl fun c₀ cs hu0 => (zMw (zUg (x := .iface 141 (.agg [.int .i64 n].toArray)) (cs' := { c₀ with mode := .panicking [{ v := .iface 141 (.agg [.int .i64 n].toArray), recovered := true }] } :: cs) (by simp [recoverD, hu0]) rfl (zB8 (r := .tuple [.agg [.int .i64 n].toArray, .bool true].toArray) rfl rfl (fun w => by simp [Instr.typeAssert, go_sem]) (zF rfl rfl (zW rfl rfl rfl (zW rfl rfl rfl (zX rfl F.ti141 ?_)))))))
 intro b3
 refine zH rfl rfl F.ti141 rfl (zE rfl rfl (zA (zMe (zM0 (zD (zB (zF rfl rfl (zA (zC (kX rfl (kD [.b b8, .b b9] F.follows 5 rfl [false, false, false, false, false] rfl (zG 1 rfl rfl rfl (jA rfl F.fi141_0 F.ti30) (zG 2 rfl rfl rfl (kH rfl F.one30) (an1 0 rfl (jE rfl rfl F.agg95 F.ti95 (zA (anb (an1 3 rfl (zH rfl rfl F.ti95 rfl (zA (anb (an1 4 rfl (zH rfl rfl F.ti30 rfl (zA (anb (adn ?_))))))))))))))))))))))))))
 exact fun a w' ha => ⟨ha.defs, _, rfl, _, zHw (C := ⟨Try.prog, _, _, 14, _⟩) rfl ha, rfl, rfl, (ha0.back ha).pck (.skip _ (.refl _))⟩
def tryD (b5 b8 b9 : Nat) : Deferred := { target := .fn (.func 86) [.pointer (some ⟨b5, 0, none⟩), .pointer (some ⟨b8, 0, none⟩), .pointer (some ⟨b9, 0, none⟩)].toArray, args := #[] }
theorem zIu : Invokes Try.prog (.func 86) [pt b5, pt b8, pt b9].toArray #[] 86 [pt b5, pt b8, pt b9].toArray :=
 zB7 (jD Try.func86 rfl kr) (by simp)
theorem zPq (k : ∀ a w, At ⟨Try.prog, B, w0, N, [tryD b5 b8 b9]⟩ fr hp a w -> ∃ v, ResV Try.prog fn a.tmps v w ∧ R (.returned v) w) : Ex ⟨Try.prog, B, w0, N, [tryD b5 b8 b9]⟩ (bodyPostD Try.prog fn R) .ret fr hp := by
 intro a w ha
 show Leaves Try.prog fn a.tmps R a.defers .returning w
 rw [ha.defs]
 refine zHe (by simp) zIu ((zVv _ _ _ w).mono ?_)
 rintro e u w' ⟨rfl, rfl, hr⟩
 obtain ⟨v, h1, h2⟩ := k a w' (ha.rely hr)
 exact ⟨v, h1, h2⟩
theorem zL9 {n : Int} (k : ∀ a w, At ⟨Try.prog, B, w0, N, [tryD b5 b8 b9]⟩ fr (tryH b4 b5 b8 b9 o4 z0 z1 z2 zw (mcells z0 z1 z2 zw) n) a w -> ∃ v, ResV Try.prog fn a.tmps v w ∧ R (.returned v) w) :
  Ex ⟨Try.prog, B, w0, N, [tryD b5 b8 b9]⟩ (bodyPostD Try.prog fn R) (.panic [{ v := .iface 141 (.agg [.int .i64 n].toArray), recovered := false }]) fr (tryH b4 b5 b8 b9 o4 z0 z1 z2 zw [.int .i64 0, .int .i64 0, .int .i64 0, .int .u8 0] 0) := by
 intro a w ha
 show Leaves Try.prog fn a.tmps R a.defers (.panicking [{ v := .iface 141 (.agg [.int .i64 n].toArray), recovered := false }]) w
 rw [ha.defs]
 refine zHe (by simp) zIu ((zSj ha n).mono ?_)
 rintro e u w' ⟨rfl, rfl, ha'⟩
 obtain ⟨v, h1, h2⟩ := k a _ ha'
 exact ⟨v, h1, h2⟩
theorem zEb {C : Ctx} {a : Act} {u t n m : Nat} {ty ty' ct ct' : TypeId} {z x : Value} {l : List Value} {b b' : Nat} (h : fn.results = #[.cell u ty, .cell t ty']) (hu : look fr u = some (pt b)) (hv : look fr t = some (.pointer (some ⟨b', 0, none⟩))) (ht : aggB C.P ty = true) (hi : TI C.P ty z n m) (ht' : One C.P ty')
  [hm : InB b (.cells l.toArray ct (0, 0)) hp] [hm' : InB b' (.cells [x].toArray ct' (0, 0)) hp] (hl : l.length = n) (ha : At C fr hp a w) : ResV C.P fn a.tmps ((.tuple #[.agg l.toArray, x])) w := by
 refine ⟨yP .., fun v₁ hrely => ?_⟩
 have ha := ha.rely hrely
 have h2 := ha.slots u _ hu
 have h1 := ha.slots t _ hv
 have hl' := zC6 ha ht hi hl (ct := ct) (b := b)
 have hc : v₁.cell? ⟨b', 0, none⟩ = some x := qH (ha.mem_blk hm'.mem) rfl
 have hl2 : (loadVar ty' ⟨b', 0, none⟩).run C.P v₁ = .ok x v₁ := by simp [loadVar, yU ht'.1 ht'.2, hc]
 simp only [results, h, Array.getD_eq_getD_getElem?] at h1 h2 ⊢
 simp [h1, h2, zI9, hl', hl2]
end
end Go.Proofs.Yteppiphdbondeaa.N
namespace Go.Proofs.Yteppiphdbondeaa.N
open Go Go.RowKit Go.Proofs
set_option linter.unusedSectionVars false
variable [I : Sys]
theorem F.agg77 : aggB Try.prog 77 = true := by unfold aggB; rw [Try.underlying77]
theorem F.ent87 : Enters Try.prog 87 := jD Try.func87 rfl (by kernel_rfl)
theorem F.ti77 : TI Try.prog 77 (.agg [.slice none 0 0, .int .i64 0, .slice none 0 0].toArray) 3 56 := TI.of (by kernel_rfl)
theorem zLq (fA dA aA : Option Addr) (fc nd dc ac kiln : Nat) (fs : List Flt) (h3 : fs.length <= 3) (hf : ∀ f ∈ fs, FltOk f) (z0 z1 z2 zw : Nat) (hz0 : z0 <= 4) (hz1 : z1 <= 4) (hz2 : z2 <= 4) (hzw : zw < 8) (acts : List Nat) (hla : acts.length <= fs.length) (sugar : Nat) (hs : sugar <= 12) (w : World) (hF : RdL Flt.cells 4 w fA fs) (hA : RdL ncell 1 w aA acts) : Calls Try.prog 71 #[.agg (CA fA fs.length fc kiln dA nd dc).toArray, .agg (V4 z0 z1 z2 zw).toArray, .slice aA acts.length ac, .int .i64 (sugar : Int)] w fun e w' => e = .returned (.tuple #[(dayE fs kiln (⟨[z0, z1, z2], zw⟩ : Mor) acts sugar).2.val, .int .i64 (((dayE fs kiln (⟨[z0, z1, z2], zw⟩ : Mor) acts sugar).1 : Nat) : Int)]) ∧ Grew w w' [] := by
 have hm : MOk (⟨[z0, z1, z2], zw⟩ : Mor) := ⟨rfl, (by simp; omega), hzw⟩
 refine zNj (N := 16) [(0, .agg (CA fA fs.length fc kiln dA nd dc).toArray), (1, .agg (V4 z0 z1 z2 zw).toArray), (2, .slice aA acts.length ac), (3, .int .i64 (sugar : Int))] Try.func71 rfl Try.ntmps71 rfl rfl (zD (zB (kA rfl rfl ?_)))
 intro b4
 refine kA rfl rfl ?_
 intro b5
 refine zX rfl F.ti95 ?_
 intro b8
 refine zX rfl F.ti30 ?_
 intro b9
 refine zA (zC (zD (zB (vW (fs := []) (cs := [_, _, _]) rfl rfl rfl (zKp (first := []) (cap := [_, _, _]) (vs := []) rfl rfl (zA (zC (zD (zB (jE rfl rfl F.agg77 F.ti77 (jE rfl rfl F.agg95 F.ti95 (zF rfl rfl (zF rfl rfl ?_)))))))))))))
 obtain ⟨hok2, hsame⟩ := wC (fs := fs) (kiln := kiln) (m := (⟨[z0, z1, z2], zw⟩ : Mor)) (acts := acts) (sugar := sugar) hf hm hla h3
 have hday : ∀ w, RdL Flt.cells 4 w fA fs -> RdL ncell 1 w aA acts -> Calls Try.prog 87 #[.agg (CA fA fs.length fc kiln dA nd dc).toArray, .agg (V4 z0 z1 z2 zw).toArray, .slice aA acts.length ac, .int .i64 (sugar : Int)] w (fun e w' => e = dayEnd (dayE fs kiln (⟨[z0, z1, z2], zw⟩ : Mor) acts sugar) ∧ Grew w w' []) := fun w hF hA => zZe fA dA aA fc nd dc ac kiln fs h3 hf z0 z1 z2 zw hz0 hz1 hz2 hzw acts hla sugar hs w hF hA
 generalize hst : dayE fs kiln (⟨[z0, z1, z2], zw⟩ : Mor) acts sugar = st at hok2 hsame hday ⊢
 obtain ⟨n, nm⟩ := st
 dsimp only at hok2 hsame hday ⊢
 by_cases hn : n ≠ 0
 ·refine zLf (vs := [_, _, _, _]) (ch := [{ v := .iface 141 (.agg [.int .i64 (n : Int)].toArray), recovered := false }]) rfl F.ent87 (fun a w ha => (hday w (RdL.later hF ha.below) (RdL.later hA ha.below)).mono (fun e w' h => ⟨h.1.trans (by unfold dayEnd; rw [if_neg hn]), h.2⟩)) (vP (zL9 (fun a w ha => ?_)))
  obtain rfl := hsame hn
  exact ⟨_, by exact zEb (C := ⟨Try.prog, _, _, _, _⟩) (fn := Try.f71) (ha := ha) rfl rfl rfl F.agg95 F.ti95 F.one30 rfl, rfl, ha.grown nsl⟩
 obtain rfl : n = 0 := by omega
 obtain ⟨y0, y1, y2, yw, rfl, hy0, hy1, hy2, hyw⟩ := hok2.form
 exact jM (v := .agg (V4 y0 y1 y2 yw).toArray) (vs := [_, _, _, _]) rfl rfl F.ent87 (fun a w ha => (hday w (RdL.later hF ha.below) (RdL.later hA ha.below)).mono (fun e w' h => ⟨h.1.trans rfl, h.2⟩)) (zH rfl rfl F.ti95 rfl (zH rfl rfl F.ti30 rfl (zA (zC (zY (zPq (fun a w ha => ⟨_, by exact zEb (C := ⟨Try.prog, _, _, _, _⟩) (fn := Try.f71) (ha := ha) rfl rfl rfl F.agg95 F.ti95 F.one30 rfl, rfl, ha.grown nsl⟩)))))))

variable {X : Type} {args : Array Operand} {l : List (List Nat)} {ts : Array TypeId} {vs : List Value} {w0 : World} {x : Operand}
section
variable {C : Ctx} {fr frC : List (Nat × Value)} {hp hp' hpS : List Res} {a : Act} {w : World} {ops : Array Oper} {Q : Exit -> Act -> World -> Prop} {rest : List Oper}
 {d : Nat} {ty : TypeId} {pos : String} {after : Array Edge} {r fuel : Nat} {listed listed' : Array Bool}
abbrev Gout : Type := Array (Nat × ByteArray)
theorem At.backO {N' : Nat} {ds' : List Deferred} {fr0 : List (Nat × Value)} {hp0 : List Res} {a0 : Act} {x : Gout} (h0 : At C fr0 hp0 a0 w0) (h : At ⟨C.P, C.B, saying C.w0 x, N', ds'⟩ fr hp a w) : At (C.out x) fr0 hp a0 w :=
 ⟨h0.size, h0.defs, h0.slots, h.below, h.base, h.own, h.apart⟩
theorem zGd {f : FuncId} {first cap : List Value} {p : X -> Prop} {o : X -> Gout} {val : X -> Value} {rs : X -> List Res} (hd : Nat.blt d C.N = true)
  (hx : ev fr x = some (.func (.func f) first.toArray cap.toArray)) (hargs : args.toList.map (ev fr) = vs.map some) (hf : Enters C.P f)
  (hc : ∀ a w, At C fr hp a w -> Calls C.P f (first ++ vs ++ cap).toArray w fun e w' => ∃ y, p y ∧ e = .returned (val y) ∧ At (C.out (o y)) fr (rs y) a w')
  (k : ∀ y, p y -> Lst (C.out (o y)) ops Q rest ((d, val y) :: fr) (rs y)) : Lst C ops Q (⟨some d, .call { callee := .value x, args := args, argTypes := ts }, ty, pos, after, none⟩ :: rest) fr hp := by
 refine xH rfl fun a w ha => ?_
 refine ⟨zEn (ha.eval hx) hf.2, ?_⟩
 have hr : (execOp a.eval ⟨some d, .call { callee := .value x, args := args, argTypes := ts }, ty, pos, after, none⟩).run C.P w = .ok (.enter f (first ++ vs ++ cap).toArray) w := by
  simp only [execOp, resolve, vY ha hargs, ha.eval hx, Deferred.ofValue, Sem.run_bind, Sem.run_pure, Result.andThen_ok, invoke, List.append_toArray]
  exact hf.1 _ w
 rw [hr]
 show Calls C.P f _ w _
 refine (hc a w ha).mono ?_
 rintro e w' ⟨x, h1, rfl, h2⟩
 exact k x h1 _ _ (h2.put (kC hd) _)
theorem zQi {p : X -> Prop} {o : X -> Gout} {val : X -> Value} {rs : X -> List Res} (hd : Nat.blt d C.N = true)
  (hx : ev fr x = some (.func (.yield r) #[] #[])) (hargs : args.toList.map (ev fr) = vs.map some)
  (hc : ∀ a w, At C fr hp a w -> YieldAt C.P r vs.toArray w fun e w' => ∃ y, p y ∧ e = .returned (val y) ∧ At (C.out (o y)) fr (rs y) a w')
  (k : ∀ y, p y -> Lst (C.out (o y)) ops Q rest ((d, val y) :: fr) (rs y)) :
  Lst C ops Q (⟨some d, .call { callee := .value x, args := args, argTypes := ts }, ty, pos, after, none⟩ :: rest) fr hp := by
 refine xH rfl fun a w ha => ?_
 obtain ⟨rec, h1, h2, h3⟩ := hc a w ha
 have he : execOp a.eval ⟨some d, .call { callee := .value x, args := args, argTypes := ts }, ty, pos, after, none⟩ = Instr.yield r vs.toArray := by
  simp only [execOp, resolve, vY ha hargs, ha.eval hx, Deferred.ofValue]
  simp [invoke]
 refine ⟨by rw [he]; exact zPo _ _, ?_⟩
 rw [he, run_yield h1 h2]
 refine h3.mono ?_
 rintro e w' ⟨y, h4, rfl, h5⟩
 exact k y h4 _ _ (h5.put (kC hd) _)
theorem zQr {id : Nat} {l : List Oper} (hpS : List Res) (hm : C.P.follows .mixedOrders = true) (n : Nat) (hn : l.length = n) (lst : List Bool) (hl : Array.replicate n false = lst.toArray) (h : AnyO C l.toArray Q hpS n lst.toArray fr hp) :
  Cod C (.region id l.toArray true) Q fr hp := zQy hm n hn lst hl h
theorem zSr (hr : Region.ready .any ops listed = []) (h : Ex C Q .normal fr hp) : AnyO C ops Q hpS fuel listed fr hp := fun a w ha => zHa hr (Lax.of (show OnlyN Q .normal a w from h a w ha)) fuel
theorem zP3 {x : Gout} (hs : hpS.Sublist hp) (h : AnyO (C.out x) ops Q hpS fuel listed fr hp) : Ex (C.out x) (Exit.then (NxtO C ops Q hpS fuel listed) (Lax (OnlyN Q))) .normal fr hp :=
 fun a w ha => ⟨⟨x, ha.toMem hs⟩, h a w ha⟩
theorem zEm {Y : Type} {P : Program} {B N : Nat} {ds : List Deferred} {g : Operand} {ps : Array Tmp} {assign body : Code} {gf : FuncId} {lb : List Value} (p : Y -> Prop) (o : Y -> Gout) (jump : Y -> Option Code) (ex : Y -> Exit) (rs : Y -> List Res)
  (hg : ev fr g = some (.func (.func gf) #[] lb.toArray)) (he : Enters P gf) (hj : ∀ y, p y -> jump y = none ∧ ex y = .normal ∨ ∃ c, jump y = some c ∧ isJump (ex y) c)
  (h : ∀ (r D : Nat) (rec : Loop) (a : Act) (w : World), rec.state = .ready -> rec.pending = none -> rec.params = ps -> rec.assign = assign -> rec.body = body -> rec.tmps.size = N -> (∀ t u, look fr t = some u -> rec.tmps.getD t undef = u) ->
   At ⟨P, B, w0, N, ds⟩ fr (.blk r (.loop rec) :: .blk D (.deferred (some [])) :: hp) a w ->
   Calls P gf (#[.func (.yield r) #[] #[]] ++ lb.toArray) w fun e w' => (∃ v, e = .returned v) ∧ ∃ y, p y ∧ At ⟨P, B, saying w0 (o y), N, ds⟩ fr (.blk r (.loop { rec with state := if (jump y).isNone then .ready else .done, pending := jump y }) :: .blk D (.deferred (some [])) :: rs y) a w')
  (k : ∀ (D : Nat) (y : Y), p y -> Ex ⟨P, B, saying w0 (o y), N, { target := .collected D, args := #[] } :: ds⟩ Q (ex y) fr (.blk D (.deferred (some [])) :: rs y)) : Cod ⟨P, B, w0, N, ds⟩ (.rangeFunc g ps assign body) Q fr hp := by
 intro a w ha
 refine zL2 fun fn v₁ hv => ?_
 have ha1 := ha.rely hv
 have hrun : ∀ w, (rangeSem a g (v₁.heap.size + 1)).run P w = .ok (.enter gf (#[.func (.yield (v₁.heap.size + 1)) #[] #[]] ++ lb.toArray)) w := fun w => by
  unfold rangeSem
  simp only [resolve, ha.eval hg, Deferred.ofValue, Sem.run_bind, Sem.run_pure, Result.andThen_ok, invoke]
  have := he.1 (#[.func (.yield (v₁.heap.size + 1)) #[] #[]] ++ lb.toArray) w
  simpa [Act.eval] using this
 have htame : Tame P (rangeSem a g (v₁.heap.size + 1)) := by
  unfold rangeSem
  show Tame P (Deferred.ofValue (a.eval g) _ >>= fun d => invoke d.target d.args)
  rw [ha.eval hg]
  exact he.2 _
 refine ⟨gf, _, htame, hrun, ?_⟩
 have h1 := (ha1.alloc (.deferred (some []))).alloc (.loop (recIn fn a ps assign body v₁.heap.size))
 have h2 : (v₁.alloc (.deferred (some []))).heap.size = v₁.heap.size + 1 := by simp
 rw [h2] at h1
 refine (h (v₁.heap.size + 1) v₁.heap.size (recIn fn a ps assign body v₁.heap.size) a _ rfl rfl rfl rfl rfl ha1.size (fun t u hu => ha1.slots t u hu) h1).mono ?_
 rintro e w3 ⟨hx, y, hy, h3⟩
 refine ⟨hx, fun v4 hv4 => ?_⟩
 have h4 := h3.rely hv4
 have hb := (h4.own _ (List.mem_cons_self ..)).2
 have h5 := (h4.putRec (rec' := { (recIn fn a ps assign body v₁.heap.size) with state := .exhausted, pending := jump y })).drop_res (List.Sublist.cons _ (List.Sublist.refl _))
 have hend := run_endLoop (P := P) hb (by dsimp only; split <;> simp)
 refine ⟨_, _, hend, ?_⟩
 have h6 := k v₁.heap.size y hy { a with defers := { target := .collected v₁.heap.size, args := #[] } :: a.defers } _ ⟨h5.size, congrArg (_ :: ·) ha1.defs, h5.slots, h5.below, h5.base, h5.own, h5.apart⟩
 rcases hj y hy with ⟨e1, e2⟩ | ⟨c, e1, e2⟩
 ·rw [e2] at h6; simp only [e1] at h6 ⊢; exact h6
 ·simp only [e1] at h6 ⊢
  cases hex : ex y <;> rw [hex] at e2 h6 <;> cases c <;> first | exact e2.elim | exact h6 | (simp only [isJump] at e2; subst e2; exact h6)
def YSpL (P : Program) (B : Nat) (w0 : World) (r : Nat) {X : Type} (o : X -> Gout) (T : X -> List Res) (pre : X -> List Nat -> Prop) (step : X -> List Nat -> X -> Bool -> Prop) : Prop :=
 ∀ (x : X) (A : Option Addr) (c : Nat) (l : List Nat) (_ : pre x l) (N : Nat) (ds : List Deferred) (fr : List (Nat × Value)) (hp : List Res) (a : Act) (w : World), At ⟨P, B, saying w0 (o x), N, ds⟩ fr (.row 3 1 A l.length c (ints l) :: (hp ++ T x)) a w ->
  YieldAt P r [.slice A l.length c].toArray w fun e w' => ∃ x' b, step x l x' b ∧ e = .returned (.bool b) ∧ At ⟨P, B, saying w0 (o x'), N, ds⟩ fr (hp ++ T x') a w'
inductive Runs {X : Type} (step : X -> List Nat -> X -> Bool -> Prop) : X -> List (List Nat) -> X -> Bool -> Prop
 | nil (x : X) : Runs step x [] x true
 | cons {x x' x'' : X} {l : List Nat} {ls : List (List Nat)} {b : Bool} (h : step x l x' true) (k : Runs step x' ls x'' b) : Runs step x (l :: ls) x'' b
 | stop {x x' : X} {l : List Nat} {ls : List (List Nat)} (h : step x l x' false) : Runs step x (l :: ls) x' false
theorem Runs.app {step : X -> List Nat -> X -> Bool -> Prop} {x x' x'' : X} {m : List (List Nat)} {b : Bool} (h : Runs step x l x' true) (k : Runs step x' m x'' b) : Runs step x (l ++ m) x'' b := by
 generalize ht : true = t at h
 induction h with
 | nil x => exact k
 | cons h1 _ ih => exact .cons h1 (ih k ht)
 | stop h1 => cases ht
theorem Runs.halts {step : X -> List Nat -> X -> Bool -> Prop} {x x' : X} (m : List (List Nat)) (h : Runs step x l x' false) : Runs step x (l ++ m) x' false := by
 generalize ht : false = t at h
 induction h with
 | nil x => cases ht
 | cons h1 _ ih => exact .cons h1 (ih ht)
 | stop h1 => exact .stop h1
def Ready {X : Type} (pre : X -> List Nat -> Prop) (step : X -> List Nat -> X -> Bool -> Prop) : X -> List (List Nat) -> Prop
 | _, [] => True
 | x, l :: ls => pre x l ∧ ∀ x', step x l x' true -> Ready pre step x' ls
theorem Ready.left {pre : X -> List Nat -> Prop} {step : X -> List Nat -> X -> Bool -> Prop} : ∀ {ls ms : List (List Nat)} {x : X}, Ready pre step x (ls ++ ms) -> Ready pre step x ls
 | [], _, _, _ => trivial
 | _ :: _, _, _, h => ⟨h.1, fun x' hx => Ready.left (h.2 x' hx)⟩
theorem Ready.right {pre : X -> List Nat -> Prop} {step : X -> List Nat -> X -> Bool -> Prop} {ls ms : List (List Nat)} {x x' : X} (h : Ready pre step x (ls ++ ms)) (hr : Runs step x ls x' true) : Ready pre step x' ms := by
 generalize ht : true = t at hr
 induction hr with
 | nil x => exact h
 | cons h1 _ ih => exact ih (h.2 _ h1) ht
 | stop h1 => cases ht
def exts : List Nat -> Nat -> List (List Nat)
 | l, 0 => [l]
 | l, d + 1 => (List.range 4).flatMap fun k => exts (l ++ [k]) d
end
end Go.Proofs.Yteppiphdbondeaa.N
namespace Go.Proofs.Yteppiphdbondeaa.N
open Go Go.RowKit Go.Proofs
set_option linter.unusedSectionVars false
variable [I : Sys]
variable {A : Option Addr} {e t : TypeId} {m n : Nat} {x y : Operand} {z : Value}
section
variable {C : Ctx} {fr : List (Nat × Value)} {hp hp' : List Res} {ops : Array Oper} {Q : Exit -> Act -> World -> Prop} {rest : List Oper} {d : Nat} {dst : Option Nat} {ty : TypeId} {pos : String} {after : Array Edge}
theorem zL3 {P : Program} (ht : P.underlying t = some (.slice e)) : P.elem t = e := by
 unfold Program.elem
 rw [ht]
theorem zLh {y' : Operand} {len cap : Nat} {kd kd' : IntKind} (hx : ev fr x = some (.slice A len cap)) (hy : ev fr y = some (.int kd (len : Int))) (hy' : ev fr y' = some (.int kd' (len : Int)))
  (ht : C.P.underlying t = some (.slice e)) (he : TI C.P e z n m) (hle : len <= cap) : Yld C ⟨dst, .slice t x none (some y) (some y'), ty, pos, after, none⟩ fr hp (.slice A len len) := by
 obtain ⟨i', hi', _, hs, _⟩ := he
 refine ⟨rfl, fun a w ha => ⟨zEq .., ?_⟩⟩
 have hu := ht
 rw [<- zL3 ht] at hu
 have h1 : (0 : Int) <= (len : Int) := by omega
 have h2 : ((len : Int) <= (cap : Int)) := by omega
 have h3 : ¬ cap < len := by omega
 have hsz : (sizeOf e).run C.P w = .ok n w := by simp [sizeOf, typeInfo, hi', hs]
 simp only [execOp, ha.eval hx, Option.map, ha.eval hy, ha.eval hy', Sem.run_bind, run_sliceAt_slice _ _ _ _ _ _ hu]
 cases A with
 | none => simp [Instr.slice, run_underlying ht, Instr.sliceBounds, Instr.sliceBound, asIntOf, h1, hle, hsz]
 | some p =>
  have hp0 : p.add 0 = p := by unfold Addr.add; split <;> simp_all
  simp [Instr.slice, run_underlying ht, Instr.sliceBounds, Instr.sliceBound, asIntOf, h1, hle, hsz, hp0]
theorem zC7 {b cb size bytes ct : Nat} {olds news : List Value} (hd : Nat.blt d C.N = true)
  (hx : ev fr x = some (.slice A n n)) (hy : ev fr y = some (.slice (some ⟨b, 0, none⟩) m cb)) (ht : C.P.underlying t = some (.slice e)) (hi : TI C.P e z size bytes) (hzs : z.cells.size = size) (hs0 : Nat.blt 0 size = true)
  [hb : InB b (.cells news.toArray ct (0, 0)) hp] (hl : news.length = m * size) [ho : Ones news] (hm : 0 < m) (hnone : A = none -> n = 0) (hlo : olds.length = n * size) (hold : ∀ a w, At C fr hp a w -> ∀ p, A = some p -> ∀ j u, olds[j]? = some u -> w.cell? (p.add j) = some u)
  (h63 : n + m <= maxLen) (hbytes : (n + m) * bytes <= 140737488355328)
  (k : ∀ A' c', Lst C ops Q rest ((d, .slice A' (n + m) c') :: fr) (.row e size A' (n + m) c' (olds ++ news) :: hp)) :
  Lst C ops Q (⟨some d, .call { callee := .builtin .append, args := #[x, y], argTypes := #[t, t] }, ty, pos, after, none⟩ :: rest) fr hp := by
 refine xH rfl fun a w ha => ?_
 obtain ⟨i, hi1, hi2, hi3, hi4⟩ := hi
 have hblk := ha.mem_blk hb.mem
 subst hi3; subst hi4
 have hnews : ∀ j u, news[j]? = some u -> w.cell? ((⟨b, 0, none⟩ : Addr).add j) = some u := by
  intro j u hu'
  rw [xE, Nat.zero_add]
  exact qH hblk hu'
 have key : ∃ v' w', (Builtin.append_ #[t, t] ty #[.slice A n n, .slice (some ⟨b, 0, none⟩) m cb]).run C.P w = .ok v' w' ∧ w'.ownsRow w.heap.size e i.size v' (n + m) (olds ++ news) ∧ w.grownBy w' none := by
  cases A with
  | some p => exact run_append_arg_grows (P := C.P) w t ty e i z i.size i.bytes ht hi1 hi2 rfl rfl hzs (kC hs0) p n n olds hlo (hold a w ha p rfl) ⟨b, 0, none⟩ m cb news hl hnews om h63 hbytes
  | none =>
   obtain rfl := hnone rfl
   obtain rfl : olds = [] := List.eq_nil_of_length_eq_zero (by simpa using hlo)
   obtain ⟨v', w', hrun, r1, r2, _⟩ := run_append_own (P := C.P) w w.heap.size t ty e i z i.size i.bytes ht hi1 hi2 rfl rfl hzs (kC hs0) (.slice none 0 0) 0 [] (World.ownsRow_nil w _ e i.size) ⟨b, 0, none⟩ m cb news hl hnews ho.one h63 hbytes (Nat.le_refl _)
   exact ⟨v', w', hrun, r1, r2⟩
 obtain ⟨v', w', hrun, hown', hg⟩ := key
 obtain ⟨A', c', rfl⟩ := zB4 hown'
 refine ⟨vM fun cs => by simp only [List.map_toArray, List.map_cons, List.map_nil, ha.eval hx, ha.eval hy]; exact zBk ht, ?_⟩
 have hr' : (execOp a.eval ⟨some d, .call { callee := .builtin .append, args := #[x, y], argTypes := #[t, t] }, ty, pos, after, none⟩).run C.P w = .ok (.value (.slice A' (n + m) c')) w' := by
  simp only [execOp, resolve, invoke, builtin, Sem.run_bind, Sem.run_pure, Result.andThen_ok, List.map_toArray, List.map_cons, List.map_nil, ha.eval hx, ha.eval hy, hrun]
 rw [hr']
 have hbel : Below w.heap.size w w' := ⟨hg.os, hg.tape, hg.output, hg.size, fun k hk => hg.block k hk (by simp)⟩
 have hres : (Res.row e i.size A' (n + m) c' (olds ++ news)).ok w.heap.size w' := hown'
 have := ha.grew hbel (rs := [.row e i.size A' (n + m) c' (olds ++ news)]) (fun r hr => by rw [List.mem_singleton.1 hr]; exact hres) (by
  cases h : Res.id (.row e i.size A' (n + m) c' (olds ++ news)) <;> simp [h])
 exact k A' c' _ _ (this.put (kC hd) _)
end
end Go.Proofs.Yteppiphdbondeaa.N
namespace Go.Proofs.Yteppiphdbondeaa.N
open Go Go.RowKit Go.Proofs
set_option linter.unusedSectionVars false
variable [I : Sys]
variable {B d k : Nat} {X : Type} {l : List Nat}
theorem F.ent85 : Enters Try.prog 85 := jD Try.func85 rfl (by kernel_rfl)
theorem F.one41 : One Try.prog 41 := ⟨by unfold aggB; rw [Try.underlying41], by rw [Try.underlying41]; simp⟩
omit I in
theorem zY4 {w : World} {e size n c : Nat} {A : Option Addr} {xs : List Value} (h : w.ownsRow B e size (.slice A n c) n xs) : n <= c := by
 rcases h.2 with ⟨h1, _⟩ | ⟨g, cap, cur, h1, _, _, h2, _⟩
 ·cases h1; exact Nat.le_refl _
 ·cases h1; exact h2
theorem zLt (hk : k < 4) : exts l (d + 1) = ((List.range k).flatMap fun j => exts (l ++ [j]) d) ++ (exts (l ++ [k]) d ++ ((List.range' (k + 1) (3 - k)).flatMap fun j => exts (l ++ [j]) d)) := by
 show (List.range 4).flatMap _ = _
 have : List.range 4 = List.range k ++ (k :: List.range' (k + 1) (3 - k)) := by
  rcases k with _ | _ | _ | _ | k
  ·rfl
  ·rfl
  ·rfl
  ·rfl
  ·omega
 rw [this, List.flatMap_append, List.flatMap_cons]
theorem zP6 {pre : X -> List Nat -> Prop} {step : X -> List Nat -> X -> Bool -> Prop} {x : X} (hr : Ready pre step x (exts l d)) (hd : d = 0) : pre x l := by
 subst hd
 exact (show Ready pre step x [l] from hr).1
theorem zQe {pre : X -> List Nat -> Prop} {step : X -> List Nat -> X -> Bool -> Prop} {x x1 : X} (hr : Ready pre step x (exts l (d + 1))) (h : Runs step x ((List.range k).flatMap fun j => exts (l ++ [j]) d) x1 true) (hk : k < 4) : Ready pre step x1 (exts (l ++ [k]) d) := by
 rw [zLt hk] at hr
 exact (hr.right h).left
theorem zQ9 {step : X -> List Nat -> X -> Bool -> Prop} {x x1 x2 : X} (h : Runs step x ((List.range k).flatMap fun j => exts (l ++ [j]) d) x1 true) (h2 : Runs step x1 (exts (l ++ [k]) d) x2 false) (hk : k < 4) : Runs step x (exts l (d + 1)) x2 false := by
 rw [zLt hk]
 exact h.app (h2.halts _)

theorem zYv {o : X -> Gout} {T : X -> List Res} {pre : X -> List Nat -> Prop} {step : X -> List Nat -> X -> Bool -> Prop} {r b1 b2 b3 fc kiln nd dc : Nat} {w0 : World} {fA dA : Option Addr} {fs : List Flt} (h3 : fs.length <= 3) (hY : YSpL Try.prog B w0 r o T pre step) : ∀ (d : Nat) (l : List Nat) (_ : l.length + d = fs.length) {x : X} (_ : Ready pre step x (exts l d)) {A : Option Addr} {c N : Nat} {ds : List Deferred} {fr : List (Nat × Value)} {hp : List Res} {a : Act} {w : World} (_ : At ⟨Try.prog, B, saying w0 (o x), N, ds⟩ fr (.row 3 1 A l.length c (ints l) :: .blk b3 (.cells [.func (.func 85) #[] [pt b1, pt b2, pt b3].toArray].toArray 41 (0, 0)) :: .blk b2 (.cells [.func (.yield r) #[] #[]].toArray 41 (0, 0)) :: .blk b1 (.cells (CA fA fs.length fc kiln dA nd dc).toArray 77 (0, 0)) :: (hp ++ T x)) a w), Calls Try.prog 85 [.slice A l.length c, pt b1, pt b2, pt b3].toArray w fun e w' => ∃ x' b, Runs step x (exts l d) x' b ∧ e = .returned (.bool b) ∧ At ⟨Try.prog, B, saying w0 (o x'), N, ds⟩ fr (.blk b3 (.cells [.func (.func 85) #[] [pt b1, pt b2, pt b3].toArray].toArray 41 (0, 0)) :: .blk b2 (.cells [.func (.yield r) #[] #[]].toArray 41 (0, 0)) :: .blk b1 (.cells (CA fA fs.length fc kiln dA nd dc).toArray 77 (0, 0)) :: (hp ++ T x')) a w' := by
 intro d
 induction d using Nat.strongRecOn with
 | _ d ih =>
 intro l hl x hrd A c N ds fr hp a w ha0
 have hlc : l.length <= c := zY4 (ha0.own _ (List.mem_cons_self ..))
 have hnone : A = none -> l.length = 0 := fun e => by
  rcases Nat.eq_zero_or_pos l.length with h | h
  ·exact h
  ·obtain ⟨g, hg⟩ := yX (ha0.own _ (List.mem_cons_self ..)) h
   rw [e] at hg; cases hg
 refine yJ (N := 33) [(0, .slice A l.length c), (1, pt b1), (2, pt b2), (3, pt b3)] ha0 Try.func85 rfl Try.ntmps85 rfl rfl (zD (zB (zE rfl rfl (zA (zC (zD (zD (zB (zF rfl rfl (jX rfl rfl Try.underlying22 (zL rfl rfl F.fi77_0 F.ti27 (zL rfl rfl F.fi27_0 F.ti25 (zR rfl rfl F.one25 (jX rfl rfl Try.underlying25 (zI rfl rfl rfl jY ?_)))))))))))))))
 refine zA (zC (zN rfl (fun hc0 => ?_) (fun hc0 => ?_)))
 ·refine zD (zB (zR rfl rfl F.one41 (zF rfl rfl (zQi (X := X × Bool) (vs := [_]) (p := fun y => step x l y.1 y.2) (o := fun y => o y.1) (val := fun y => .bool y.2) (rs := fun y => .blk b3 (.cells [.func (.func 85) #[] [pt b1, pt b2, pt b3].toArray].toArray 41 (0, 0)) :: .blk b2 (.cells [.func (.yield r) #[] #[]].toArray 41 (0, 0)) :: .blk b1 (.cells (CA fA fs.length fc kiln dA nd dc).toArray 77 (0, 0)) :: (hp ++ T y.1)) rfl rfl rfl (fun a w ha => (hY x A c l (zP6 hrd om) _ _ _ (.blk b3 (.cells [.func (.func 85) #[] [pt b1, pt b2, pt b3].toArray].toArray 41 (0, 0)) :: .blk b2 (.cells [.func (.yield r) #[] #[]].toArray 41 (0, 0)) :: .blk b1 (.cells (CA fA fs.length fc kiln dA nd dc).toArray 77 (0, 0)) :: hp) a w ha).mono (fun e w' h => by obtain ⟨x', b, h1, h2, h4⟩ := h; exact ⟨(x', b), h1, h2, h4⟩)) ?_))))
  rintro ⟨y, b⟩ hst
  dsimp only at hst ⊢
  refine zE rfl rfl (zA (zC (zY (jB ?_))))
  obtain rfl : d = 0 := by omega
  exact jJ rfl (fun a w ha => jO rfl rfl ha) (fun a w ha => ⟨y, b, (by cases b; exact .stop hst; exact .cons hst (.nil _)), rfl, ha0.backO ha⟩)
 ·obtain ⟨d', rfl⟩ : ∃ d', d = d' + 1 := ⟨d - 1, by omega⟩
  have ih := ih d' om
  refine zQ (zC (zD (zD (zB (zF rfl rfl (zA (zC (zS (zC4 (T := Nat × X) (fun g => g.1 <= 4 ∧ Runs step x ((List.range g.1).flatMap fun j => exts (l ++ [j]) d') g.2 true) (fun g => 4 - g.1) (fun g => ⟨Try.prog, B, saying w0 (o g.2), 33, []⟩) (fun g => [(0, .slice A l.length c), (1, pt b1), (2, pt b2), (3, pt b3), (17, .int .i64 (g.1 : Int))]) (fun g => .row 3 1 A l.length c (ints l) :: .blk b3 (.cells [.func (.func 85) #[] [pt b1, pt b2, pt b3].toArray].toArray 41 (0, 0)) :: .blk b2 (.cells [.func (.yield r) #[] #[]].toArray 41 (0, 0)) :: .blk b1 (.cells (CA fA fs.length fc kiln dA nd dc).toArray 77 (0, 0)) :: (hp ++ T g.2)) (fun _ => rfl) (0, x) ⟨Nat.zero_le _, .nil _⟩ rfl sbn (Pck.refl _) ?_)))))))))
  rintro ⟨k, x1⟩ ⟨hk, hrun⟩
  dsimp only at hk hrun ⊢
  refine zD (zB (zI rfl rfl rfl jR ?_))
  refine zA (zC (zD (zN rfl (fun hc1 => ?_) (fun hc1 => ?_))))
  ·refine zQ (zC (zD (zS (zD (zB (zF rfl rfl (zE rfl rfl (zA (zC (zD (zQr [.row 3 1 A l.length c (ints l), .blk b3 (.cells [.func (.func 85) #[] [pt b1, pt b2, pt b3].toArray].toArray 41 (0, 0)), .blk b2 (.cells [.func (.yield r) #[] #[]].toArray 41 (0, 0)), .blk b1 (.cells (CA fA fs.length fc kiln dA nd dc).toArray 77 (0, 0))] F.follows 12 rfl [false, false, false, false, false, false, false, false, false, false, false, false] rfl (yE 0 rfl rfl rfl kr kr kr sbl (fun _ => kH rfl F.one41) rfl (yE 1 rfl rfl rfl kr kr kr sbl (fun _ => zP rfl) rfl (yE 2 rfl rfl rfl kr kr kr sbl (fun _ => zP rfl) rfl (yE 3 rfl rfl rfl kr kr kr sbl (fun _ => zA3 rfl Try.underlying22) rfl (yE 4 rfl rfl rfl kr kr kr sbl (fun _ => zP rfl) rfl (yE 5 rfl rfl rfl kr kr kr sbl (fun _ => zA3 rfl Try.underlying22) rfl (yE 6 rfl rfl rfl kr kr kr sbl (fun _ => zLh rfl rfl rfl Try.underlying22 F.ti3 hlc) rfl (yE 7 rfl rfl rfl kr kr kr sbl (fun _ => zP rfl) rfl (zH8 8 kr rfl rfl (jV (vs := [(0, _)]) rfl rfl Try.underlying22 F.ti3 rfl rfl rfl ?_)))))))))))))))))))))
   intro b28
   refine zA (zJ4 sbl (zH8 9 kr rfl rfl ?_))
   refine zC7 (olds := ints l) rfl rfl rfl Try.underlying22 F.ti3 rfl rfl rfl (by decide) hnone (by simp [zEv]) (fun a w ha p hp j u hu => ?_) (by unfold maxLen; omega) om ?_
   ·obtain ⟨g, hg⟩ : ∃ g, A = some ⟨g, 0, none⟩ := yX (ha.own (.row 3 1 A l.length c (ints l)) (by simp)) (by have := (List.getElem?_eq_some_iff.1 hu).1; rw [zEv] at this; omega)
    rw [hg] at hp
    cases hp
    rw [xE]
    exact kU ha (show Res.row 3 1 A l.length c (ints l) ∈ _ by simp) hg (by rw [Nat.zero_add]; exact hu)
   intro A1 c1
   refine zA (zJ4 sbl (zH8 10 kr rfl rfl ?_))
   have e1 : (l ++ [k]).length = l.length + 1 := by simp
   have e2 : ints (l ++ [k]) = ints l ++ [.int .i64 (k : Int)] := by simp [ints]
   refine zGd (X := X × Bool) (first := []) (cap := [_, _, _]) (vs := [_]) (p := fun y => Runs step x1 (exts (l ++ [k]) d') y.1 y.2) (o := fun y => o y.1) (val := fun y => .bool y.2) (rs := fun y => .row 3 1 A l.length c (ints l) :: .blk b3 (.cells [.func (.func 85) #[] [pt b1, pt b2, pt b3].toArray].toArray 41 (0, 0)) :: .blk b2 (.cells [.func (.yield r) #[] #[]].toArray 41 (0, 0)) :: .blk b1 (.cells (CA fA fs.length fc kiln dA nd dc).toArray 77 (0, 0)) :: (hp ++ T y.1)) rfl rfl rfl F.ent85 (fun a w ha => ?_) ?_
   ·have h0 := @ih (l ++ [k]) (by rw [e1]; omega) x1 (zQe hrd hrun om) A1 c1 _ _ _ (.blk b28 (.cells [.int .i64 (k : Int)].toArray 3 (0, 0)) :: .row 3 1 A l.length c (ints l) :: hp) a w (by rw [e1, e2]; exact ha.pck pkk)
    rw [e1] at h0
    refine h0.mono ?_
    rintro e w' ⟨x', b, h1, h2, h4⟩
    exact ⟨(x', b), h1, h2, h4.pck pkk⟩
   rintro ⟨x2, b⟩ hst
   dsimp only at hst ⊢
   refine zA (zP3 (x := o x2) sbl (yE 11 rfl rfl rfl kr kr kr sbl (fun _ => zJm rfl) rfl (zSr kr ?_)))
   refine zC (qD rfl (fun hc2 => ?_) (fun hc2 => ?_))
   ·refine zD (zB (zE rfl rfl (zA (zC (zY (jW (jB (jB (jW (jB ?_))))))))))
    obtain rfl : b = false := by simpa using hc2
    exact jJ rfl (fun a w ha => jO rfl rfl ha) (fun a w ha => ⟨x2, false, zQ9 hrun hst om, rfl, ha0.backO (ha.pck pkk)⟩)
   ·refine zQ (zJ (zC (zB (zI rfl rfl rfl (fun w => jK w (zT _ om om)) (zF rfl rfl (zA ?_))))))
    obtain rfl : b = true := by simpa using hc2
    exact zAl (k + 1, x2) rfl ⟨by omega, by dsimp only; rw [List.range_succ, List.flatMap_append]; simpa using hrun.app hst⟩ tdo sbn (Pck.refl _)
  ·refine jU (zO (zO (jF (zC (zD (zB (zE rfl rfl (zA (zC (zY ?_))))))))))
   obtain rfl : k = 4 := by omega
   exact jJ rfl (fun a w ha => jO rfl rfl ha) (fun a w ha => ⟨x1, true, hrun, rfl, ha0.backO (ha.pck (.skip _ (.refl _)))⟩)

end Go.Proofs.Yteppiphdbondeaa.N
namespace Go.Proofs.Yteppiphdbondeaa.N
open Go Go.RowKit Go.Proofs
set_option linter.unusedSectionVars false
variable [I : Sys]
theorem F.ti41 : TI Try.prog 41 (.nilFunc) 1 8 := TI.of (by kernel_rfl)
theorem zHn {X : Type} {o : X -> Gout} {T : X -> List Res} {pre : X -> List Nat -> Prop} {step : X -> List Nat -> X -> Bool -> Prop} {B r b1 fc kiln nd dc : Nat} {w0 : World} {fA dA : Option Addr} {fs : List Flt} (h3 : fs.length <= 3) (hY : YSpL Try.prog B w0 r o T pre step) {x : X} (hrd : Ready pre step x (exts [] fs.length)) {N : Nat} {ds : List Deferred} {fr : List (Nat × Value)} {hp : List Res} {a : Act} {w : World} (ha0 : At ⟨Try.prog, B, saying w0 (o x), N, ds⟩ fr (.blk b1 (.cells (CA fA fs.length fc kiln dA nd dc).toArray 77 (0, 0)) :: (hp ++ T x)) a w) : Calls Try.prog 84 [.func (.yield r) #[] #[], pt b1].toArray w fun e w' => ∃ x' b, Runs step x (exts [] fs.length) x' b ∧ e = .returned (.tuple #[]) ∧ At ⟨Try.prog, B, saying w0 (o x'), N, ds⟩ fr (.blk b1 (.cells (CA fA fs.length fc kiln dA nd dc).toArray 77 (0, 0)) :: (hp ++ T x')) a w' := by
 refine yJ (N := 7) [(0, .func (.yield r) #[] #[]), (1, pt b1)] ha0 Try.func84 rfl Try.ntmps84 rfl rfl (zD (zB (kA rfl rfl ?_)))
 intro b2
 refine zA (zC (zD (zB (zX rfl F.ti41 ?_))))
 intro b3
 refine zA (zC (zD (zB (vW (fs := []) (cs := [_, _, _]) rfl rfl rfl (zH rfl rfl F.ti41 rfl (zA (zC (zB (zR rfl rfl F.one41 ?_)))))))))
 refine zGd (X := X × Bool) (first := []) (cap := [_, _, _]) (vs := [_]) (p := fun y => Runs step x (exts [] fs.length) y.1 y.2) (o := fun y => o y.1) (val := fun y => .bool y.2) (rs := fun y => .blk b1 (.cells (CA fA fs.length fc kiln dA nd dc).toArray 77 (0, 0)) :: (hp ++ T y.1)) rfl rfl rfl F.ent85 (fun a w ha => ?_) ?_
 ·have h0 := zYv h3 hY fs.length [] (by simp) (x := x) hrd (A := none) (c := 0) (hp := hp) ((ha.add_nil 3 1).pck pkk)
  refine h0.mono ?_
  rintro e w' ⟨x', b, h1, h2, h4⟩
  exact ⟨(x', b), h1, h2, h4.pck pkk⟩
 rintro ⟨x2, b⟩ hst
 dsimp only at hst ⊢
 exact zA (zXh rfl (fun a w ha => zHw rfl ha) (fun a w ha => ⟨x2, b, hst, rfl, ha0.backO ha⟩))

theorem zJj (fA dA : Option Addr) (fc nd dc kiln : Nat) (fs : List Flt) (w : World) : Calls Try.prog 69 #[.agg (CA fA fs.length fc kiln dA nd dc).toArray] w fun e w' => ∃ b1, e = .returned (.func (.func 84) [].toArray [pt b1].toArray) ∧ Grew w w' [.blk b1 (.cells (CA fA fs.length fc kiln dA nd dc).toArray 77 (0, 0))] := by
 refine enter (N := 4) [(0, .agg (CA fA fs.length fc kiln dA nd dc).toArray)] Try.func69 rfl Try.ntmps69 rfl rfl (zD (zB (kA rfl rfl ?_)))
 intro b1
 exact zE rfl rfl (zA (zC (zD (zB (vW (fs := []) (cs := [_]) rfl rfl rfl (zE rfl rfl (zA (zC (zY (jJ rfl (fun a w ha => jO rfl rfl ha) (fun a w ha => ⟨b1, rfl, ha.grown sbl⟩)))))))))))

end Go.Proofs.Yteppiphdbondeaa.N
namespace Go.Proofs.Yteppiphdbondeaa.N
open Go Go.RowKit Go.Proofs Go.Conc
set_option linter.unusedSectionVars false
variable {C : Ctx} {Stop : Goroutine -> World -> Prop} {a : Act} {fr : List (Nat × Value)} {hp : List Res} {v : World}
theorem zPd {P : Program} [I : Sys] {d : Deferred} {fv : Fn} {cap : Array Value} {f : FuncId} {args : Array Value} (ht : d.target = .fn fv cap) (hi : Invokes P fv cap d.args f args)
  (h : Gs P Stop (G (Frame.enter P f args .deferred) [bornF P]) v) : Gs P Stop (born P d) v := by
 refine Gs.step' rfl fun v₁ h1 => ?_
 obtain ⟨es, he⟩ := Stp.deferred (main := I.main) (fr := { (default : Frame) with fn := P.funcs.size, defers := [d], mode := .panicking [goexitEntry] }) (cs := []) (v := v₁) (d := d) (ds := []) (by simp) rfl ht hi
 exact ⟨_, _, es, he, h.rely h1⟩
variable [I : Sys]
theorem zYr {code : Code} {Q : Exit -> Act -> World -> Prop} {b : Frame} {k : List Item} {cs : List Frame} (hb : Ok b code) (ha : At C fr hp a v) (h : Cod C code Q fr hp)
  (hk : ∀ e a' v₀ v' g, Q e a' v₀ -> Rl v₀ v' -> ArrG b k cs e a' g -> Gs C.P Stop g v') : Gs C.P Stop (G (b.atR a (.code code :: k)) cs) v :=
 (h a v ha b k cs hb).bind (by
  rintro g w ⟨e, a', v0, hq, hr, harr⟩
  exact hk e a' v0 w g hq hr harr)
theorem zU4 {step : List (List Nat) -> List Nat -> List (List Nat) -> Bool -> Prop} (hst : ∀ x l x' b, step x l x' b -> b = true ∧ x = l :: x') {ls x x' : List (List Nat)} {b : Bool} (h : Runs step x ls x' b) : ∀ ms, x = ls ++ ms -> b = true ∧ x' = ms := by
 induction h with
 | nil x => exact fun ms e => ⟨rfl, e⟩
 | cons h1 _ ih =>
  intro ms e
  obtain ⟨_, h2⟩ := hst _ _ _ _ h1
  rw [e] at h2
  simp only [List.cons_append, List.cons.injEq, true_and] at h2
  exact ih ms h2.symm
 | stop h1 =>
  obtain ⟨h2, _⟩ := hst _ _ _ _ h1
  cases h2
theorem zKa {n : Nat} : ∀ (ls : List (List Nat)), (∀ l ∈ ls, l.length = n) -> Ready (fun (x : List (List Nat)) l => (∃ xs, x = l :: xs) ∧ l.length = n) (fun x l x' b => b = true ∧ x = l :: x') ls ls
 | [], _ => trivial
 | l :: ls, h => by
  refine ⟨⟨⟨ls, rfl⟩, h l (by simp)⟩, fun x' hx => ?_⟩
  have : ls = x' := by simpa using hx.2
  subst this
  exact zKa ls fun l hl => h l (by simp [hl])
theorem yH : ∀ (d : Nat) (l : List Nat), ∀ m ∈ exts l d, m.length = l.length + d
 | 0, l, m, hm => by
  simp only [exts, List.mem_singleton] at hm
  rw [hm]; rfl
 | d + 1, l, m, hm => by
  simp only [exts, List.mem_flatMap] at hm
  obtain ⟨k, _, hk⟩ := hm
  have := yH d (l ++ [k]) m hk
  simp at this
  omega
theorem zGq {w : World} (ha : At C fr hp a w) {cells : Nat -> List Value} {A : Option Addr} {c : Nat} {l : List Nat} (hc : ∀ n, cells n = [.int .i64 (n : Int)]) (hm : Res.row 3 1 A l.length c (ints l) ∈ hp) : RdL cells 1 w A l := fun hl => by
 obtain ⟨g, hg⟩ := yX (ha.own _ hm) hl
 subst hg
 refine ⟨g, 0, rfl, ?_, fun k x hk j u hu => ?_⟩
 ·exact (Res.lt (ha.own _ hm) g rfl).2
 ·rw [hc] at hu
  cases j with
  | succ j => simp at hu
  | zero =>
   simp only [List.getElem?_cons_zero, Option.some.injEq] at hu
   subst hu
   refine kU ha hm rfl ?_
   have : (ints l)[k]? = some (.int .i64 (x : Int)) := by simp [ints, hk]
   simpa using this
end Go.Proofs.Yteppiphdbondeaa.N
namespace Go.Proofs.Yteppiphdbondeaa.N
open Go Go.RowKit Go.Proofs Go.Conc
set_option linter.unusedSectionVars false
variable {C : Ctx} {Q : Exit -> Act -> World -> Prop} {fr : List (Nat × Value)} {hp : List Res} {m : Mor}
def encM (m : Mor) : Nat := m.s.getD 0 0 + 5 * m.s.getD 1 0 + 25 * m.s.getD 2 0 + 125 * m.w
def decM (n : Nat) : Mor := ⟨[n % 5, n / 5 % 5, n / 25 % 5], n / 125⟩
def msgM (n : Nat) : Value := (decM n).val
theorem zEc (h : MOk m) : decM (encM m) = m := by
 obtain ⟨a, b, c, w, rfl, h1, h2, h3, h4⟩ := h.form
 simp only [encM, decM, List.getD_cons_zero, List.getD_cons_succ]
 congr 1
 ·congr 1
  ·omega
  ·congr 1
   ·omega
   ·congr 1; omega
 ·omega
theorem zIt {n : Nat} (h : n < 1000) : MOk (decM n) := by
 refine ⟨rfl, fun x hx => ?_, ?_⟩
 ·simp only [decM, List.mem_cons, List.not_mem_nil, or_false] at hx
  rcases hx with rfl | rfl | rfl <;> omega
 ·show n / 125 < 8
  omega
theorem zSf (h : MOk m) : encM m < 1000 := by
 obtain ⟨a, b, c, w, rfl, h1, h2, h3, h4⟩ := h.form
 simp only [encM, List.getD_cons_zero, List.getD_cons_succ]
 omega
def oneOf (fs : List Flt) (kiln : Nat) (m : Mor) (sugar : Nat) (l : List Nat) : Option Nat := if (dayE fs kiln m l sugar).1 = 0 then some (encM (dayE fs kiln m l sugar).2) else none
def newsOf (fs : List Flt) (kiln : Nat) (m : Mor) (sugar : Nat) : List Nat := (exts [] fs.length).filterMap (oneOf fs kiln m sugar)
def doneD (W0 : Nat) : Deferred := { target := .fn (.func 77) #[], args := [.pointer (some ⟨W0, 0, none⟩)].toArray }
variable [I : Sys]
theorem zBq {e : Exit} {hp' : List Res} (h : Pck hp' hp) (k : Ex C Q e fr hp') : Ex C Q e fr hp := fun a w ha => k a w (ha.pck h)
theorem zDw {c c' : Code} (h : c = c') (k : Cod C c' Q fr hp) : Cod C c Q fr hp := h ▸ k
end Go.Proofs.Yteppiphdbondeaa.N
