/- Parts of the walks of the laws on fining, those that FiningKnown needs: V11, Sx, Bits, Mod. -/
import Derived.Test.YtofkhehcnfiopaaDoorSFiningKnown00
import Derived.WalkKit
import Derived.WalkLawsBesides
import Derived.Deep.LoopGhost
import Derived.OrdersHeld
namespace Go.Proofs.YtofkhehcnfiopaaDoor.N
open Go Go.RowKit Go.Conc
set_option linter.unusedSectionVars false
set_option autoImplicit false

/-! Comparing what holds no pointer. -/
inductive Np : Value → Prop
  | int (k : IntKind) (n : Int) : Np (.int k n)
  | bool (b : Bool) : Np (.bool b)
  | string (b : ByteArray) : Np (.string b)
  | nilIface : Np .nilIface
  | slice (a : Option Addr) (n c : Nat) : Np (.slice a n c)
  | map (m : Option Nat) : Np (.map m)
  | nilFunc : Np .nilFunc
  | func (f : Fn) (x y : Array Value) : Np (.func f x y)
  | iface (t : TypeId) (v : Value) (h : Np v) : Np (.iface t v)
  | agg (xs : Array Value) (h : ∀ x ∈ xs, Np x) : Np (.agg xs)
theorem Np.ints {l : List Value} (h : ∀ x ∈ l, Np x) : Np (.agg l.toArray) := .agg _ (by simpa using h)
section
variable {P : Program} {α β γ : Type}
theorem sem_assoc (s : Sem α) (g : α → Sem β) (f : β → Sem γ) : (s >>= g) >>= f = s >>= fun a => g a >>= f := by
  show (s.bind g).bind f = s.bind fun a => (g a).bind f
  induction s with
  | pure a => rfl
  | load m a k ih => simp only [Sem.bind, ih]
  | store m a v k ih => simp only [Sem.bind, ih]
  | new o k ih => simp only [Sem.bind, ih]
  | shape r k ih => simp only [Sem.bind, ih]
  | freeze a n k ih => simp only [Sem.bind, ih]
  | frozen a k ih => simp only [Sem.bind, ih]
  | getObj r k ih => simp only [Sem.bind, ih]
  | setObj r o k ih => simp only [Sem.bind, ih]
  | choose q k ih => simp only [Sem.bind, ih]
  | sys c k ih => simp only [Sem.bind, ih]
  | program k ih => simp only [Sem.bind, ih]
  | mark m k ih => simp only [Sem.bind, ih]
  | halt h => rfl
theorem tame_part_then {t : TypeId} {cs : Array Value} {o : Nat} {f : Value → Sem β} (hcs : ∀ c ∈ cs, Np c) (hf : ∀ v, Np v → Tame P (f v)) : Tame P (part t cs o >>= f) := by
  unfold part
  rw [sem_assoc]
  refine Tame.bind (tame_isAgg t) fun b => ?_
  cases b with
  | true =>
    simp only [if_true]
    rw [sem_assoc]
    exact Tame.bind (tame_sizeOf t) fun n => hf _ (.agg _ fun x hx => hcs x (by
      rw [Array.mem_iff_getElem] at hx ⊢
      obtain ⟨i, hi, rfl⟩ := hx
      simp only [Array.size_extract] at hi
      exact ⟨o + i, by omega, by rw [Array.getElem_extract]⟩))
  | false =>
    simp only [Bool.false_eq_true, if_false]
    cases h : cs[o]? with
    | none => trivial
    | some v => exact hf v (hcs v (Array.mem_of_getElem? h))
end
section
variable {P : Program}
theorem tame_equalIn : ∀ (d : Nat) (t : TypeId) (x y : Value), Np x → Tame P (Op.equalIn d t x y)
  | 0, _, _, _, _ => trivial
  | d + 1, t, x, y, hx => by
    have ih := tame_equalIn d
    unfold Op.equalIn
    refine Tame.bind (tame_underlying t) fun ds => ?_
    cases hx with
    | int k n =>
      split <;> first
        | trivial
        | (split <;> trivial)
        | simp_all
    | bool b => split <;> first | trivial | simp_all
    | string b => split <;> first | trivial | simp_all
    | nilIface => split <;> first | trivial | simp_all
    | slice a n c => split <;> first | trivial | simp_all
    | map m => split <;> first | trivial | simp_all
    | nilFunc => split <;> first | trivial | simp_all
    | func f x y => split <;> first | trivial | simp_all
    | iface tx vx h =>
      split <;> first
        | trivial
        | simp_all
      all_goals
        repeat' first
          | exact trivial
          | exact ih _ _ _ h
          | exact tame_typeInfo _ | exact tame_program | exact tame_typeStr _ | exact tame_runtimePanic _
          | (refine Tame.bind ?_ fun _ => ?_)
          | split
          | dsimp only
    | agg xs h =>
      split <;> first
        | trivial
        | simp_all
      · refine Tame.bind tame_program fun p => ?_
        split
        · trivial
        · refine Tame.bind (tame_forIn_arr (fun f b => ?_) _ _) fun r => ?_
          · split
            · trivial
            · refine tame_part_then h fun v hv => Tame.bind (tame_part ..) fun u => Tame.bind (ih _ _ _ hv) fun q => ?_
              split <;> trivial
          · split <;> trivial
      · refine Tame.bind (tame_sizeOf _) fun n => Tame.bind (tame_forIn_list (fun f b => ?_) _ _) fun r => ?_
        · refine tame_part_then h fun v hv => Tame.bind (tame_part ..) fun u => Tame.bind (ih _ _ _ hv) fun q => ?_
          split <;> trivial
        · split <;> trivial
theorem tame_equal (t : TypeId) {x : Value} (y : Value) (hx : Np x) : Tame P (Op.equal t x y) := tame_equalIn _ _ _ _ hx
theorem tame_eqGuardIn : ∀ (d : Nat) (t : TypeId) (x y : Value), Tame P (Op.eqGuardIn d t x y)
  | 0, _, _, _ => trivial
  | d + 1, t, x, y => by
    have ih := tame_eqGuardIn d
    unfold Op.eqGuardIn
    refine Tame.bind (tame_underlying t) fun ds => ?_
    split
    · trivial
    · refine Tame.bind (tame_forIn_arr (fun f b => ?_) _ _) fun r => ?_
      · split
        · refine Tame.bind (tame_part ..) fun u => Tame.bind (tame_part ..) fun v => Tame.bind (ih ..) fun q => ?_
          split <;> trivial
        · trivial
      · dsimp only; split <;> trivial
    · refine Tame.bind (tame_sizeOf _) fun n => Tame.bind (tame_forIn_range (fun f b => ?_) _ _) fun r => ?_
      · refine Tame.bind (tame_part ..) fun u => Tame.bind (tame_part ..) fun v => Tame.bind (ih ..) fun q => ?_
        split <;> trivial
      · dsimp only; split <;> trivial
    · trivial
theorem tame_eqGuard (op : BinOp) (t : TypeId) (x y : Operand) (a b : Value) : Tame P (eqGuard op t x y a b) := by
  unfold eqGuard
  repeat' first
    | exact trivial
    | exact tame_eqGuardIn .. | exact tame_program
    | (refine Tame.bind ?_ fun _ => ?_)
    | split
    | dsimp only
end
/-! Maps. -/
section
variable {P : Program}
theorem tame_checkKey (e : Bool) : ∀ (n : Nat) (t : TypeId) (v : Value), Tame P (Instr.checkKey e n t v)
  | 0, _, _ => trivial
  | n + 1, t, v => by
    have ih := tame_checkKey e n
    unfold Instr.checkKey
    refine Tame.bind (tame_underlying t) fun ds => ?_
    split
    · refine Tame.bind (tame_typeInfo _) fun info => ?_
      repeat' first
        | exact trivial
        | exact ih _ _
        | exact tame_typeStr _ | exact tame_runtimePanic _
        | (refine Tame.bind ?_ fun _ => ?_)
        | split
        | dsimp only
    · refine Tame.bind (tame_forIn_range (fun f b => ?_) _ _) fun r => trivial
      exact Tame.bind (tame_sizeOf _) fun n => Tame.bind (tame_part ..) fun v => Tame.bind (ih _ _) fun _ => trivial
    · refine Tame.bind (tame_forIn_arr (fun f b => ?_) _ _) fun r => trivial
      split
      · exact Tame.bind (tame_part ..) fun v => Tame.bind (ih _ _) fun _ => trivial
      · trivial
    all_goals trivial
theorem tame_findAsking (t : TypeId) {k : Value} (hk : Np k) : ∀ (l : List MapEntry) (i : Nat), Tame P (Instr.findAsking t k l i)
  | [], _ => trivial
  | e :: l, i => by
    unfold Instr.findAsking
    refine Tame.bind (tame_equal t _ hk) fun b => ?_
    split
    · trivial
    · exact tame_findAsking t hk l _
theorem tame_findKey (t : TypeId) {k : Value} (hk : Np k) (l : List MapEntry) : Tame P (Instr.findKey t k l) := by
  unfold Instr.findKey
  refine Tame.bind (tame_underlying t) fun ds => ?_
  split
  · trivial
  · exact tame_findAsking t hk l 0
theorem tame_lookupV (t : TypeId) (x : Value) {k : Value} (hk : Np k) (ok : Bool) : Tame P (Instr.lookup t x k ok) := by
  unfold Instr.lookup
  have h1 := fun e l => tame_checkKey (P := P) e 10000 l k
  have h2 := fun t l => tame_findKey (P := P) t hk l
  repeat' first
    | exact trivial
    | exact h1 _ _ | exact h2 _ _
    | exact tame_underlying _ | exact tame_getObj _ | exact tame_zeroValue _
    | (refine Tame.bind ?_ fun _ => ?_)
    | split
    | dsimp only
theorem tame_keyThatStays (x y : Value) : Tame P (Instr.keyThatStays x y) := by
  unfold Instr.keyThatStays
  split
  · trivial
  · exact Tame.bind (tame_choose _) fun _ => trivial
theorem tame_mapUpdateV (t : TypeId) (m : Value) {k : Value} (hk : Np k) (v : Value) : Tame P (Instr.mapUpdate t m k v) := by
  unfold Instr.mapUpdate
  have h1 := fun e l => tame_checkKey (P := P) e 10000 l k
  have h2 := fun t l => tame_findKey (P := P) t hk l
  repeat' first
    | exact trivial
    | exact h1 _ _ | exact h2 _ _ | exact tame_keyThatStays _ _
    | exact tame_underlying _ | exact tame_getObj _ | exact tame_setObj _ _ trivial | exact tame_runtimePanic _
    | (refine Tame.bind ?_ fun _ => ?_)
    | split
    | dsimp only
end
/-! Comparisons that a walk meets. -/
section
theorem TB.of {u u' : Value} (h : ∀ (P : Program) op t, Tame P (binOp op t u u')) : TB u u' := ⟨fun P op t x y => Tame.bind (tame_eqGuard op t x y u u') fun _ => h P op t⟩
theorem tame_eq_bin {P : Program} {op : BinOp} {t : TypeId} {u u' : Value} (he : Tame P (Op.equal t u u')) (h : (∃ b, u = .bool b) ∨ (∃ l, u = .agg l) ∨ u = .nilIface ∨ (∃ t v, u = .iface t v) ∨ (∃ a n c, u = .slice a n c) ∨ (∃ m, u = .map m) ∨ u = .nilFunc ∨ ∃ f x y, u = .func f x y) : Tame P (binOp op t u u') := by
  rcases h with ⟨b, rfl⟩ | ⟨l, rfl⟩ | rfl | ⟨t', v, rfl⟩ | ⟨a', n', c', rfl⟩ | ⟨m', rfl⟩ | rfl | ⟨f', x', y', rfl⟩ <;>
    (unfold binOp
     split <;> first
       | trivial
       | exact Tame.bind he fun _ => trivial
       | simp_all)
instance TB.bool (b : Bool) (u' : Value) : TB (.bool b) u' := TB.of fun _ _ _ => tame_eq_bin (tame_equal _ _ (.bool b)) (.inl ⟨b, rfl⟩)
theorem TB.agg {l : Array Value} (h : ∀ x ∈ l, Np x) (u' : Value) : TB (.agg l) u' := TB.of fun _ _ _ => tame_eq_bin (tame_equal _ _ (.agg l h)) (.inr (.inl ⟨l, rfl⟩))
theorem tame_equal_nil {P : Program} (t : TypeId) (tx : TypeId) (vx : Value) : Tame P (Op.equal t (.iface tx vx) .nilIface) := by
  show Tame P (Op.equalIn (9999 + 1) t (.iface tx vx) .nilIface)
  unfold Op.equalIn
  refine Tame.bind (tame_underlying t) fun ds => ?_
  split <;> first
    | trivial
    | simp_all
instance TB.ifaceNil (t : TypeId) (v : Value) : TB (.iface t v) .nilIface := TB.of fun _ _ t' => tame_eq_bin (tame_equal_nil t' t v) (.inr (.inr (.inr (.inl ⟨t, v, rfl⟩))))
instance TB.slice (a : Option Addr) (n c : Nat) (u' : Value) : TB (.slice a n c) u' := TB.of fun _ _ _ => tame_eq_bin (tame_equal _ _ (.slice a n c)) (.inr (.inr (.inr (.inr (.inl ⟨a, n, c, rfl⟩)))))
instance TB.map (m : Option Nat) (u' : Value) : TB (.map m) u' := TB.of fun _ _ _ => tame_eq_bin (tame_equal _ _ (.map m)) (.inr (.inr (.inr (.inr (.inr (.inl ⟨m, rfl⟩))))))
instance TB.nilFunc (u' : Value) : TB .nilFunc u' := TB.of fun _ _ _ => tame_eq_bin (tame_equal _ _ .nilFunc) (.inr (.inr (.inr (.inr (.inr (.inr (.inl rfl)))))))
instance TB.func (f : Fn) (x y : Array Value) (u' : Value) : TB (.func f x y) u' := TB.of fun _ _ _ => tame_eq_bin (tame_equal _ _ (.func f x y)) (.inr (.inr (.inr (.inr (.inr (.inr (.inr ⟨f, x, y, rfl⟩)))))))
class NpI (v : Value) : Prop where
  np : Np v
instance NpI.int (k : IntKind) (n : Int) : NpI (.int k n) := ⟨.int k n⟩
instance NpI.bool (b : Bool) : NpI (.bool b) := ⟨.bool b⟩
instance NpI.string (b : ByteArray) : NpI (.string b) := ⟨.string b⟩
instance NpI.slice (a : Option Addr) (n c : Nat) : NpI (.slice a n c) := ⟨.slice a n c⟩
class NpL (l : List Value) : Prop where
  np : ∀ x ∈ l, Np x
instance NpL.nil : NpL [] := ⟨by simp⟩
instance NpL.cons (v : Value) (l : List Value) [h : NpI v] [h' : NpL l] : NpL (v :: l) := ⟨by
  intro x hx
  rcases List.mem_cons.1 hx with rfl | hx
  · exact h.np
  · exact h'.np x hx⟩
instance TB.aggL (l : List Value) (u' : Value) [h : NpL l] : TB (.agg l.toArray) u' := TB.agg (by simpa using h.np) u'
instance TB.nilNil (u' : Value) : TB .nilIface u' := TB.of fun _ _ _ => tame_eq_bin (tame_equal _ _ .nilIface) (.inr (.inr (.inl rfl)))
end
section
variable {P : Program} {ev : Operand → Value} {dst : Option Tmp} {ty : TypeId} {pos : String} {after : Array Edge} {on_ : Option (Nat × Bool)}
theorem tame_lookup {t : TypeId} {x y : Operand} {ok : Bool} {k : Value} (hy : ev y = k) (hk : Np k) : Tame P (execOp ev ⟨dst, .lookup t x y ok, ty, pos, after, on_⟩) := tame_value _ (by rw [hy]; exact tame_lookupV _ _ hk _)
theorem tame_mapUpdate {t : TypeId} {m x y : Operand} {k : Value} (hx : ev x = k) (hk : Np k) : Tame P (execOp ev ⟨dst, .mapUpdate t m x y, ty, pos, after, on_⟩) := tame_unit _ (by rw [hx]; exact tame_mapUpdateV _ _ hk _)
end
end Go.Proofs.YtofkhehcnfiopaaDoor.N
namespace Go.Proofs.YtofkhehcnfiopaaDoor.N
open Go Go.RowKit
set_option autoImplicit false
set_option linter.unusedSectionVars false

/-- What a slot is known to hold. -/
def look : List (Nat × Value) → Nat → Option Value
  | [], _ => none
  | (a, v) :: r, n => bif Nat.beq a n then some v else look r n
theorem look_cons (d : Nat) (v : Value) (fr : List (Nat × Value)) (n : Nat) : look ((d, v) :: fr) n = if d = n then some v else look fr n := by
  show (bif Nat.beq d n then some v else look fr n) = _
  by_cases h : d = n
  · subst h
    simp
  · have : Nat.beq d n = false := by
      cases hb : Nat.beq d n with
      | false => rfl
      | true => exact absurd (Nat.eq_of_beq_eq_true hb) h
    simp [this, h]
/-- What an operand is. -/
def ev (fr : List (Nat × Value)) : Operand → Option Value
  | .tmp t => look fr t
  | .const v => some v
  | .global g => some (.pointer (some ⟨g, 0, none⟩))
  | .func f => some (.func (.func f) #[] #[])

/-- A thing of the call's own in memory: a block known whole; a slice's row. -/
inductive Res where
  | blk (b : Nat) (o : Obj)
  | row (e size : Nat) (A : Option Addr) (n c : Nat) (xs : List Value)
  | que (e size : Nat) (A : Option Addr) (n c : Nat) (xs : List Value)
/-- A slice of the call's own that may begin anywhere in its block. -/
def ownsQue (w : World) (B e size : Nat) (A : Option Addr) (n c : Nat) (xs : List Value) : Prop :=
  xs.length = n * size ∧ ((A = none ∧ n = 0 ∧ c = 0) ∨ ∃ g o cur, A = some ⟨g, o, none⟩ ∧ B ≤ g ∧ w.heap[g]? = some (.cells cur e (0, 0)) ∧ n ≤ c ∧ c ≤ maxLen ∧ o + c * size ≤ cur.size ∧ (cur.toList.drop o).take (n * size) = xs)
def Res.id : Res → Option Nat
  | .blk b _ => some b
  | .row _ _ A n c _ => (Value.slice A n c).ownBlock
  | .que _ _ A n c _ => (Value.slice A n c).ownBlock
def Res.ok (B : Nat) (w : World) : Res → Prop
  | .blk b o => B ≤ b ∧ w.heap[b]? = some o
  | .row e size A n c xs => w.ownsRow B e size (.slice A n c) n xs
  | .que e size A n c xs => ownsQue w B e size A n c xs

theorem Res.lt {B : Nat} {w : World} {r : Res} (h : r.ok B w) : ∀ k, r.id = some k → B ≤ k ∧ k < w.heap.size := by
  intro k hk
  cases r with
  | blk b o =>
    have hk' : some b = some k := hk
    cases hk'
    exact ⟨h.1, (Array.getElem?_eq_some_iff.1 h.2).1⟩
  | row e size A n c xs => exact World.ownsRow.lt h k hk
  | que e size A n c xs =>
    rcases h.2 with ⟨h1, _, _⟩ | ⟨g, o, cur, h1, hb, hg, _⟩
    · subst h1; cases hk
    · subst h1
      have hk' : some g = some k := hk
      cases hk'
      exact ⟨hb, (Array.getElem?_eq_some_iff.1 hg).1⟩
theorem Res.ok_mono {B B' : Nat} {w : World} {r : Res} (h : r.ok B w) (hB : B' ≤ B) : r.ok B' w := by
  cases r with
  | blk b o => exact ⟨Nat.le_trans hB h.1, h.2⟩
  | row e size A n c xs =>
    obtain ⟨h1, h2⟩ := h
    refine ⟨h1, ?_⟩
    rcases h2 with h2 | ⟨g, cap, cur, hv, hg, r⟩
    · exact .inl h2
    · exact .inr ⟨g, cap, cur, hv, Nat.le_trans hB hg, r⟩
  | que e size A n c xs =>
    obtain ⟨h1, h2⟩ := h
    refine ⟨h1, ?_⟩
    rcases h2 with h2 | ⟨g, o, cur, hv, hg, r⟩
    · exact .inl h2
    · exact .inr ⟨g, o, cur, hv, Nat.le_trans hB hg, r⟩
/-- A thing stays where its block is as it was. -/
theorem Res.keep {B : Nat} {w w' : World} {r : Res} (h : r.ok B w) (hk : ∀ k, r.id = some k → w'.heap[k]? = w.heap[k]?) : r.ok B w' := by
  cases r with
  | blk b o => exact ⟨h.1, (hk b rfl).trans h.2⟩
  | row e size A n c xs =>
    obtain ⟨h1, h2⟩ := h
    refine ⟨h1, ?_⟩
    rcases h2 with h2 | ⟨g, cap, cur, hv, hg, hh, r⟩
    · exact .inl h2
    · refine .inr ⟨g, cap, cur, hv, hg, ?_, r⟩
      rw [hk g (by show (Value.slice A n c).ownBlock = some g; rw [hv]; rfl)]
      exact hh
  | que e size A n c xs =>
    obtain ⟨h1, h2⟩ := h
    refine ⟨h1, ?_⟩
    rcases h2 with h2 | ⟨g, o, cur, hv, hg, hh, r⟩
    · exact .inl h2
    · refine .inr ⟨g, o, cur, hv, hg, ?_, r⟩
      rw [hk g (by show (Value.slice A n c).ownBlock = some g; rw [hv]; rfl)]
      exact hh

/-- What a walk never turns: the program; the first block of the call's own; the world at its beginning; how many slots there are; the deferred calls. -/
structure Ctx where
  P : Program
  B : Nat
  w0 : World
  N : Nat
  ds : List Deferred
/-- Where the walk stands: N slots, of which those of fr are known; what was there below B is as it was; the things of hp are the call's own. -/
structure At (C : Ctx) (fr : List (Nat × Value)) (hp : List Res) (a : Act) (w : World) : Prop where
  size : a.tmps.size = C.N
  defs : a.defers = C.ds
  slots : ∀ t v, look fr t = some v → a.tmps.getD t undef = v
  below : Below C.B C.w0 w
  base : C.B ≤ w.heap.size
  own : ∀ r, r ∈ hp → r.ok C.B w
  apart : (hp.filterMap Res.id).Nodup

section
variable {C : Ctx} {fr : List (Nat × Value)} {hp : List Res} {a : Act} {w : World}

theorem At.eval (h : At C fr hp a w) {x : Operand} {v : Value} (hx : ev fr x = some v) : a.eval x = v := by
  cases x with
  | tmp t => exact h.slots t v hx
  | const u => exact Option.some.inj hx
  | global g => exact Option.some.inj hx
  | func f => exact Option.some.inj hx

theorem At.put (h : At C fr hp a w) {d : Nat} (hd : d < C.N) (v : Value) : At C ((d, v) :: fr) hp (a.put (some d) v) w := by
  refine ⟨?_, h.defs, ?_, h.below, h.base, h.own, h.apart⟩
  · simp [Act.put, h.size]
  · intro t u ht
    rw [look_cons] at ht
    show (a.tmps.setIfInBounds d v).getD t undef = u
    by_cases e : d = t
    · subst e
      rw [if_pos rfl] at ht
      have hs : d < a.tmps.size := by rw [h.size]; exact hd
      simp only [Array.getD_eq_getD_getElem?, Array.getElem?_setIfInBounds, if_true, if_pos hs]
      simpa using ht
    · rw [if_neg e] at ht
      rw [← h.slots t u ht]
      simp only [Array.getD_eq_getD_getElem?, Array.getElem?_setIfInBounds]
      rw [if_neg e]

theorem At.world {hp' : List Res} {w' : World} (h : At C fr hp a w) (hb : Below C.B w w') (ho : ∀ r, r ∈ hp' → r.ok C.B w') (ha : (hp'.filterMap Res.id).Nodup) :
    At C fr hp' a w' :=
  ⟨h.size, h.defs, h.slots, h.below.trans hb, Nat.le_trans h.base hb.size, ho, ha⟩

theorem At.ids_lt (h : At C fr hp a w) : ∀ k, k ∈ hp.filterMap Res.id → C.B ≤ k ∧ k < w.heap.size := by
  intro k hk
  obtain ⟨r, hr, hrk⟩ := List.mem_filterMap.1 hk
  exact Res.lt (h.own r hr) k hrk

/-- Behind steps that leave alone all that was there. -/
theorem At.later (h : At C fr hp a w) {w' : World} (hb : Below w.heap.size w w') : At C fr hp a w' :=
  h.world (hb.mono h.base) (fun r hr => Res.keep (h.own r hr) (fun k hk => hb.block k (Res.lt (h.own r hr) k hk).2)) h.apart

/-- New things above all that was there. -/
theorem At.grew (h : At C fr hp a w) {w' : World} (hb : Below w.heap.size w w') {rs : List Res} (hr : ∀ r, r ∈ rs → r.ok w.heap.size w') (hn : (rs.filterMap Res.id).Nodup) :
    At C fr (rs ++ hp) a w' := by
  have hl := h.later hb
  refine ⟨hl.size, hl.defs, hl.slots, hl.below, hl.base, ?_, ?_⟩
  · intro r hrm
    rcases List.mem_append.1 hrm with h1 | h1
    · exact Res.ok_mono (hr r h1) h.base
    · exact hl.own r h1
  · rw [List.filterMap_append, List.nodup_append]
    refine ⟨hn, hl.apart, ?_⟩
    intro x hx y hy e
    subst e
    obtain ⟨r, hrm, hrx⟩ := List.mem_filterMap.1 hx
    have h1 := (Res.lt (hr r hrm) x hrx).1
    have h2 := (h.ids_lt x hy).2
    omega

theorem At.alloc (h : At C fr hp a w) (o : Obj) : At C fr (.blk w.heap.size o :: hp) a (w.alloc o) := by
  refine h.grew (rs := [.blk w.heap.size o]) ((Below.refl _ _).alloc (Nat.le_refl _) o) ?_ (by simp [Res.id])
  intro r hr
  simp at hr
  subst hr
  exact ⟨Nat.le_refl _, heap_alloc_new w o⟩

/-- A thing of the list in the place of another. -/
inductive Upd (r r' : Res) : List Res → List Res → Prop
  | head (l : List Res) : Upd r r' (r :: l) (r' :: l)
  | tail (x : Res) {l l' : List Res} (h : Upd r r' l l') : Upd r r' (x :: l) (x :: l')
theorem Upd.mem {r r' : Res} {l l' : List Res} (h : Upd r r' l l') : r ∈ l := by
  induction h with
  | head l => simp
  | tail x _ ih => simp [ih]
theorem Upd.split {r r' : Res} {l l' : List Res} (h : Upd r r' l l') : ∃ l1 l2, l = l1 ++ r :: l2 ∧ l' = l1 ++ r' :: l2 := by
  induction h with
  | head l => exact ⟨[], l, rfl, rfl⟩
  | tail x _ ih =>
    obtain ⟨l1, l2, e, e'⟩ := ih
    exact ⟨x :: l1, l2, by rw [e]; rfl, by rw [e']; rfl⟩

/-- One thing turns; whatever else was there stays. -/
theorem At.turn {hp' : List Res} {r r' : Res} {w' : World} (h : At C fr hp a w) (hu : Upd r r' hp hp') (hg : w.grownBy w' r.id) (hr : r'.ok C.B w')
    (hid : ∀ k, r'.id = some k → r.id = some k ∨ w.heap.size ≤ k) : At C fr hp' a w' := by
  obtain ⟨l1, l2, rfl, rfl⟩ := hu.split
  have hrB : ∀ k, r.id = some k → C.B ≤ k := fun k hk => (Res.lt (h.own r (by simp)) k hk).1
  have hb : Below C.B w w' := (Below.refl C.B w).grown hg h.base hrB
  have hap := h.apart
  have other : ∀ x, x ∈ l1 ++ l2 → x.ok C.B w' := by
    intro x hx
    have hxm : x ∈ l1 ++ r :: l2 := by
      rcases List.mem_append.1 hx with h1 | h1
      · exact List.mem_append.2 (.inl h1)
      · exact List.mem_append.2 (.inr (List.mem_cons.2 (.inr h1)))
    refine Res.keep (h.own x hxm) fun k hk => hg.block k (Res.lt (h.own x hxm) k hk).2 ?_
    intro e
    have hmem : k ∈ (l1 ++ l2).filterMap Res.id := List.mem_filterMap.2 ⟨x, hx, hk⟩
    rw [List.filterMap_append] at hap hmem
    rw [List.filterMap_cons_some e.symm] at hap
    rw [List.nodup_append] at hap
    obtain ⟨_, h2, h3⟩ := hap
    rw [List.nodup_cons] at h2
    rcases List.mem_append.1 hmem with h1 | h1
    · exact h3 k h1 k (by simp) rfl
    · exact h2.1 h1
  refine h.world hb ?_ ?_
  · intro x hx
    rcases List.mem_append.1 hx with h1 | h1
    · exact other x (List.mem_append.2 (.inl h1))
    · rcases List.mem_cons.1 h1 with h2 | h2
      · subst h2; exact hr
      · exact other x (List.mem_append.2 (.inr h2))
  · rw [List.filterMap_append] at hap ⊢
    cases hri : r'.id with
    | none =>
      rw [List.filterMap_cons_none hri]
      cases hr0 : r.id with
      | none => rw [List.filterMap_cons_none hr0] at hap; exact hap
      | some k =>
        rw [List.filterMap_cons_some hr0] at hap
        rw [List.nodup_append] at hap ⊢
        obtain ⟨h1, h2, h3⟩ := hap
        rw [List.nodup_cons] at h2
        exact ⟨h1, h2.2, fun x hx y hy => h3 x hx y (List.mem_cons.2 (.inr hy))⟩
    | some k' =>
      have hl : ∀ k, k ∈ l1.filterMap Res.id ∨ k ∈ l2.filterMap Res.id → k < w.heap.size := by
        intro k hk
        refine (h.ids_lt k ?_).2
        rw [List.filterMap_append]
        rcases hk with hk | hk
        · exact List.mem_append.2 (.inl hk)
        · refine List.mem_append.2 (.inr ?_)
          obtain ⟨x, hx, hxk⟩ := List.mem_filterMap.1 hk
          exact List.mem_filterMap.2 ⟨x, List.mem_cons.2 (.inr hx), hxk⟩
      have hnot : k' ∉ l1.filterMap Res.id ∧ k' ∉ l2.filterMap Res.id := by
        rcases hid k' hri with h0 | h0
        · rw [List.filterMap_cons_some h0] at hap
          rw [List.nodup_append] at hap
          obtain ⟨_, h2, h3⟩ := hap
          rw [List.nodup_cons] at h2
          exact ⟨fun hm => h3 k' hm k' (by simp) rfl, h2.1⟩
        · exact ⟨fun hm => by have := hl k' (.inl hm); omega, fun hm => by have := hl k' (.inr hm); omega⟩
      have hap' : (l1.filterMap Res.id ++ l2.filterMap Res.id).Nodup := by
        cases hr0 : r.id with
        | none => rw [List.filterMap_cons_none hr0] at hap; exact hap
        | some k =>
          rw [List.filterMap_cons_some hr0] at hap
          rw [List.nodup_append] at hap ⊢
          obtain ⟨h1, h2, h3⟩ := hap
          rw [List.nodup_cons] at h2
          exact ⟨h1, h2.2, fun x hx y hy => h3 x hx y (List.mem_cons.2 (.inr hy))⟩
      rw [List.filterMap_cons_some hri]
      rw [List.nodup_append] at hap' ⊢
      obtain ⟨h1, h2, h3⟩ := hap'
      refine ⟨h1, ?_, ?_⟩
      · rw [List.nodup_cons]; exact ⟨hnot.2, h2⟩
      · intro x hx y hy
        rcases List.mem_cons.1 hy with h4 | h4
        · subst h4; intro e; subst e; exact hnot.1 hx
        · exact h3 x hx y h4

theorem At.mem_blk (h : At C fr hp a w) {b : Nat} {o : Obj} (hm : Res.blk b o ∈ hp) : w.heap[b]? = some o := (h.own _ hm).2

theorem grownBy_setCell (w : World) (p : Addr) (v : Value) : w.grownBy (w.setCell p v) (some p.block) :=
  ⟨rfl, rfl, rfl, by simp [World.setCell], fun k _ hk => Below.heap_setCell w p v k (fun e => hk (by rw [e]))⟩

theorem heap_setCell_at {w : World} {b off : Nat} {cs : Array Value} {t : TypeId} (h : w.heap[b]? = some (.cells cs t (0, 0))) (v : Value) :
    (w.setCell ⟨b, off, none⟩ v).heap[b]? = some (.cells (cs.setIfInBounds off v) t (0, 0)) := by
  simp [World.setCell, Array.getElem?_modify, h]

theorem At.setCell (h : At C fr hp a w) {b off : Nat} {cs : Array Value} {t : TypeId} {v : Value} {hp' : List Res}
    (hu : Upd (.blk b (.cells cs t (0, 0))) (.blk b (.cells (cs.setIfInBounds off v) t (0, 0))) hp hp') : At C fr hp' a (w.setCell ⟨b, off, none⟩ v) := by
  have hm := hu.mem
  have hb := h.own _ hm
  exact h.turn hu (grownBy_setCell w ⟨b, off, none⟩ v) ⟨hb.1, heap_setCell_at hb.2 v⟩ (fun k hk => .inl hk)

theorem At.drop_res (h : At C fr hp a w) {hp' : List Res} (hs : hp'.Sublist hp) : At C fr hp' a w :=
  ⟨h.size, h.defs, h.slots, h.below, h.base, fun r hr => h.own r (hs.subset hr), h.apart.sublist (hs.filterMap _)⟩

/-- Fewer slots. -/
inductive Sub : List (Nat × Value) → List (Nat × Value) → Prop
  | nil (fr : List (Nat × Value)) : Sub [] fr
  | cons {fr fr' : List (Nat × Value)} {t : Nat} {v : Value} (h : look fr t = some v) (hs : Sub fr' fr) : Sub ((t, v) :: fr') fr
theorem Sub.look {fr fr' : List (Nat × Value)} (h : Sub fr' fr) : ∀ t v, look fr' t = some v → Go.Proofs.YtofkhehcnfiopaaDoor.N.look fr t = some v := by
  induction h with
  | nil fr => intro t v h; cases h
  | @cons fr fr' d u h0 _ ih =>
    intro t v h
    rw [look_cons] at h
    by_cases e : d = t
    · subst e
      rw [if_pos rfl] at h
      rw [← h]; exact h0
    · rw [if_neg e] at h
      exact ih t v h
theorem At.drop_slots_of (h : At C fr hp a w) {fr' : List (Nat × Value)} (hs : ∀ t v, Go.Proofs.YtofkhehcnfiopaaDoor.N.look fr' t = some v → Go.Proofs.YtofkhehcnfiopaaDoor.N.look fr t = some v) : At C fr' hp a w :=
  ⟨h.size, h.defs, fun t v ht => h.slots t v (hs t v ht), h.below, h.base, h.own, h.apart⟩
theorem At.drop_slots (h : At C fr hp a w) {fr' : List (Nat × Value)} (hs : Sub fr' fr) : At C fr' hp a w :=
  ⟨h.size, h.defs, fun t v ht => h.slots t v (hs.look t v ht), h.below, h.base, h.own, h.apart⟩
end

/-- The others' doing leaves the walk where it stands. -/
theorem At.rely {C : Ctx} {fr : List (Nat × Value)} {hp : List Res} {a : Act} {w w' : World} (h : At C fr hp a w) (hr : Rl w w') : At C fr hp a w' := h.later hr
variable [I : Sys]
/-- A list of operations, from where the walk stands. -/
def Lst (C : Ctx) (ops : Array Oper) (Q : Exit → Act → World → Prop) (l : List Oper) (fr : List (Nat × Value)) (hp : List Res) : Prop :=
  ∀ a w, At C fr hp a w → wpList C.P ops Q l a w
/-- A piece of code, from where the walk stands. -/
def Cod (C : Ctx) (c : Code) (Q : Exit → Act → World → Prop) (fr : List (Nat × Value)) (hp : List Res) : Prop :=
  ∀ a w, At C fr hp a w → wp C.P c Q a w
/-- A way out of a piece of code. -/
def Ex (C : Ctx) (Q : Exit → Act → World → Prop) (e : Exit) (fr : List (Nat × Value)) (hp : List Res) : Prop :=
  ∀ a w, At C fr hp a w → Q e a w

/-- A block of the call's own, found by its number. -/
class InB (b : Nat) (o : outParam Obj) (hp : List Res) : Prop where
  mem : Res.blk b o ∈ hp
instance InB.tail (b : Nat) (o : Obj) (x : Res) (l : List Res) [h : InB b o l] : InB b o (x :: l) := ⟨List.mem_cons.2 (.inr h.mem)⟩
instance InB.head (b : Nat) (o : Obj) (l : List Res) : InB b o (.blk b o :: l) := ⟨List.mem_cons.2 (.inl rfl)⟩
/-- .. and what is there once it holds something else. -/
class UpB (b : Nat) (o : outParam Obj) (o' : Obj) (hp : List Res) (hp' : outParam (List Res)) : Prop where
  upd : Upd (.blk b o) (.blk b o') hp hp'
instance UpB.tail (b : Nat) (o o' : Obj) (x : Res) (l l' : List Res) [h : UpB b o o' l l'] : UpB b o o' (x :: l) (x :: l') := ⟨.tail x h.upd⟩
instance UpB.head (b : Nat) (o o' : Obj) (l : List Res) : UpB b o o' (.blk b o :: l) (.blk b o' :: l) := ⟨.head l⟩
/-- A row, found by its slice's address. -/
class InR (A : Option Addr) (e size n c : outParam Nat) (xs : outParam (List Value)) (hp : List Res) : Prop where
  mem : Res.row e size A n c xs ∈ hp
instance InR.tail (A : Option Addr) (e size n c : Nat) (xs : List Value) (x : Res) (l : List Res) [h : InR A e size n c xs l] : InR A e size n c xs (x :: l) := ⟨List.mem_cons.2 (.inr h.mem)⟩
instance InR.head (A : Option Addr) (e size n c : Nat) (xs : List Value) (l : List Res) : InR A e size n c xs (.row e size A n c xs :: l) := ⟨List.mem_cons.2 (.inl rfl)⟩
class UpR (A : Option Addr) (e size n c : outParam Nat) (xs : outParam (List Value)) (r' : Res) (hp : List Res) (hp' : outParam (List Res)) : Prop where
  upd : Upd (.row e size A n c xs) r' hp hp'
instance UpR.tail (A : Option Addr) (e size n c : Nat) (xs : List Value) (r' x : Res) (l l' : List Res) [h : UpR A e size n c xs r' l l'] : UpR A e size n c xs r' (x :: l) (x :: l') := ⟨.tail x h.upd⟩
instance UpR.head (A : Option Addr) (e size n c : Nat) (xs : List Value) (r' : Res) (l : List Res) : UpR A e size n c xs r' (.row e size A n c xs :: l) (r' :: l) := ⟨.head l⟩

/-- The cells of a value. -/
class Cells (v : Value) (l : outParam (List Value)) : Prop where
  eq : v.cells = l.toArray
  one : ∀ u ∈ l, u.oneCell' = true
instance Cells.int (k : IntKind) (n : Int) : Cells (.int k n) [.int k n] := ⟨rfl, by simp [Value.oneCell']⟩
instance Cells.bool (b : Bool) : Cells (.bool b) [.bool b] := ⟨rfl, by simp [Value.oneCell']⟩
instance Cells.string (b : ByteArray) : Cells (.string b) [.string b] := ⟨rfl, by simp [Value.oneCell']⟩
instance Cells.pointer (b : Option Addr) : Cells (.pointer b) [.pointer b] := ⟨rfl, by simp [Value.oneCell']⟩
instance Cells.slice (b : Option Addr) (n c : Nat) : Cells (.slice b n c) [.slice b n c] := ⟨rfl, by simp [Value.oneCell']⟩
instance Cells.map (b : Option Nat) : Cells (.map b) [.map b] := ⟨rfl, by simp [Value.oneCell']⟩
instance Cells.func (f : Fn) (x y : Array Value) : Cells (.func f x y) [.func f x y] := ⟨rfl, by simp [Value.oneCell']⟩
instance Cells.nilFunc : Cells .nilFunc [.nilFunc] := ⟨rfl, by simp [Value.oneCell']⟩
instance Cells.iface (t : TypeId) (v : Value) : Cells (.iface t v) [.iface t v] := ⟨rfl, by simp [Value.oneCell']⟩
instance Cells.nilIface : Cells .nilIface [.nilIface] := ⟨rfl, by simp [Value.oneCell']⟩
/-- Cells that are stored as they are. -/
class Ones (l : List Value) : Prop where
  one : ∀ u ∈ l, u.oneCell' = true
instance Ones.nil : Ones [] := ⟨by simp⟩
instance Ones.cons (v : Value) (l : List Value) [h : Cells v [v]] [h' : Ones l] : Ones (v :: l) := ⟨by
  intro u hu
  rcases List.mem_cons.1 hu with e | e
  · subst e; exact h.one u (by simp)
  · exact h'.one u e⟩
instance Cells.agg (l : List Value) [h : Ones l] : Cells (.agg l.toArray) l := ⟨rfl, h.one⟩

/-- Is it a struct's or an array's type? -/
def aggB (P : Program) (t : TypeId) : Bool :=
  match P.underlying t with
  | some (.struct _) => true
  | some (.array _ _) => true
  | _ => false
/-- A type's row of the table. -/
def TI (P : Program) (t : TypeId) (z : Value) (size bytes : Nat) : Prop := ∃ i, P.info? t = some i ∧ i.zero = some z ∧ i.size = size ∧ i.bytes = bytes
theorem TI.of {P : Program} {t : TypeId} {z : Value} {size bytes : Nat} (h : (P.info? t).map (fun i => (i.zero, i.size, i.bytes)) = some (some z, size, bytes)) : TI P t z size bytes :=
  info_parts h
/-- A field's type and place. -/
def FI (P : Program) (s : TypeId) (f : Nat) (ft off : Nat) : Prop := ∃ fs fd, P.underlying s = some (.struct fs) ∧ fs[f]? = some fd ∧ fd.type = ft ∧ fd.offset = off

section
variable {C : Ctx} {fr : List (Nat × Value)} {hp hp' : List Res} {a : Act} {w : World} {ops : Array Oper} {Q : Exit → Act → World → Prop} {rest : List Oper}
  {d : Nat} {ty : TypeId} {pos : String} {after : Array Edge}

theorem lt_of_blt {a b : Nat} (h : Nat.blt a b = true) : a < b := by simpa [Nat.blt_eq] using h

theorem run_isAgg {P : Program} {t : TypeId} {b : Bool} (h : aggB P t = b) (hu : P.underlying t ≠ none) (w : World) : (isAgg t).run P w = .ok b w := by
  unfold aggB at h
  cases hd : P.underlying t with
  | none => exact absurd hd hu
  | some u =>
    rw [hd] at h
    subst h
    unfold isAgg
    simp only [Sem.run_bind, run_underlying hd, Result.andThen_ok]
    cases u <;> rfl

/-- One operation, in whatever world the others have left. -/
theorem lst_of {o : Oper} (hg : o.guard = none) (h : ∀ a w, At C fr hp a w → OpNow C.P o a w (wpList C.P ops Q rest) Q) : Lst C ops Q (o :: rest) fr hp :=
  fun a w ha => wpList_now (by simp [Region.wanted, hg]) fun v₁ hv => h a v₁ (ha.rely hv)
/-- One operation that yields a value. -/
theorem lst_value {op : Op} (v : Value) (hd : Nat.blt d C.N = true) (ht : ∀ a w, At C fr hp a w → Tame C.P (execOp a.eval ⟨some d, op, ty, pos, after, none⟩))
    (h : ∀ a w, At C fr hp a w → ∃ w', (execOp a.eval ⟨some d, op, ty, pos, after, none⟩).run C.P w = .ok (.value v) w' ∧ At C fr hp' a w')
    (k : Lst C ops Q rest ((d, v) :: fr) hp') : Lst C ops Q (⟨some d, op, ty, pos, after, none⟩ :: rest) fr hp := by
  refine lst_of rfl fun a w ha => ⟨ht a w ha, ?_⟩
  obtain ⟨w', hr, ha'⟩ := h a w ha
  rw [hr]
  exact k _ _ (ha'.put (lt_of_blt hd) v)
/-- One operation that yields none. -/
theorem lst_skip {op : Op} (ht : ∀ a w, At C fr hp a w → Tame C.P (execOp a.eval ⟨none, op, ty, pos, after, none⟩))
    (h : ∀ a w, At C fr hp a w → ∃ w', (execOp a.eval ⟨none, op, ty, pos, after, none⟩).run C.P w = .ok .skip w' ∧ At C fr hp' a w')
    (k : Lst C ops Q rest fr hp') : Lst C ops Q (⟨none, op, ty, pos, after, none⟩ :: rest) fr hp := by
  refine lst_of rfl fun a w ha => ⟨ht a w ha, ?_⟩
  obtain ⟨w', hr, ha'⟩ := h a w ha
  rw [hr]
  exact k _ _ ha'
theorem lst_nil (k : Ex C Q .normal fr hp) : Lst C ops Q [] fr hp := fun a w ha => wpList_nil (k a w ha)

theorem lst_move {x : Operand} {v : Value} (hd : Nat.blt d C.N = true) (hx : ev fr x = some v) (k : Lst C ops Q rest ((d, v) :: fr) hp) : Lst C ops Q (⟨some d, .move x, ty, pos, after, none⟩ :: rest) fr hp :=
  lst_value v hd (fun _ _ _ => tame_move _) (fun a w ha => ⟨w, by simp [execOp, ha.eval hx], ha⟩) k
theorem lst_assign {x : Operand} {v : Value} (hd : Nat.blt d C.N = true) (hx : ev fr x = some v) (k : Lst C ops Q rest ((d, v) :: fr) hp) : Lst C ops Q (⟨some d, .assign x, ty, pos, after, none⟩ :: rest) fr hp :=
  lst_value v hd (fun _ _ _ => tame_assign _) (fun a w ha => ⟨w, by simp [execOp, ha.eval hx], ha⟩) k
theorem lst_pick_true {c x y : Operand} {v : Value} (hd : Nat.blt d C.N = true) (hc : ev fr c = some (.bool true)) (hx : ev fr x = some v)
    (k : Lst C ops Q rest ((d, v) :: fr) hp) : Lst C ops Q (⟨some d, .pick c x y, ty, pos, after, none⟩ :: rest) fr hp :=
  lst_value _ hd (fun _ _ _ => tame_pick _ _ _) (fun a w ha => ⟨w, by simp [execOp, ha.eval hc, ha.eval hx, asBool], ha⟩) k
theorem lst_pick_false {c x y : Operand} {v : Value} (hd : Nat.blt d C.N = true) (hc : ev fr c = some (.bool false)) (hy : ev fr y = some v)
    (k : Lst C ops Q rest ((d, v) :: fr) hp) : Lst C ops Q (⟨some d, .pick c x y, ty, pos, after, none⟩ :: rest) fr hp :=
  lst_value _ hd (fun _ _ _ => tame_pick _ _ _) (fun a w ha => ⟨w, by simp [execOp, ha.eval hc, ha.eval hy, asBool], ha⟩) k
theorem lst_not {x : Operand} {b : Bool} {t : TypeId} (hd : Nat.blt d C.N = true) (hx : ev fr x = some (.bool b)) (k : Lst C ops Q rest ((d, .bool (!b)) :: fr) hp) :
    Lst C ops Q (⟨some d, .unOp .not t x, ty, pos, after, none⟩ :: rest) fr hp :=
  lst_value _ hd (fun _ _ _ => tame_unOp ..) (fun a w ha => ⟨w, by simp [execOp, ha.eval hx, Op.unary], ha⟩) k
theorem lst_extract {x : Operand} {vs : List Value} {i : Nat} {v : Value} (hd : Nat.blt d C.N = true) (hx : ev fr x = some (.tuple vs.toArray)) (hv : vs[i]? = some v) (k : Lst C ops Q rest ((d, v) :: fr) hp) :
    Lst C ops Q (⟨some d, .extract x i, ty, pos, after, none⟩ :: rest) fr hp :=
  lst_value _ hd (fun _ _ _ => tame_extract ..) (fun a w ha => ⟨w, by simp [execOp, ha.eval hx, Instr.extract, hv], ha⟩) k

theorem ev_args {xs : Array Operand} {vs : List Value} (ha : At C fr hp a w) (h : xs.toList.map (ev fr) = vs.map some) : xs.map a.eval = vs.toArray := by
  have : ∀ (l : List Operand) (vs : List Value), l.map (ev fr) = vs.map some → l.map a.eval = vs := by
    intro l
    induction l with
    | nil => intro vs h; cases vs with
      | nil => rfl
      | cons => simp at h
    | cons x l ih =>
      intro vs h
      cases vs with
      | nil => simp at h
      | cons v vs =>
        simp only [List.map_cons, List.cons.injEq] at h
        rw [List.map_cons, ha.eval h.1, ih vs h.2]
  obtain ⟨l⟩ := xs
  simp only [List.map_toArray]
  rw [this l vs h]

theorem lst_makeFunc {fn : Fn} {first captured : Array Operand} {fs cs : List Value} (hd : Nat.blt d C.N = true) (hf : first.toList.map (ev fr) = fs.map some) (hc : captured.toList.map (ev fr) = cs.map some)
    (k : Lst C ops Q rest ((d, .func fn fs.toArray cs.toArray) :: fr) hp) : Lst C ops Q (⟨some d, .makeFunc fn first captured, ty, pos, after, none⟩ :: rest) fr hp :=
  lst_value _ hd (fun _ _ _ => tame_makeFunc ..) (fun a w ha => ⟨w, by simp only [execOp, ev_args ha hf, ev_args ha hc, Instr.makeFunc, Sem.run_bind, Sem.run_pure, Result.andThen_ok], ha⟩) k

theorem run_newVar {P : Program} (t : TypeId) (v : Value) (w : World) : (newVar t v).run P w = .ok ⟨w.heap.size, 0, none⟩ (w.alloc (.cells v.cells t)) := rfl

theorem lst_box {t : TypeId} {x : Operand} {v : Value} {l : List Value} (hd : Nat.blt d C.N = true) (hx : ev fr x = some v) [hl : Cells v l]
    (k : ∀ b, Lst C ops Q rest ((d, .pointer (some ⟨b, 0, none⟩)) :: fr) (.blk b (.cells l.toArray t (0, 0)) :: hp)) : Lst C ops Q (⟨some d, .box t x, ty, pos, after, none⟩ :: rest) fr hp := by
  refine lst_of rfl fun a w ha => ?_
  refine ⟨tame_box .., ?_⟩
  have hr : (execOp a.eval ⟨some d, .box t x, ty, pos, after, none⟩).run C.P w = .ok (.value (.pointer (some ⟨w.heap.size, 0, none⟩))) (w.alloc (.cells l.toArray t)) := by
    simp [execOp, Instr.box, ha.eval hx, run_newVar, hl.eq]
  rw [hr]
  exact k w.heap.size _ _ ((ha.alloc (.cells l.toArray t)).put (lt_of_blt hd) _)

theorem lst_alloc {t : TypeId} {z : Value} {size bytes : Nat} {l : List Value} (hd : Nat.blt d C.N = true) (hz : TI C.P t z size bytes) [hl : Cells z l]
    (k : ∀ b, Lst C ops Q rest ((d, .pointer (some ⟨b, 0, none⟩)) :: fr) (.blk b (.cells l.toArray t (0, 0)) :: hp)) : Lst C ops Q (⟨some d, .alloc t, ty, pos, after, none⟩ :: rest) fr hp := by
  refine lst_of rfl fun a w ha => ?_
  obtain ⟨i, hi, hz0, _, _⟩ := hz
  refine ⟨tame_alloc .., ?_⟩
  have hr : (execOp a.eval ⟨some d, .alloc t, ty, pos, after, none⟩).run C.P w = .ok (.value (.pointer (some ⟨w.heap.size, 0, none⟩))) (w.alloc (.cells l.toArray t)) := by
    simp [execOp, Instr.alloc, zeroValue, typeInfo, hi, hz0, run_newVar, hl.eq]
  rw [hr]
  exact k w.heap.size _ _ ((ha.alloc (.cells l.toArray t)).put (lt_of_blt hd) _)

theorem lst_nilCheck {x : Operand} {p : Addr} (hd : Nat.blt d C.N = true) (hx : ev fr x = some (.pointer (some p))) (k : Lst C ops Q rest ((d, .pointer (some p)) :: fr) hp) :
    Lst C ops Q (⟨some d, .nilCheck x, ty, pos, after, none⟩ :: rest) fr hp :=
  lst_value _ hd (fun a w ha => tame_nilCheck (ha.eval hx)) (fun a w ha => ⟨w, by simp [execOp, ha.eval hx], ha⟩) k
theorem addr_add (b o n : Nat) : (⟨b, o, none⟩ : Addr).add n = ⟨b, o + n, none⟩ := by unfold Addr.add; split <;> simp_all
theorem lst_field {x : Operand} {s : TypeId} {f : Nat} {b o ft off : Nat} {z : Value} {n m : Nat} (hd : Nat.blt d C.N = true) (hx : ev fr x = some (.pointer (some ⟨b, o, none⟩)))
    (hf : FI C.P s f ft off) (hi : TI C.P ft z (n + 1) m)
    (k : Lst C ops Q rest ((d, .pointer (some ⟨b, o + off, none⟩)) :: fr) hp) : Lst C ops Q (⟨some d, .fieldAddr s x f, ty, pos, after, none⟩ :: rest) fr hp := by
  obtain ⟨fs, fd, h1, h2, h3, h4⟩ := hf
  obtain ⟨i, hi, _, hs, _⟩ := hi
  subst h3; subst h4
  refine lst_value _ hd (fun a w ha => tame_field (ha.eval hx) h1 h2 hi hs) (fun a w ha => ⟨w, ?_, ha⟩) k
  simp [execOp, ha.eval hx, Instr.fieldAt, run_underlying h1, h2, Instr.sureAddr, fieldPlace, sizeOf, typeInfo, hi, hs, addr_add]
theorem lst_field_z {x : Operand} {s : TypeId} {f : Nat} {b ft off : Nat} {z : Value} {n m : Nat} (hd : Nat.blt d C.N = true) (hx : ev fr x = some (.pointer (some ⟨b, 0, none⟩)))
    (hf : FI C.P s f ft off) (hi : TI C.P ft z (n + 1) m)
    (k : Lst C ops Q rest ((d, .pointer (some ⟨b, off, none⟩)) :: fr) hp) : Lst C ops Q (⟨some d, .fieldAddr s x f, ty, pos, after, none⟩ :: rest) fr hp :=
  lst_field hd hx hf hi (by rw [Nat.zero_add]; exact k)

/-- A part of a list put into it. -/
class Splice (cur : List Value) (o : Nat) (vs : List Value) (out : outParam (List Value)) : Prop where
  eq : out = cur.take o ++ vs ++ cur.drop (o + vs.length)
  len : o + vs.length ≤ cur.length
instance Splice.nil (cur : List Value) : Splice cur 0 [] cur := ⟨by simp, by simp⟩
instance Splice.cons (c v : Value) (cur vs out : List Value) [h : Splice cur 0 vs out] : Splice (c :: cur) 0 (v :: vs) (v :: out) := ⟨by
  have := h.eq
  simp at this ⊢
  exact this, by have := h.len; simp at this ⊢; omega⟩
instance Splice.succ (c : Value) (cur vs out : List Value) (o : Nat) [h : Splice cur o vs out] : Splice (c :: cur) (o + 1) vs (c :: out) := ⟨by
  have := h.eq
  simp only [List.take_succ_cons, List.cons_append, Nat.add_right_comm o 1, List.drop_succ_cons]
  rw [this], by have := h.len; simp at this ⊢; omega⟩
/-- A part of a list. -/
class Ext (cs : List Value) (o n : Nat) (out : outParam (List Value)) : Prop where
  eq : out = (cs.drop o).take n
  len : o + n ≤ cs.length
instance Ext.zero (cs : List Value) : Ext cs 0 0 [] := ⟨by simp, by simp⟩
instance Ext.cons (c : Value) (cs out : List Value) (n : Nat) [h : Ext cs 0 n out] : Ext (c :: cs) 0 (n + 1) (c :: out) := ⟨by
  have := h.eq
  simp at this ⊢
  exact this, by have := h.len; simp at this ⊢; omega⟩
instance Ext.succ (c : Value) (cs out : List Value) (o n : Nat) [h : Ext cs o n out] : Ext (c :: cs) (o + 1) n out := ⟨by
  have := h.eq
  simpa using this, by have := h.len; simp at this ⊢; omega⟩
class Get (cs : List Value) (o : Nat) (v : outParam Value) : Prop where
  eq : cs[o]? = some v
instance Get.zero (c : Value) (cs : List Value) : Get (c :: cs) 0 c := ⟨rfl⟩
instance Get.succ (c : Value) (cs : List Value) (o : Nat) (v : Value) [h : Get cs o v] : Get (c :: cs) (o + 1) v := ⟨by simpa using h.eq⟩

theorem aggB_ne {P : Program} {t : TypeId} (h : aggB P t = true) : P.underlying t ≠ none := by
  intro e
  unfold aggB at h
  rw [e] at h
  cases h
/-- A type that takes one cell, and is neither a struct nor an array. -/
def One (P : Program) (t : TypeId) : Prop := aggB P t = false ∧ P.underlying t ≠ none

/-- A load of one cell, wherever it lies. -/
theorem lst_load_at {x : Operand} {t : TypeId} {p : Addr} {v : Value} (hd : Nat.blt d C.N = true) (hx : ev fr x = some (.pointer (some p))) (ht : One C.P t)
    (hc : ∀ a w, At C fr hp a w → w.cell? p = some v) (k : Lst C ops Q rest ((d, v) :: fr) hp) : Lst C ops Q (⟨some d, .load t x, ty, pos, after, none⟩ :: rest) fr hp :=
  lst_value _ hd (fun _ _ _ => tame_loadOp ..) (fun a w ha => ⟨w, by simp [execOp, ha.eval hx, Instr.loadAt, Instr.sureAddr, loadVar, run_isAgg ht.1 ht.2, hc a w ha], ha⟩) k
/-- A load of a struct or an array, wherever it lies. -/
theorem lst_loadN_at {x : Operand} {t : TypeId} {b o : Nat} {l : List Value} {z : Value} {n m : Nat} (hd : Nat.blt d C.N = true) (hx : ev fr x = some (.pointer (some ⟨b, o, none⟩))) (ht : aggB C.P t = true)
    (hi : TI C.P t z n m) (hl : l.length = n) (hc : ∀ a w, At C fr hp a w → ∀ j u, l[j]? = some u → w.cell? ⟨b, o + j, none⟩ = some u)
    (k : Lst C ops Q rest ((d, .agg l.toArray) :: fr) hp) : Lst C ops Q (⟨some d, .load t x, ty, pos, after, none⟩ :: rest) fr hp := by
  obtain ⟨i, hi, _, hs, _⟩ := hi
  refine lst_value _ hd (fun _ _ _ => tame_loadOp ..) (fun a w ha => ⟨w, ?_, ha⟩) k
  have h1 := run_loadCells_list (P := C.P) w ⟨b, o, none⟩ l (fun j u hu => by rw [addr_add]; exact hc a w ha j u hu)
  rw [hl] at h1
  simp [execOp, ha.eval hx, Instr.loadAt, Instr.sureAddr, loadVar, run_isAgg ht (aggB_ne ht), sizeOf, typeInfo, hi, hs, h1]
theorem cell_of_blk {w : World} {b o : Nat} {cs : List Value} {t : TypeId} {v : Value} (h : w.heap[b]? = some (.cells cs.toArray t (0, 0))) (hv : cs[o]? = some v) : w.cell? ⟨b, o, none⟩ = some v := by
  rw [cell_of_row w b o cs.toArray t (0, 0) h]
  simpa using hv
theorem lst_load {x : Operand} {t ct : TypeId} {b o : Nat} {cs : List Value} {v : Value} (hd : Nat.blt d C.N = true) (hx : ev fr x = some (.pointer (some ⟨b, o, none⟩))) (ht : One C.P t)
    [hm : InB b (.cells cs.toArray ct (0, 0)) hp] [hv : Get cs o v] (k : Lst C ops Q rest ((d, v) :: fr) hp) : Lst C ops Q (⟨some d, .load t x, ty, pos, after, none⟩ :: rest) fr hp :=
  lst_load_at hd hx ht (fun _ _ ha => cell_of_blk (ha.mem_blk hm.mem) hv.eq) k
theorem lst_loadN {x : Operand} {t ct : TypeId} {b o : Nat} {cs l : List Value} {z : Value} {n m : Nat} (hd : Nat.blt d C.N = true) (hx : ev fr x = some (.pointer (some ⟨b, o, none⟩))) (ht : aggB C.P t = true) (hi : TI C.P t z n m)
    [hm : InB b (.cells cs.toArray ct (0, 0)) hp] [hv : Ext cs o n l] (k : Lst C ops Q rest ((d, .agg l.toArray) :: fr) hp) : Lst C ops Q (⟨some d, .load t x, ty, pos, after, none⟩ :: rest) fr hp := by
  have hlen := hv.len
  have heq := hv.eq
  refine lst_loadN_at hd hx ht hi ?_ (fun _ _ ha j u hu => cell_of_blk (ha.mem_blk hm.mem) ?_) k
  · rw [heq, List.length_take, List.length_drop]; omega
  · rw [heq, List.getElem?_take] at hu
    split at hu
    · rw [List.getElem?_drop] at hu; exact hu
    · cases hu
/-- Old memory reads as it did. -/
theorem At.old (ha : At C fr hp a w) {p : Addr} {v : Value} (h : C.w0.cell? p = some v) (hb : p.block < C.B) : w.cell? p = some v := by
  rw [← h]
  exact ha.below.cell hb

theorem splice_upd {w : World} {b o : Nat} {t : TypeId} {cs vs out : List Value} (hs : Splice cs o vs out) (hg : w.heap[b]? = some (.cells cs.toArray t (0, 0))) (h1 : ∀ v ∈ vs, v.oneCell' = true) (P : Program) :
    ∃ w', (storeCells ⟨b, o, none⟩ vs).run P w = .ok () w' ∧ w'.heap[b]? = some (.cells out.toArray t (0, 0)) ∧ w.grownBy w' (some b) := by
  have h := run_storeCells_at P b o t vs 0 cs.toArray w hg (by have := hs.len; simp; omega) h1
  refine ⟨_, h, ?_, ⟨rfl, rfl, rfl, by simp, fun k _ hk => setRow_other w b k _ (fun e => hk (by rw [e]))⟩⟩
  rw [setRow_heap w b cs.toArray _ t _ hg, hs.eq]
  simp
/-- A store, of one cell or of several, into a block of the call's own. -/
theorem lst_store {x y : Operand} {t ct : TypeId} {b o : Nat} {cs vs out : List Value} {v z : Value} {n m : Nat} (hx : ev fr x = some (.pointer (some ⟨b, o, none⟩))) (hy : ev fr y = some v) (hi : TI C.P t z n m)
    [hc : Cells v vs] (hn : vs.length = n) [hm : InB b (.cells cs.toArray ct (0, 0)) hp] [hs : Splice cs o vs out] [hu : UpB b (.cells cs.toArray ct (0, 0)) (.cells out.toArray ct (0, 0)) hp hp']
    (k : Lst C ops Q rest fr hp') : Lst C ops Q (⟨none, .store t x y, ty, pos, after, none⟩ :: rest) fr hp := by
  obtain ⟨i, hi, _, hsz, _⟩ := hi
  refine lst_skip (fun _ _ _ => tame_storeOp ..) (fun a w ha => ?_) k
  obtain ⟨w', h1, h2, h3⟩ := splice_upd hs (ha.mem_blk hm.mem) hc.one C.P
  refine ⟨w', ?_, ha.turn hu.upd h3 ⟨(ha.own _ hm.mem).1, h2⟩ (fun k hk => .inl hk)⟩
  simp [execOp, ha.eval hx, ha.eval hy, Instr.storeAt, Instr.sureAddr, storeVar, sizeOf, typeInfo, hi, hc.eq, hn, hsz, h1]

/-- An operation on two integers of one kind. -/
theorem lst_int {op : BinOp} {x y : Operand} {t t' : TypeId} {kd : IntKind} {m n : Int} {v : Value} (hd : Nat.blt d C.N = true) (hx : ev fr x = some (.int kd m)) (hy : ev fr y = some (.int kd n))
    (hr : ∀ w : World, (binOp op t (.int kd m) (.int kd n)).run C.P w = .ok v w)
    (k : Lst C ops Q rest ((d, v) :: fr) hp) : Lst C ops Q (⟨some d, .binOp op t x y t', ty, pos, after, none⟩ :: rest) fr hp := by
  refine lst_value _ hd (fun a w ha => tame_binInt (ha.eval hx) (ha.eval hy)) (fun a w ha => ⟨w, ?_, ha⟩) k
  have hg : ∀ w : World, (eqGuard op t x y (.int kd m) (.int kd n)).run C.P w = .ok () w := by
    intro w
    unfold eqGuard
    cases op <;> simp
  simp [execOp, ha.eval hx, ha.eval hy, hg, hr]
section
variable {P : Program} {kd : IntKind} {t : TypeId} {m n : Int} (w : World)
theorem bin_lss : (binOp .lss t (.int kd m) (.int kd n)).run P w = .ok (.bool (decide (m < n))) w := by simp [binOp, Op.intCmp]
theorem bin_gtr : (binOp .gtr t (.int kd m) (.int kd n)).run P w = .ok (.bool (decide (n < m))) w := by simp [binOp, Op.intCmp]
theorem bin_geq : (binOp .geq t (.int kd m) (.int kd n)).run P w = .ok (.bool (decide (n ≤ m))) w := by simp [binOp, Op.intCmp]
theorem bin_eql : (binOp .eql t (.int kd m) (.int kd n)).run P w = .ok (.bool (decide (m = n))) w := by
  simp only [binOp, Op.intCmp]
  have : (m == n) = decide (m = n) := by cases h : (m == n) <;> simp_all
  simp [this]
theorem bin_neq : (binOp .neq t (.int kd m) (.int kd n)).run P w = .ok (.bool (decide (m ≠ n))) w := by
  simp only [binOp, Op.intCmp]
  have : (m != n) = decide (m ≠ n) := by cases h : (m != n) <;> simp_all
  simp [this]
theorem bin_add {r : Int} (h : kd.wrap (m + n) = r) : (binOp .add t (.int kd m) (.int kd n)).run P w = .ok (.int kd r) w := by simp [binOp, Op.intArith, h]
theorem bin_sub {r : Int} (h : kd.wrap (m - n) = r) : (binOp .sub t (.int kd m) (.int kd n)).run P w = .ok (.int kd r) w := by simp [binOp, Op.intArith, h]
theorem bin_mul {r : Int} (h : kd.wrap (m * n) = r) : (binOp .mul t (.int kd m) (.int kd n)).run P w = .ok (.int kd r) w := by simp [binOp, Op.intArith, h]
theorem bin_and {r : Int} (h : kd.wrap ((BitVec.ofInt kd.bits m &&& BitVec.ofInt kd.bits n).toNat) = r) : (binOp .and t (.int kd m) (.int kd n)).run P w = .ok (.int kd r) w := by subst h; simp only [binOp, ne_eq, not_true_eq_false, if_false, Op.intBits]; rfl
theorem bin_or {r : Int} (h : kd.wrap ((BitVec.ofInt kd.bits m ||| BitVec.ofInt kd.bits n).toNat) = r) : (binOp .or t (.int kd m) (.int kd n)).run P w = .ok (.int kd r) w := by subst h; simp only [binOp, ne_eq, not_true_eq_false, if_false, Op.intBits]; rfl
theorem bin_xor {r : Int} (h : kd.wrap ((BitVec.ofInt kd.bits m ^^^ BitVec.ofInt kd.bits n).toNat) = r) : (binOp .xor t (.int kd m) (.int kd n)).run P w = .ok (.int kd r) w := by subst h; simp only [binOp, ne_eq, not_true_eq_false, if_false, Op.intBits]; rfl
theorem bin_andNot {r : Int} (h : kd.wrap ((BitVec.ofInt kd.bits m &&& ~~~ BitVec.ofInt kd.bits n).toNat) = r) : (binOp .andNot t (.int kd m) (.int kd n)).run P w = .ok (.int kd r) w := by subst h; simp only [binOp, ne_eq, not_true_eq_false, if_false, Op.intBits]; rfl
end
/-- A shift. -/
theorem lst_shl {x y : Operand} {t t' : TypeId} {kd ke : IntKind} {m n r : Int} (hd : Nat.blt d C.N = true) (hx : ev fr x = some (.int kd m)) (hy : ev fr y = some (.int ke n)) (h0 : 0 ≤ n)
    (hr : kd.wrap (m * 2 ^ (min n.toNat kd.bits)) = r)
    (k : Lst C ops Q rest ((d, .int kd r) :: fr) hp) : Lst C ops Q (⟨some d, .binOp .shl t x y t', ty, pos, after, none⟩ :: rest) fr hp := by
  refine lst_value _ hd (fun a w ha => tame_binInt (ha.eval hx) (ha.eval hy)) (fun a w ha => ⟨w, ?_, ha⟩) k
  simp [execOp, ha.eval hx, ha.eval hy, eqGuard, binOp, Op.shift, Int.not_lt.2 h0, hr]
theorem lst_shr {x y : Operand} {t t' : TypeId} {kd ke : IntKind} {m n r : Int} (hd : Nat.blt d C.N = true) (hx : ev fr x = some (.int kd m)) (hy : ev fr y = some (.int ke n)) (h0 : 0 ≤ n)
    (hr : m.fdiv (2 ^ (min n.toNat kd.bits)) = r)
    (k : Lst C ops Q rest ((d, .int kd r) :: fr) hp) : Lst C ops Q (⟨some d, .binOp .shr t x y t', ty, pos, after, none⟩ :: rest) fr hp := by
  refine lst_value _ hd (fun a w ha => tame_binInt (ha.eval hx) (ha.eval hy)) (fun a w ha => ⟨w, ?_, ha⟩) k
  simp [execOp, ha.eval hx, ha.eval hy, eqGuard, binOp, Op.shift, Int.not_lt.2 h0, hr]
/-- An operation on two values, its run known. -/
theorem lst_bin {op : BinOp} {x y : Operand} {t t' : TypeId} {u u' : Value} {v : Value} [htb : TB u u'] (hd : Nat.blt d C.N = true) (hx : ev fr x = some u) (hy : ev fr y = some u')
    (hr : ∀ w : World, (do eqGuard op t x y u u'; binOp op t u u' : Sem Value).run C.P w = .ok v w)
    (k : Lst C ops Q rest ((d, v) :: fr) hp) : Lst C ops Q (⟨some d, .binOp op t x y t', ty, pos, after, none⟩ :: rest) fr hp := by
  refine lst_value _ hd (fun a w ha => tame_value _ (by rw [ha.eval hx, ha.eval hy]; exact htb.tame ..)) (fun a w ha => ⟨w, ?_, ha⟩) k
  have := hr w
  simp only [execOp, ha.eval hx, ha.eval hy, Sem.run_bind] at this ⊢
  rw [this]; rfl
theorem lst_convert {x : Operand} {s t : TypeId} {kd ke : IntKind} {m r : Int} {ds : TypeDesc} (hd : Nat.blt d C.N = true) (hx : ev fr x = some (.int ke m)) (hs : C.P.underlying s = some ds) (ht : C.P.underlying t = some (.int kd))
    (hr : kd.wrap m = r) (k : Lst C ops Q rest ((d, .int kd r) :: fr) hp) : Lst C ops Q (⟨some d, .convert s t x, ty, pos, after, none⟩ :: rest) fr hp := by
  refine lst_value _ hd (fun a w ha => tame_convertInt (ha.eval hx) hs ht) (fun a w ha => ⟨w, ?_, ha⟩) k
  simp only [execOp, ha.eval hx, convert, Sem.run_bind, run_underlying hs, run_underlying ht, Result.andThen_ok, Conv.intToInt, Sem.run_pure, hr]

/-- An element's address: an array behind a pointer. -/
theorem lst_index_arr {x y : Operand} {t e : TypeId} {b o j len n m : Nat} {kd : IntKind} {i : Int} {z : Value} (hd : Nat.blt d C.N = true) (hx : ev fr x = some (.pointer (some ⟨b, o, none⟩))) (hy : ev fr y = some (.int kd i))
    (ht : C.P.underlying t = some (.array len e)) (he : TI C.P e z n m) (hi : i = (j : Int)) (hj : j < len)
    (k : Lst C ops Q rest ((d, .pointer (some ⟨b, o + j * n, none⟩)) :: fr) hp) : Lst C ops Q (⟨some d, .indexAddr t x y, ty, pos, after, none⟩ :: rest) fr hp := by
  obtain ⟨i', hi', _, hs, _⟩ := he
  subst hi
  refine lst_value _ hd (fun _ _ _ => tame_index ..) (fun a w ha => ⟨w, ?_, ha⟩) k
  simp [execOp, ha.eval hx, ha.eval hy, Instr.indexAt, asIntOf, run_underlying ht, Instr.sureAddr, hj, sizeOf, typeInfo, hi', hs, addr_add]
/-- .. a slice. -/
theorem lst_index_sl {x y : Operand} {t e : TypeId} {p : Addr} {j len cap n m : Nat} {kd : IntKind} {i : Int} {z : Value} (hd : Nat.blt d C.N = true) (hx : ev fr x = some (.slice (some p) len cap)) (hy : ev fr y = some (.int kd i))
    (ht : C.P.underlying t = some (.slice e)) (he : TI C.P e z n m) (hi : i = (j : Int)) (hj : j < len)
    (k : Lst C ops Q rest ((d, .pointer (some (p.add (j * n)))) :: fr) hp) : Lst C ops Q (⟨some d, .indexAddr t x y, ty, pos, after, none⟩ :: rest) fr hp := by
  obtain ⟨i', hi', _, hs, _⟩ := he
  subst hi
  refine lst_value _ hd (fun _ _ _ => tame_index ..) (fun a w ha => ⟨w, ?_, ha⟩) k
  simp [execOp, ha.eval hx, ha.eval hy, Instr.indexAt, asIntOf, run_underlying ht, hj, sizeOf, typeInfo, hi', hs]

/-- A call of a builtin whose run is known and turns nothing. -/
theorem lst_builtin {bi : Builtin} {args : Array Operand} {ts : Array TypeId} {vs : List Value} {v : Value} (hd : Nat.blt d C.N = true) (hx : args.toList.map (ev fr) = vs.map some)
    (ht : ∀ cs, Tame C.P (builtin bi ts ty cs vs.toArray)) (hr : ∀ (cs : Array Bool) (w : World), (builtin bi ts ty cs vs.toArray).run C.P w = .ok (.value v) w)
    (k : Lst C ops Q rest ((d, v) :: fr) hp) : Lst C ops Q (⟨some d, .call { callee := .builtin bi, args := args, argTypes := ts }, ty, pos, after, none⟩ :: rest) fr hp := by
  refine lst_value _ hd (fun a w ha => tame_builtin fun cs => by rw [ev_args ha hx]; exact ht cs) (fun a w ha => ⟨w, ?_, ha⟩) k
  have := ev_args ha hx
  simp only [execOp, resolve, this, Sem.run_bind, Sem.run_pure, Result.andThen_ok, invoke]
  exact hr _ w
theorem run_len_slice {P : Program} {t e ty : TypeId} {p : Option Addr} {n c : Nat} (ht : P.underlying t = some (.slice e)) (cs : Array Bool) (w : World) :
    (builtin .len #[t] ty cs [Value.slice p n c].toArray).run P w = .ok (.value (.int .i64 n)) w := by
  simp [builtin, Builtin.len_, run_underlying ht, goInt]
theorem lst_len {x : Operand} {t e : TypeId} {p : Option Addr} {n c : Nat} (hd : Nat.blt d C.N = true) (hx : ev fr x = some (.slice p n c)) (ht : C.P.underlying t = some (.slice e))
    (k : Lst C ops Q rest ((d, .int .i64 (n : Int)) :: fr) hp) : Lst C ops Q (⟨some d, .call { callee := .builtin .len, args := #[x], argTypes := #[t] }, ty, pos, after, none⟩ :: rest) fr hp :=
  lst_builtin (vs := [.slice p n c]) hd (by simp [hx]) (fun _ => tame_len) (run_len_slice ht) k
/-- The cells of several parts, put into a zero value. -/
theorem lst_build {t : TypeId} {parts : Array (Nat × Operand)} {vs : List (Nat × Value)} {l : List Value} (hd : Nat.blt d C.N = true)
    (hx : parts.toList.map (fun q => (q.1, ev fr q.2)) = vs.map (fun q => (q.1, some q.2)))
    (hr : ∀ w : World, (Instr.build t vs.toArray).run C.P w = .ok (.agg l.toArray) w)
    (k : Lst C ops Q rest ((d, .agg l.toArray) :: fr) hp) : Lst C ops Q (⟨some d, .build t parts, ty, pos, after, none⟩ :: rest) fr hp := by
  refine lst_value _ hd (fun _ _ _ => tame_build ..) (fun a w ha => ⟨w, ?_, ha⟩) k
  have h : parts.map (fun (i, x) => (i, a.eval x)) = vs.toArray := by
    have : ∀ (l : List (Nat × Operand)) (vs : List (Nat × Value)), l.map (fun q => (q.1, ev fr q.2)) = vs.map (fun q => (q.1, some q.2)) → l.map (fun (q : Nat × Operand) => (q.1, a.eval q.2)) = vs := by
      intro l
      induction l with
      | nil => intro vs h; cases vs with
        | nil => rfl
        | cons => simp at h
      | cons x l ih =>
        intro vs h
        cases vs with
        | nil => simp at h
        | cons v vs =>
          simp only [List.map_cons, List.cons.injEq, Prod.mk.injEq] at h
          rw [List.map_cons, ha.eval h.1.2, ih vs h.2, h.1.1]
    obtain ⟨l⟩ := parts
    simp only [List.map_toArray]
    rw [show (fun (x : Nat × Operand) => match x with | (i, x) => (i, a.eval x)) = (fun (q : Nat × Operand) => (q.1, a.eval q.2)) from rfl, this l vs hx]
  simp only [execOp, h, Sem.run_bind, hr w, Result.andThen_ok, Sem.run_pure]
/-- A slice of a literal's parts: one element of one cell or more. -/
theorem lst_buildSlice {t e : TypeId} {len : Nat} {parts : Array (Nat × Operand)} {vs : List (Nat × Value)} {l : List Value} (hd : Nat.blt d C.N = true)
    (hx : parts.toList.map (fun q => (q.1, ev fr q.2)) = vs.map (fun q => (q.1, some q.2)))
    (hr : ∀ w : World, (Instr.buildSlice t len vs.toArray).run C.P w = .ok (.slice (some ⟨w.heap.size, 0, none⟩) len len) (w.alloc (.cells l.toArray e)))
    (k : ∀ b, Lst C ops Q rest ((d, .slice (some ⟨b, 0, none⟩) len len) :: fr) (.blk b (.cells l.toArray e (0, 0)) :: hp)) : Lst C ops Q (⟨some d, .buildSlice t len parts, ty, pos, after, none⟩ :: rest) fr hp := by
  refine lst_of rfl fun a w ha => ?_
  have h : parts.map (fun (i, x) => (i, a.eval x)) = vs.toArray := by
    have : ∀ (l : List (Nat × Operand)) (vs : List (Nat × Value)), l.map (fun q => (q.1, ev fr q.2)) = vs.map (fun q => (q.1, some q.2)) → l.map (fun (q : Nat × Operand) => (q.1, a.eval q.2)) = vs := by
      intro l
      induction l with
      | nil => intro vs h; cases vs with
        | nil => rfl
        | cons => simp at h
      | cons x l ih =>
        intro vs h
        cases vs with
        | nil => simp at h
        | cons v vs =>
          simp only [List.map_cons, List.cons.injEq, Prod.mk.injEq] at h
          rw [List.map_cons, ha.eval h.1.2, ih vs h.2, h.1.1]
    obtain ⟨l⟩ := parts
    simp only [List.map_toArray]
    rw [show (fun (x : Nat × Operand) => match x with | (i, x) => (i, a.eval x)) = (fun (q : Nat × Operand) => (q.1, a.eval q.2)) from rfl, this l vs hx]
  refine ⟨tame_buildSlice .., ?_⟩
  have hrun : (execOp a.eval ⟨some d, .buildSlice t len parts, ty, pos, after, none⟩).run C.P w = .ok (.value (.slice (some ⟨w.heap.size, 0, none⟩) len len)) (w.alloc (.cells l.toArray e)) := by
    simp only [execOp, h, Sem.run_bind, hr w, Result.andThen_ok, Sem.run_pure]
  rw [hrun]
  exact k w.heap.size _ _ ((ha.alloc (.cells l.toArray e)).put (lt_of_blt hd) _)

theorem lst_makeMap {t : TypeId} (hd : Nat.blt d C.N = true)
    (k : ∀ b, Lst C ops Q rest ((d, .map (some b)) :: fr) (.blk b (.map #[] 0) :: hp)) : Lst C ops Q (⟨some d, .makeMap t none, ty, pos, after, none⟩ :: rest) fr hp := by
  refine lst_of rfl fun a w ha => ?_
  refine ⟨tame_makeMap _, ?_⟩
  have hr : (execOp a.eval ⟨some d, .makeMap t none, ty, pos, after, none⟩).run C.P w = .ok (.value (.map (some w.heap.size))) (w.alloc (.map #[] 0)) := rfl
  rw [hr]
  exact k w.heap.size _ _ ((ha.alloc (.map #[] 0)).put (lt_of_blt hd) _)

/-! Control. -/
theorem cod_seq {x y : Code} (h : Cod C x (Exit.then (wp C.P y Q) Q) fr hp) : Cod C (x.seq y) Q fr hp := fun a w ha => wp_seq (h a w ha)
theorem ex_then {y : Code} (h : Cod C y Q fr hp) : Ex C (Exit.then (wp C.P y Q) Q) .normal fr hp := h
theorem ex_then_exit {K : Act → World → Prop} {i : Nat} (h : Ex C Q (.exit i) fr hp) : Ex C (Exit.then K Q) (.exit i) fr hp := h
theorem ex_then_ret {K : Act → World → Prop} (h : Ex C Q .ret fr hp) : Ex C (Exit.then K Q) .ret fr hp := h
theorem ex_then_panic {K : Act → World → Prop} {ch : List PanicEntry} (h : Ex C Q (.panic ch) fr hp) : Ex C (Exit.then K Q) (.panic ch) fr hp := h
theorem ex_then_goto {K : Act → World → Prop} {i : Nat} (h : Ex C Q (.goto i) fr hp) : Ex C (Exit.then K Q) (.goto i) fr hp := h
theorem ex_block_normal {i : Nat} (h : Ex C Q .normal fr hp) : Ex C (Exit.inBlock i Q) .normal fr hp := h
theorem ex_block_ret {i : Nat} (h : Ex C Q .ret fr hp) : Ex C (Exit.inBlock i Q) .ret fr hp := h
theorem ex_block_exit {i : Nat} (h : Ex C Q .normal fr hp) : Ex C (Exit.inBlock i Q) (.exit i) fr hp := fun a w ha => by
  show (if i = i then Q .normal a w else Q (.exit i) a w)
  rw [if_pos rfl]; exact h a w ha
theorem ex_block_other {i j : Nat} (hij : Nat.beq j i = false) (h : Ex C Q (.exit j) fr hp) : Ex C (Exit.inBlock i Q) (.exit j) fr hp := fun a w ha => by
  show (if j = i then Q .normal a w else Q (.exit j) a w)
  rw [if_neg (fun e => by subst e; simp at hij)]; exact h a w ha
theorem cod_region {id : Nat} {l : List Oper} (h : Lst C l.toArray Q l fr hp) : Cod C (.region id l.toArray false) Q fr hp := fun a w ha => wp_region_lit (h a w ha)
theorem cod_skip (h : Ex C Q .normal fr hp) : Cod C .skip Q fr hp := fun a w ha => wp_skip (h a w ha)
theorem cod_label {l : Nat} (h : Ex C Q .normal fr hp) : Cod C (.label l) Q fr hp := fun a w ha => wp_label (h a w ha)
theorem cod_exit {i : Nat} (h : Ex C Q (.exit i) fr hp) : Cod C (.exit i) Q fr hp := fun a w ha => wp_exit (h a w ha)
theorem cod_goto {i : Nat} (h : Ex C Q (.goto i) fr hp) : Cod C (.goto i) Q fr hp := fun a w ha => wp_goto (h a w ha)
theorem cod_ret (h : Ex C Q .ret fr hp) : Cod C .ret Q fr hp := fun a w ha => wp_ret (h a w ha)
theorem cod_block {i : Nat} {c : Code} (h : Cod C c (Exit.inBlock i Q) fr hp) : Cod C (.block i c) Q fr hp := fun a w ha => wp_block (h a w ha)
theorem cod_cond_true {c : Operand} {x y : Code} (hc : ev fr c = some (.bool true)) (h : Cod C x Q fr hp) : Cod C (.cond c x y) Q fr hp := fun a w ha => wp_cond_true (ha.eval hc) (h a w ha)
theorem cod_cond_false {c : Operand} {x y : Code} (hc : ev fr c = some (.bool false)) (h : Cod C y Q fr hp) : Cod C (.cond c x y) Q fr hp := fun a w ha => wp_cond_false (ha.eval hc) (h a w ha)
theorem cod_cond_bool {c : Operand} {x y : Code} {b : Bool} (hc : ev fr c = some (.bool b)) (h : b = true → Cod C x Q fr hp) (h' : b = false → Cod C y Q fr hp) : Cod C (.cond c x y) Q fr hp := by
  cases b with
  | true => exact cod_cond_true hc (h rfl)
  | false => exact cod_cond_false hc (h' rfl)
theorem cod_cond_dec {c : Operand} {x y : Code} {p : Prop} [Decidable p] (hc : ev fr c = some (.bool (decide p))) (h : p → Cod C x Q fr hp) (h' : ¬p → Cod C y Q fr hp) : Cod C (.cond c x y) Q fr hp := by
  by_cases hp' : p
  · rw [decide_eq_true hp'] at hc; exact cod_cond_true hc (h hp')
  · rw [decide_eq_false hp'] at hc; exact cod_cond_false hc (h' hp')
/-- The end of a round. -/
def Rnd {G : Type} (C : Ctx) (p : G → Prop) (μ : G → Nat) (f : G → List (Nat × Value)) (h : G → List Res) (g : G) (a : Act) (w : World) : Prop :=
  ∃ g', p g' ∧ μ g' < μ g ∧ At C (f g') (h g') a w
/-- A loop: the things that turn from round to round are g. -/
theorem cod_loop {G : Type} {c : Code} (p : G → Prop) (μ : G → Nat) (f : G → List (Nat × Value)) (h : G → List Res) (g0 : G) (h0 : p g0) (hs : Sub (f g0) fr) (hh : (h g0).Sublist hp)
    (round : ∀ g, p g → Cod C c (Exit.then (Rnd C p μ f h g) Q) (f g) (h g)) : Cod C (.loop c) Q fr hp := by
  intro a w ha
  refine wp_loop_ghost (fun n a w => ∃ g, p g ∧ μ g = n ∧ At C (f g) (h g) a w) (μ g0) ⟨g0, h0, rfl, (ha.drop_slots hs).drop_res hh⟩ ?_
  rintro n a w ⟨g, hg, rfl, hat⟩
  refine wp_mono (round g hg a w hat) ?_
  intro e a' w' he
  cases e with
  | normal =>
    obtain ⟨g', h1, h2, h3⟩ := he
    exact ⟨μ g', h2, g', h1, rfl, h3⟩
  | _ => exact he
theorem ex_round {G : Type} {p : G → Prop} {μ : G → Nat} {g : G} {f : G → List (Nat × Value)} {h : G → List Res} (g' : G) (h0 : p g') (hm : μ g' < μ g) (hs : Sub (f g') fr) (hh : (h g').Sublist hp) :
    Ex C (Exit.then (Rnd C p μ f h g) Q) .normal fr hp :=
  fun _ _ ha => ⟨g', h0, hm, (ha.drop_slots hs).drop_res hh⟩
/-! Calls. -/
/-- A function with a body: a call of it enters it. -/
def Enters (P : Program) (f : FuncId) : Prop := (∀ (args : Array Value) (w : World), (callFunc f args).run P w = .ok (.enter f args) w) ∧ ∀ args, Tame P (callFunc f args)
theorem invokes_of {P : Program} {f : FuncId} {cap args args' : Array Value} (h : Enters P f) (e : args ++ cap = args') : Invokes P (.func f) cap args f args' := by
  subst e
  exact ⟨h.2 _, fun w => h.1 _ w⟩
theorem enters_of {P : Program} {f : FuncId} {fn : Func} (hf : P.funcs[f]? = some fn) (hb : fn.body.isSome = true) (hn : (fn.name == "runtime.NumGoroutine") = false) : Enters P f := by
  refine ⟨?_, tame_callFunc hf hb hn⟩
  intro args w
  have hb' : fn.body.isNone = false := by cases h : fn.body <;> simp_all
  have hp : (program : Sem Program).run P w = .ok P w := rfl
  simp only [callFunc, Sem.run_bind, hp, Result.andThen_ok, hf, hn, hb', Bool.false_eq_true, if_false]
  rfl
/-- What is new: nothing that was there has turned, and these things lie above it. -/
def Grew (w w' : World) (rs : List Res) : Prop := Below w.heap.size w w' ∧ (∀ r, r ∈ rs → r.ok w.heap.size w') ∧ (rs.filterMap Res.id).Nodup
theorem At.more (ha : At C fr hp a w) {w' : World} {rs : List Res} (h : Grew w w' rs) : At C fr (rs ++ hp) a w' := ha.grew h.1 h.2.1 h.2.2
/-- A call through a function value that is known. -/
theorem lst_call {X : Type} {x : Operand} {f : FuncId} {first cap vs : List Value} {args : Array Operand} {ts : Array TypeId} {p : X → Prop} {val : X → Value} {rs : X → List Res} (hd : Nat.blt d C.N = true)
    (hx : ev fr x = some (.func (.func f) first.toArray cap.toArray)) (hargs : args.toList.map (ev fr) = vs.map some) (hf : Enters C.P f)
    (hc : ∀ a w, At C fr hp a w → Calls C.P f (first ++ vs ++ cap).toArray w fun e w' => ∃ x, p x ∧ e = .returned (val x) ∧ At C fr (rs x) a w')
    (k : ∀ x, p x → Lst C ops Q rest ((d, val x) :: fr) (rs x)) : Lst C ops Q (⟨some d, .call { callee := .value x, args := args, argTypes := ts }, ty, pos, after, none⟩ :: rest) fr hp := by
  refine lst_of rfl fun a w ha => ?_
  refine ⟨tame_callV (ha.eval hx) hf.2, ?_⟩
  have hr : (execOp a.eval ⟨some d, .call { callee := .value x, args := args, argTypes := ts }, ty, pos, after, none⟩).run C.P w = .ok (.enter f (first ++ vs ++ cap).toArray) w := by
    simp only [execOp, resolve, ev_args ha hargs, ha.eval hx, Deferred.ofValue, Sem.run_bind, Sem.run_pure, Result.andThen_ok, invoke, List.append_toArray]
    exact hf.1 _ w
  rw [hr]
  show Calls C.P f _ w _
  refine (hc a w ha).mono ?_
  rintro e w' ⟨x, h1, rfl, h2⟩
  exact k x h1 _ _ (h2.put (lt_of_blt hd) _)

/-- A call of a named function that only grows memory. -/
theorem lst_fn {X : Type} {f : FuncId} {vs : List Value} {args : Array Operand} {ts : Array TypeId} {p : X → Prop} {val : X → Value} {rs : X → List Res} (hd : Nat.blt d C.N = true)
    (hargs : args.toList.map (ev fr) = vs.map some) (hf : Enters C.P f)
    (hc : ∀ a w, At C fr hp a w → Calls C.P f vs.toArray w fun e w' => ∃ x, p x ∧ e = .returned (val x) ∧ Grew w w' (rs x))
    (k : ∀ x, p x → Lst C ops Q rest ((d, val x) :: fr) (rs x ++ hp)) : Lst C ops Q (⟨some d, .call { callee := .value (.func f), args := args, argTypes := ts }, ty, pos, after, none⟩ :: rest) fr hp := by
  refine lst_call (first := []) (cap := []) (p := p) (val := val) (rs := fun x => rs x ++ hp) hd rfl hargs hf (fun a w ha => ?_) k
  simp only [List.nil_append, List.append_nil]
  refine (hc a w ha).mono ?_
  rintro e w' ⟨x, h1, h2, h3⟩
  exact ⟨x, h1, h2, ha.more h3⟩
/-- .. that lays nothing. -/
theorem lst_fn0 {f : FuncId} {vs : List Value} {args : Array Operand} {ts : Array TypeId} {v : Value} (hd : Nat.blt d C.N = true)
    (hargs : args.toList.map (ev fr) = vs.map some) (hf : Enters C.P f)
    (hc : ∀ a w, At C fr hp a w → Calls C.P f vs.toArray w fun e w' => e = .returned v ∧ Grew w w' [])
    (k : Lst C ops Q rest ((d, v) :: fr) hp) : Lst C ops Q (⟨some d, .call { callee := .value (.func f), args := args, argTypes := ts }, ty, pos, after, none⟩ :: rest) fr hp :=
  lst_fn (X := Unit) (p := fun _ => True) (val := fun _ => v) (rs := fun _ => []) hd hargs hf
    (fun a w ha => (hc a w ha).mono fun _ _ ⟨h1, h2⟩ => ⟨(), trivial, h1, h2⟩) (fun _ _ => k)

/-! Entering a function and leaving it. -/
def idx : Nat → List Value → List (Nat × Value)
  | _, [] => []
  | n, v :: vs => (n, v) :: idx (n + 1) vs
theorem look_idx (vs : List Value) : ∀ (n t : Nat) (v : Value), look (idx n vs) t = some v → ∃ j, t = n + j ∧ vs[j]? = some v := by
  induction vs with
  | nil => intro n t v h; cases h
  | cons u vs ih =>
    intro n t v h
    show _
    unfold idx at h
    rw [look_cons] at h
    by_cases e : n = t
    · rw [if_pos e] at h
      exact ⟨0, by omega, by simpa using h⟩
    · rw [if_neg e] at h
      obtain ⟨j, h1, h2⟩ := ih (n + 1) t v h
      exact ⟨j + 1, by omega, by simpa using h2⟩
theorem enter {P : Program} {f : FuncId} {fn : Func} {c : Code} {vs : List Value} {w : World} {R : Ending → World → Prop} {N : Nat} (fr : List (Nat × Value))
    (hf : P.funcs[f]? = some fn) (hb : fn.body = some c) (hN : fn.ntmps = N) (hle : Nat.ble vs.length N = true) (hfr : idx 0 vs = fr)
    (h : Cod ⟨P, w.heap.size, w, N, []⟩ c (bodyPost P fn R) fr []) : Calls P f vs.toArray w R := by
  refine calls_of_wp hf hb (h _ _ ⟨?_, rfl, ?_, Below.refl _ _, Nat.le_refl _, (fun r hr => by cases hr), List.nodup_nil⟩)
  · have : vs.length ≤ N := by simpa [Nat.ble_eq] using hle
    simp [hN]; omega
  · intro t v ht
    rw [← hfr] at ht
    obtain ⟨j, rfl, hj⟩ := look_idx vs 0 t v ht
    have hjl : j < vs.length := by
      rcases Nat.lt_or_ge j vs.length with h1 | h1
      · exact h1
      · rw [List.getElem?_eq_none h1] at hj; cases hj
    simp only [Nat.zero_add, Array.getD_eq_getD_getElem?]
    rw [Array.getElem?_append_left (by simpa using hjl)]
    simp [hj]
theorem ex_ret {fn : Func} {R : Ending → World → Prop} {v : Value} (hds : C.ds = []) (hr : ∀ a w, At C fr hp a w → ResV C.P fn a.tmps v w)
    (k : ∀ a w, At C fr hp a w → R (.returned v) w) : Ex C (bodyPost C.P fn R) .ret fr hp :=
  fun a w ha => ⟨ha.defs.trans hds, v, hr a w ha, k a w ha⟩
theorem ex_end {fn : Func} {R : Ending → World → Prop} {v : Value} (hds : C.ds = []) (hr : ∀ a w, At C fr hp a w → ResV C.P fn a.tmps v w)
    (k : ∀ a w, At C fr hp a w → R (.returned v) w) : Ex C (bodyPost C.P fn R) .normal fr hp :=
  fun a w ha => ⟨ha.defs.trans hds, v, hr a w ha, k a w ha⟩
theorem res_one {fn : Func} {t : Nat} {v : Value} (h : fn.results = #[.tmp t]) (hv : look fr t = some v) (ha : At C fr hp a w) : ResV C.P fn a.tmps (v) w := by
  refine ⟨tame_results .., fun v₁ hrely => ?_⟩
  have ha := ha.rely hrely
  have := ha.slots t v hv
  simp only [Array.getD_eq_getD_getElem?] at this
  simp [results, h, this]
theorem res_two {fn : Func} {t u : Nat} {v v' : Value} (h : fn.results = #[.tmp t, .tmp u]) (hv : look fr t = some v) (hu : look fr u = some v') (ha : At C fr hp a w) : ResV C.P fn a.tmps ((.tuple #[v, v'])) w := by
  refine ⟨tame_results .., fun v₁ hrely => ?_⟩
  have ha := ha.rely hrely
  have h1 := ha.slots t v hv
  have h2 := ha.slots u v' hu
  simp only [Array.getD_eq_getD_getElem?] at h1 h2
  simp [results, h, h1, h2]
theorem res_none {fn : Func} (h : fn.results = #[]) (_ha : At C fr hp a w) : ResV C.P fn a.tmps ((.tuple #[])) w := by
  refine ⟨tame_results .., fun v₁ hrely => ?_⟩
  have ha := _ha.rely hrely
  simp [results, h]
/-- At a return: what has grown. -/
theorem At.grown {P : Program} {w0 : World} {N : Nat} {ds : List Deferred} {rs : List Res} (ha : At ⟨P, w0.heap.size, w0, N, ds⟩ fr hp a w) (hs : rs.Sublist hp) : Grew w0 w rs :=
  ⟨ha.below, fun r hr => ha.own r (hs.subset hr), ha.apart.sublist (hs.filterMap _)⟩

/-! Operations under a guard. -/
theorem yields_of (ha : At C fr hp a w) {j t : Nat} {b : Bool} (hj : (ops[j]?).bind (·.dst) = some t) (hv : look fr t = some (.bool b)) : yielded ops a.tmps j = some b := by
  have h := ha.slots t _ hv
  unfold yielded
  rw [hj]
  simp only [Option.bind_some]
  rw [Array.getD_eq_getD_getElem?] at h
  cases hq : a.tmps[t]? with
  | none => rw [hq] at h; simp [undef] at h
  | some v => rw [hq] at h; simp only [Option.getD_some] at h; subst h; rfl
theorem lst_on {dst : Option Tmp} {op : Op} {j t : Nat} {b : Bool} (hj : (ops[j]?).bind (·.dst) = some t) (hv : look fr t = some (.bool b))
    (k : Lst C ops Q (⟨dst, op, ty, pos, after, none⟩ :: rest) fr hp) : Lst C ops Q (⟨dst, op, ty, pos, after, some (j, b)⟩ :: rest) fr hp := by
  intro a w ha
  have h := k a w ha
  simp only [wpList] at h ⊢
  have e : Region.wanted ⟨dst, op, ty, pos, after, some (j, b)⟩ (yielded ops a.tmps) = true := by
    simp [Region.wanted, yields_of ha hj hv]
  have e' : Region.wanted ⟨dst, op, ty, pos, after, none⟩ (yielded ops a.tmps) = true := rfl
  rw [if_pos e'] at h
  rw [if_pos e]
  exact h.same rfl rfl rfl
theorem lst_off {op : Op} {j t d : Nat} {b : Bool} (hd : Nat.blt d C.N = true) (hj : (ops[j]?).bind (·.dst) = some t) (hv : look fr t = some (.bool (!b)))
    (k : Lst C ops Q rest ((d, undef) :: fr) hp) : Lst C ops Q (⟨some d, op, ty, pos, after, some (j, b)⟩ :: rest) fr hp := by
  intro a w ha
  simp only [wpList]
  have e : Region.wanted ⟨some d, op, ty, pos, after, some (j, b)⟩ (yielded ops a.tmps) = false := by
    cases b <;> simp [Region.wanted, yields_of ha hj hv]
  rw [if_neg (by rw [e]; simp)]
  exact k _ _ (ha.put (lt_of_blt hd) _)
/-- A slot holds a test: two ways. -/
theorem lst_split {l : List Oper} {t : Nat} {p : Prop} [Decidable p] (hv : look fr t = some (.bool (decide p))) (h : p → Lst C ops Q l ((t, .bool true) :: fr) hp) (h' : ¬p → Lst C ops Q l ((t, .bool false) :: fr) hp) :
    Lst C ops Q l fr hp := by
  intro a w ha
  have same : ∀ b, look fr t = some (.bool b) → At C ((t, .bool b) :: fr) hp a w := fun b hb => ha.drop_slots_of fun s v hs => by
    rw [look_cons] at hs
    by_cases e : t = s
    · subst e; rw [if_pos rfl] at hs; rw [hb, hs]
    · rw [if_neg e] at hs; exact hs
  by_cases hp' : p
  · exact h hp' a w (same true (by rw [hv, decide_eq_true hp']))
  · exact h' hp' a w (same false (by rw [hv, decide_eq_false hp']))
theorem lst_split_bool {l : List Oper} {t : Nat} {b : Bool} (hv : look fr t = some (.bool b)) (h : b = true → Lst C ops Q l ((t, .bool true) :: fr) hp) (h' : b = false → Lst C ops Q l ((t, .bool false) :: fr) hp) :
    Lst C ops Q l fr hp := by
  refine lst_split (p := b = true) (t := t) (by rw [hv]; cases b <;> rfl) h (fun hn => h' (by cases b <;> simp_all))
/-- A cut within a list of operations: one slot more is known behind it. -/
theorem lst_cut {l : List Oper} (n : Nat) (fr' : List (Nat × Value)) (hp' : List Res) (h : Lst C ops (Exit.then (At C fr' hp') Q) (l.take n) fr hp) (h' : Lst C ops Q (l.drop n) fr' hp') : Lst C ops Q l fr hp := by
  intro a w ha
  rw [← List.take_append_drop n l]
  exact wpList_cut (M := fun _ _ => True) (Q' := Exit.then (At C fr' hp') Q) (Q := Q) (fun _ _ _ h => h) (fun a w h => h' a w h) _ a w (h a w ha)
theorem ex_cut {fr' : List (Nat × Value)} (hs : Sub fr' fr) (hh : hp'.Sublist hp) : Ex C (Exit.then (At C fr' hp') Q) .normal fr hp := fun _ _ ha => (ha.drop_slots hs).drop_res hh
theorem lst_cut1 {l : List Oper} (n d : Nat) (v : Value) (h : Lst C ops (Exit.then (At C ((d, v) :: fr) hp) Q) (l.take n) fr hp) (h' : Lst C ops Q (l.drop n) ((d, v) :: fr) hp) : Lst C ops Q l fr hp :=
  lst_cut n _ _ h h'

/-! Slices of the call's own. -/
theorem At.add_nil (ha : At C fr hp a w) (e size : Nat) : At C fr (.row e size none 0 0 [] :: hp) a w := by
  refine ⟨ha.size, ha.defs, ha.slots, ha.below, ha.base, ?_, ?_⟩
  · intro r hr
    rcases List.mem_cons.1 hr with h | h
    · subst h; exact World.ownsRow_nil w C.B e size
    · exact ha.own r h
  · rw [List.filterMap_cons_none rfl]; exact ha.apart
theorem cod_nil {c : Code} (e size : Nat) (h : Cod C c Q fr (.row e size none 0 0 [] :: hp)) : Cod C c Q fr hp := fun a w ha => h a w (ha.add_nil e size)
theorem lst_nilrow {l : List Oper} (e size : Nat) (h : Lst C ops Q l fr (.row e size none 0 0 [] :: hp)) : Lst C ops Q l fr hp := fun a w ha => h a w (ha.add_nil e size)
theorem ownsRow_shape {w : World} {B e size n : Nat} {v : Value} {xs : List Value} (h : w.ownsRow B e size v n xs) : ∃ A c, v = .slice A n c := by
  rcases h.2 with ⟨rfl, rfl⟩ | ⟨g, cap, cur, rfl, _⟩
  · exact ⟨_, _, rfl⟩
  · exact ⟨_, _, rfl⟩
theorem append_place {P : Program} {w : World} {t ty e : TypeId} {i : TypeInfo} {z : Value} (ht : P.underlying t = some (.slice e)) (hi : P.info? e = some i) (hz : i.zero = some z) {B n : Nat} {v : Value} {xs : List Value}
    (hown : w.ownsRow B e i.size v n xs) {a : Addr} {m c : Nat} {news : List Value} (hl : news.length = m * i.size) (hnews : ∀ j u, news[j]? = some u → w.cell? (a.add j) = some u) (h1 : ∀ u ∈ news, u.oneCell' = true)
    (h63 : n + m ≤ maxLen) (hbytes : (n + m) * i.bytes ≤ 140737488355328) {v' : Value} {w' : World} (hr : (Builtin.append_ #[t, t] ty #[v, .slice (some a) m c]).run P w = .ok v' w') :
    ∀ k, v'.ownBlock = some k → v.ownBlock = some k ∨ w.heap.size ≤ k := by
  have hsmall : n + m ≤ 9223372036854775807 := by simp only [maxLen] at h63; omega
  intro k hk
  rcases hown.2 with ⟨rfl, rfl⟩ | ⟨g, cap, cur, rfl, hbg, hg, hnc, hcm, hcs, htake⟩
  · by_cases hm : m = 0
    · subst hm
      have hn : news = [] := List.eq_nil_of_length_eq_zero (by simpa using hl)
      subst hn
      have hr0 : (Builtin.append_ #[t, t] ty #[.slice none 0 0, .slice (some a) 0 c]).run P w = .ok (.slice none 0 0) w := by
        simp [Builtin.append_, run_underlying ht, sizeOf, typeInfo, hi, Builtin.lenOf, Builtin.firstCells, loadCells, loadCellsFrom]
      rw [hr0] at hr
      cases hr
      cases hk
    · have hr0 := run_append_nil (P := P) w t ty e i z ht hi hz a m c news hl hnews (by omega) (by omega) (by simp only [Nat.zero_add] at hbytes; omega)
      rw [hr0] at hr
      cases hr
      right
      have : some w.heap.size = some k := hk
      cases this
      exact Nat.le_refl _
  · by_cases hroom : n + m ≤ cap
    · have hfit : n * i.size + news.length ≤ cur.size := by rw [hl, hcs, ← Nat.add_mul]; exact Nat.mul_le_mul_right _ hroom
      have hr0 := run_append_room (P := P) w t ty e i ht hi g n cap cur hg a m c news hl hnews h1 hroom hfit
      rw [hr0] at hr
      cases hr
      exact .inl hk
    · have holds : ∀ j u, xs[j]? = some u → w.cell? ((⟨g, 0, none⟩ : Addr).add j) = some u := hown.cells (g := g) rfl
      have hr0 := run_append_grow (P := P) w t ty e i z ht hi hz ⟨g, 0, none⟩ n cap xs hown.1 holds a m c news hl hnews (by omega) (by omega) (growslice_fits (by omega) hbytes)
      rw [hr0] at hr
      cases hr
      right
      have : some w.heap.size = some k := hk
      cases this
      exact Nat.le_refl _
theorem lst_append {x y : Operand} {t e : TypeId} {A : Option Addr} {b n c m cb size bytes ct : Nat} {xs news : List Value} {z : Value} {hp' : Option Addr → Nat → List Res} (hd : Nat.blt d C.N = true)
    (hx : ev fr x = some (.slice A n c)) (hy : ev fr y = some (.slice (some ⟨b, 0, none⟩) m cb)) (ht : C.P.underlying t = some (.slice e)) (hi : TI C.P e z size bytes) (hzs : z.cells.size = size) (hs0 : Nat.blt 0 size = true)
    [hb : InB b (.cells news.toArray ct (0, 0)) hp] (hl : news.length = m * size) [ho : Ones news] [hr : InR A e size n c xs hp] [hu : ∀ A' c', UpR A e size n c xs (.row e size A' (n + m) c' (xs ++ news)) hp (hp' A' c')]
    (h63 : n + m ≤ maxLen) (hbytes : (n + m) * bytes ≤ 140737488355328)
    (k : ∀ A' c', Lst C ops Q rest ((d, .slice A' (n + m) c') :: fr) (hp' A' c')) :
    Lst C ops Q (⟨some d, .call { callee := .builtin .append, args := #[x, y], argTypes := #[t, t] }, ty, pos, after, none⟩ :: rest) fr hp := by
  refine lst_of rfl fun a w ha => ?_
  obtain ⟨i, hi1, hi2, hi3, hi4⟩ := hi
  have hown := ha.own _ hr.mem
  have hblk := ha.mem_blk hb.mem
  subst hi3; subst hi4
  have hnews : ∀ j u, news[j]? = some u → w.cell? ((⟨b, 0, none⟩ : Addr).add j) = some u := by
    intro j u hu'
    rw [addr_add, Nat.zero_add]
    exact cell_of_blk hblk hu'
  obtain ⟨v', w', hrun, hown', hg, _⟩ := run_append_own (P := C.P) w C.B t ty e i z i.size i.bytes ht hi1 hi2 rfl rfl hzs (lt_of_blt hs0) _ n xs hown ⟨b, 0, none⟩ m cb news hl hnews ho.one h63 hbytes ha.base
  have hplace := append_place ht hi1 hi2 hown hl hnews ho.one h63 hbytes hrun
  obtain ⟨A', c', rfl⟩ := ownsRow_shape hown'
  refine ⟨tame_builtin fun cs => by simp only [List.map_toArray, List.map_cons, List.map_nil, ha.eval hx, ha.eval hy]; exact tame_append ht, ?_⟩
  have hr' : (execOp a.eval ⟨some d, .call { callee := .builtin .append, args := #[x, y], argTypes := #[t, t] }, ty, pos, after, none⟩).run C.P w = .ok (.value (.slice A' (n + m) c')) w' := by
    simp only [execOp, resolve, invoke, builtin, Sem.run_bind, Sem.run_pure, Result.andThen_ok, List.map_toArray, List.map_cons, List.map_nil, ha.eval hx, ha.eval hy, hrun]
  rw [hr']
  exact k A' c' _ _ ((ha.turn (hu A' c').upd hg hown' hplace).put (lt_of_blt hd) _)

/-- An element of a slice that lies at a known place. -/
theorem lst_index {x y : Operand} {t e : TypeId} {b o j len cap n m : Nat} {kd : IntKind} {i : Int} {z : Value} (hd : Nat.blt d C.N = true) (hx : ev fr x = some (.slice (some ⟨b, o, none⟩) len cap)) (hy : ev fr y = some (.int kd i))
    (ht : C.P.underlying t = some (.slice e)) (he : TI C.P e z n m) (hi : i = (j : Int)) (hj : j < len)
    (k : Lst C ops Q rest ((d, .pointer (some ⟨b, o + j * n, none⟩)) :: fr) hp) : Lst C ops Q (⟨some d, .indexAddr t x y, ty, pos, after, none⟩ :: rest) fr hp :=
  lst_index_sl hd hx hy ht he hi hj (by rw [addr_add]; exact k)
theorem row_some {w : World} {B e size n c : Nat} {A : Option Addr} {xs : List Value} (h : w.ownsRow B e size (.slice A n c) n xs) (hn : 0 < n) : ∃ g, A = some ⟨g, 0, none⟩ := by
  rcases h.2 with ⟨h1, h2⟩ | ⟨g, cap, cur, hv, _⟩
  · omega
  · injection hv with h1 _ _
    exact ⟨g, h1⟩
/-- An element of a row of the call's own. -/
theorem lst_index_row {x y : Operand} {t e e' : TypeId} {A : Option Addr} {j len cap len' cap' size n m : Nat} {xs : List Value} {kd : IntKind} {i : Int} {z : Value} (hd : Nat.blt d C.N = true) (hx : ev fr x = some (.slice A len cap)) (hy : ev fr y = some (.int kd i))
    (ht : C.P.underlying t = some (.slice e)) (he : TI C.P e z n m) (hi : i = (j : Int)) (hj : j < len) [hr : InR A e' size len' cap' xs hp] (hl : len' = len) (hc : cap' = cap)
    (k : ∀ g, A = some ⟨g, 0, none⟩ → Lst C ops Q rest ((d, .pointer (some ⟨g, j * n, none⟩)) :: fr) hp) : Lst C ops Q (⟨some d, .indexAddr t x y, ty, pos, after, none⟩ :: rest) fr hp := by
  subst hl; subst hc
  intro a w ha
  obtain ⟨g, hg⟩ := row_some (ha.own _ hr.mem) (by omega)
  subst hg
  exact lst_index hd hx hy ht he hi hj (by rw [Nat.zero_add]; exact k g rfl) a w ha
theorem row_cell (ha : At C fr hp a w) {A : Option Addr} {g e size n c o : Nat} {xs : List Value} {v : Value} (hr : Res.row e size A n c xs ∈ hp) (hA : A = some ⟨g, 0, none⟩) (hv : xs[o]? = some v) : w.cell? ⟨g, o, none⟩ = some v := by
  subst hA
  have h := World.ownsRow.cells (ha.own _ hr) (g := g) rfl o v hv
  rw [addr_add, Nat.zero_add] at h
  exact h
theorem lst_load_row {x : Operand} {t : TypeId} {A : Option Addr} {g o e size n c : Nat} {xs : List Value} {v : Value} (hd : Nat.blt d C.N = true) (hx : ev fr x = some (.pointer (some ⟨g, o, none⟩))) (ht : One C.P t) (hA : A = some ⟨g, 0, none⟩)
    [hr : InR A e size n c xs hp] (hv : xs[o]? = some v) (k : Lst C ops Q rest ((d, v) :: fr) hp) : Lst C ops Q (⟨some d, .load t x, ty, pos, after, none⟩ :: rest) fr hp :=
  lst_load_at hd hx ht (fun _ _ ha => row_cell ha hr.mem hA hv) k
/-- A slice, at address A, that reads as a list: each element as some cells. -/
def RdL {α : Type} (cells : α → List Value) (size : Nat) (w : World) (A : Option Addr) (l : List α) : Prop :=
  0 < l.length → ∃ b o, A = some ⟨b, o, none⟩ ∧ b < w.heap.size ∧ ∀ k x, l[k]? = some x → ∀ j u, (cells x)[j]? = some u → w.cell? ⟨b, o + k * size + j, none⟩ = some u
theorem RdL.later {α : Type} {cells : α → List Value} {size : Nat} {w w' : World} {A : Option Addr} {l : List α} (h : RdL cells size w A l) (hb : Below w.heap.size w w') : RdL cells size w' A l := fun hl => by
  obtain ⟨b, o, h1, h2, h3⟩ := h hl
  refine ⟨b, o, h1, Nat.lt_of_lt_of_le h2 hb.size, fun k x hk j u hu => ?_⟩
  rw [← h3 k x hk j u hu]
  exact hb.cell (p := ⟨b, o + k * size + j, none⟩) h2
theorem flatMap_get {α : Type} {cells : α → List Value} {size : Nat} (hs : ∀ x, (cells x).length = size) : ∀ (l : List α) (k : Nat) (x : α), l[k]? = some x → ∀ j u, (cells x)[j]? = some u → (l.flatMap cells)[k * size + j]? = some u := by
  intro l
  induction l with
  | nil => intro k x h; simp at h
  | cons y l ih =>
    intro k x h j u hu
    have hj : j < size := by
      rw [← hs x]
      rcases Nat.lt_or_ge j (cells x).length with h1 | h1
      · exact h1
      · rw [List.getElem?_eq_none h1] at hu; cases hu
    rw [List.flatMap_cons]
    cases k with
    | zero =>
      simp at h
      subst h
      rw [Nat.zero_mul, Nat.zero_add, List.getElem?_append_left (by rw [hs]; exact hj)]
      exact hu
    | succ k =>
      rw [List.getElem?_cons_succ] at h
      have := ih k x h j u hu
      rw [List.getElem?_append_right (by rw [hs, Nat.succ_mul]; omega), hs, Nat.succ_mul]
      rw [show k * size + size + j - size = k * size + j from by omega]
      exact this
/-- A row of the call's own reads as a list. -/
theorem row_reads (ha : At C fr hp a w) {α : Type} {cells : α → List Value} {size e c : Nat} (hs : ∀ x, (cells x).length = size) {A : Option Addr} {n : Nat} {l : List α} (hr : Res.row e size A n c (l.flatMap cells) ∈ hp) (hn : n = l.length) : RdL cells size w A l := by
  intro hl
  obtain ⟨g, hg⟩ := row_some (ha.own _ hr) (by omega)
  refine ⟨g, 0, hg, ?_, fun k x hk j u hu => ?_⟩
  · exact (Res.lt (ha.own _ hr) g (by rw [hg]; rfl)).2
  · rw [Nat.zero_add]
    exact row_cell ha hr hg (flatMap_get hs l k x hk j u hu)

/-! A slice's literal. -/
theorem foldl_set (l : List Value) : ∀ (cs : Array Value) (off j : Nat), off + j + l.length ≤ cs.size →
    ((l.zipIdx j).foldl (fun cs (q : Value × Nat) => cs.setIfInBounds (off + q.2) q.1) cs).toList = cs.toList.take (off + j) ++ l ++ cs.toList.drop (off + j + l.length) := by
  induction l with
  | nil => intro cs off j _; simp
  | cons v l ih =>
    intro cs off j h
    simp at h
    rw [List.zipIdx_cons, List.foldl_cons, ih _ _ _ (by simp; omega)]
    have e := list_seg_step cs.toList (off + j) v l (by simp; omega)
    simpa [Array.toList_setIfInBounds, Nat.add_assoc, Nat.add_comm 1] using e
/-- Parts in their order, each of 'size' cells. -/
def ordered (size : Nat) : Nat → List (Nat × Value) → List Value → Prop
  | _, [], l => l = []
  | i, (j, v) :: vs, l => j = i ∧ ∃ l1 l2, l = l1 ++ l2 ∧ v.cells = l1.toArray ∧ l1.length = size ∧ ordered size (i + 1) vs l2
theorem fill_ordered {size : Nat} : ∀ (vs : List (Nat × Value)) (i : Nat) (cs : Array Value) (l : List Value), ordered size i vs l → cs.size = (i + vs.length) * size →
    Instr.fill (fun i => some (i * size, size)) cs vs = some (cs.toList.take (i * size) ++ l).toArray := by
  intro vs
  induction vs with
  | nil =>
    intro i cs l h hs
    cases h
    simp only [List.length_nil, Nat.add_zero] at hs
    simp only [Instr.fill, List.append_nil]
    rw [List.take_of_length_le (by simp; omega), Array.toArray_toList]
  | cons q vs ih =>
    obtain ⟨j, v⟩ := q
    intro i cs l h hs
    obtain ⟨rfl, l1, l2, rfl, hv, h1, h2⟩ := h
    have hsz : cs.size = j * size + size + vs.length * size := by rw [hs, List.length_cons, Nat.add_mul, Nat.succ_mul]; omega
    simp only [Instr.fill, hv]
    rw [if_neg (by simp [h1]; omega)]
    have hfold := foldl_set l1 cs (j * size) 0 (by simp; omega)
    simp only [Nat.add_zero] at hfold
    have hz : l1.toArray.zipIdx.foldl (fun cs (q : Value × Nat) => cs.setIfInBounds (j * size + q.2) q.1) cs = (cs.toList.take (j * size) ++ l1 ++ cs.toList.drop (j * size + l1.length)).toArray := by
      apply Array.ext'
      rw [← Array.foldl_toList]
      simpa using hfold
    rw [show (fun (cs : Array Value) (x : Value × Nat) => match x with | (c, j_1) => cs.setIfInBounds (j * size + j_1) c) = (fun (cs : Array Value) (q : Value × Nat) => cs.setIfInBounds (j * size + q.2) q.1) from rfl, hz]
    rw [ih (j + 1) _ l2 h2 (by simp [h1]; rw [Nat.add_mul (j+1), Nat.succ_mul]; omega)]
    congr 1
    have e1 : (j + 1) * size = (cs.toList.take (j * size) ++ l1).length := by rw [List.length_append, List.length_take, h1, Nat.succ_mul]; simp; omega
    rw [e1]
    show ((List.take (cs.toList.take (j * size) ++ l1).length (cs.toList.take (j * size) ++ l1 ++ cs.toList.drop (j * size + l1.length))) ++ l2).toArray = _
    rw [List.take_left, List.append_assoc]
theorem run_buildSlice {P : Program} {t e : TypeId} {z : Value} {size bytes : Nat} {vs : List (Nat × Value)} {l : List Value} (ht : P.underlying t = some (.slice e)) (hi : TI P e z size bytes) (h0 : Nat.blt 0 (vs.length * size) = true) (hb : Nat.ble (vs.length * size) 16777216 = true)
    (ho : ordered size 0 vs l) (w : World) :
    (Instr.buildSlice t vs.length vs.toArray).run P w = .ok (.slice (some ⟨w.heap.size, 0, none⟩) vs.length vs.length) (w.alloc (.cells l.toArray e)) := by
  obtain ⟨i, hi1, hi2, hi3, _⟩ := hi
  subst hi3
  have hf : ∀ zero : Array Value, Instr.fill (fun j => some (j * i.size, i.size)) ((Array.range (vs.length * i.size)).map (zero[· % zero.size]!)) vs = some l.toArray := by
    intro zero
    rw [fill_ordered vs 0 _ l ho (by simp)]
    simp
  have h0' : ¬ (vs.length * i.size = 0) := by have := lt_of_blt h0; omega
  have hb' : ¬ (vs.length * i.size > 2 ^ 24) := by have : vs.length * i.size ≤ 16777216 := by simpa [Nat.ble_eq] using hb
                                                   omega
  have hz : (zeroValue e).run P w = .ok z w := by simp [zeroValue, typeInfo, hi1, hi2]
  have hs : (sizeOf e).run P w = .ok i.size w := by simp [sizeOf, typeInfo, hi1]
  simp only [Instr.buildSlice, Sem.run_bind, run_underlying ht, Result.andThen_ok, hs, hb', h0', if_false, hz, Sem.run_pure, hf, newRow]
  rfl
theorem run_buildSlice_nil {P : Program} {t e : TypeId} {z : Value} {size bytes : Nat} (ht : P.underlying t = some (.slice e)) (hi : TI P e z size bytes) (w : World) :
    (Instr.buildSlice t 0 ([] : List (Nat × Value)).toArray).run P w = .ok (.slice (some ⟨w.heap.size, 0, none⟩) 0 0) (w.alloc (.cells ([] : List Value).toArray e)) := by
  obtain ⟨i, hi1, hi2, hi3, _⟩ := hi
  have hs : (sizeOf e).run P w = .ok i.size w := by simp [sizeOf, typeInfo, hi1]
  simp only [Instr.buildSlice, Sem.run_bind, run_underlying ht, Result.andThen_ok, hs]
  have e0 : ∀ f : Nat → Value, Array.map f (Array.range 0) = #[] := fun f => by
    apply Array.ext'
    simp
  simp [Instr.fill, newRow, e0]
/-- The cells of parts, each of 'size' cells, in their order. -/
class Lit (size : Nat) (i : Nat) (vs : List (Nat × Value)) (l : outParam (List Value)) : Prop where
  ord : ordered size i vs l
instance Lit.nil (size i : Nat) : Lit size i [] [] := ⟨rfl⟩
instance Lit.one (i : Nat) (v : Value) (vs : List (Nat × Value)) (l : List Value) [h : Cells v [v]] [h' : Lit 1 (i + 1) vs l] : Lit 1 i ((i, v) :: vs) (v :: l) :=
  ⟨rfl, [v], l, rfl, h.eq, rfl, h'.ord⟩
theorem Lit.agg {size i : Nat} {l1 l : List Value} {vs : List (Nat × Value)} (h : l1.length = size) (h' : ordered size (i + 1) vs l) : ordered size i ((i, .agg l1.toArray) :: vs) (l1 ++ l) :=
  ⟨rfl, l1, l, rfl, rfl, h, h'⟩
/-- A slice's literal of elements of one cell. -/
theorem lst_lit {t e : TypeId} {parts : Array (Nat × Operand)} {vs : List (Nat × Value)} {l : List Value} {z : Value} {bytes len : Nat} (hd : Nat.blt d C.N = true)
    (hx : parts.toList.map (fun q => (q.1, ev fr q.2)) = vs.map (fun q => (q.1, some q.2))) (ht : C.P.underlying t = some (.slice e)) (hi : TI C.P e z 1 bytes) (hl : vs.length = len) (h0 : Nat.blt 0 (vs.length * 1) = true) (hb : Nat.ble (vs.length * 1) 16777216 = true) [ho : Lit 1 0 vs l]
    (k : ∀ b, Lst C ops Q rest ((d, .slice (some ⟨b, 0, none⟩) len len) :: fr) (.blk b (.cells l.toArray e (0, 0)) :: hp)) : Lst C ops Q (⟨some d, .buildSlice t len parts, ty, pos, after, none⟩ :: rest) fr hp := by
  subst hl
  exact lst_buildSlice hd hx (run_buildSlice ht hi h0 hb ho.ord) k
/-- .. of elements of several cells. -/
theorem lst_litN {t e : TypeId} {parts : Array (Nat × Operand)} {vs : List (Nat × Value)} (l : List Value) {z : Value} {bytes len size : Nat} (hd : Nat.blt d C.N = true)
    (hx : parts.toList.map (fun q => (q.1, ev fr q.2)) = vs.map (fun q => (q.1, some q.2))) (ht : C.P.underlying t = some (.slice e)) (hi : TI C.P e z size bytes) (hl : vs.length = len) (h0 : Nat.blt 0 (vs.length * size) = true) (hb : Nat.ble (vs.length * size) 16777216 = true) (ho : ordered size 0 vs l)
    (k : ∀ b, Lst C ops Q rest ((d, .slice (some ⟨b, 0, none⟩) len len) :: fr) (.blk b (.cells l.toArray e (0, 0)) :: hp)) : Lst C ops Q (⟨some d, .buildSlice t len parts, ty, pos, after, none⟩ :: rest) fr hp := by
  subst hl
  exact lst_buildSlice hd hx (run_buildSlice ht hi h0 hb ho) k
theorem lst_lit0 {t e : TypeId} {z : Value} {bytes size : Nat} (hd : Nat.blt d C.N = true) (ht : C.P.underlying t = some (.slice e)) (hi : TI C.P e z size bytes)
    (k : ∀ b, Lst C ops Q rest ((d, .slice (some ⟨b, 0, none⟩) 0 0) :: fr) (.blk b (.cells ([] : List Value).toArray e (0, 0)) :: hp)) : Lst C ops Q (⟨some d, .buildSlice t 0 #[], ty, pos, after, none⟩ :: rest) fr hp :=
  lst_buildSlice (vs := []) hd rfl (run_buildSlice_nil ht hi) k

/-! Panics, deferred calls. -/
theorem lst_panic {dst : Option Tmp} {x : Operand} {t : TypeId} {v : Value} (hx : ev fr x = some (.iface t v)) (k : Ex C Q (.panic [{ v := .iface t v, recovered := false }]) fr hp) :
    Lst C ops Q (⟨dst, .panic x, ty, pos, after, none⟩ :: rest) fr hp := by
  refine lst_of rfl fun a w ha => ?_
  refine ⟨tame_panicOp (ha.eval hx), ?_⟩
  have hr : (execOp a.eval ⟨dst, .panic x, ty, pos, after, none⟩).run C.P w = .halt (.panic (.iface t v)) w := by
    simp [execOp, ha.eval hx, Instr.panic, goPanic, Sem.run, Result.andThen]
  rw [hr]
  exact k a w ha
theorem lst_makeInterface {x : Operand} {t : TypeId} {v : Value} {dt : TypeDesc} (hd : Nat.blt d C.N = true) (hx : ev fr x = some v) (ht : C.P.underlying t = some dt) (hn : (match dt with | .interface _ => false | _ => true) = true)
    (k : Lst C ops Q rest ((d, .iface t v) :: fr) hp) : Lst C ops Q (⟨some d, .makeInterface t x, ty, pos, after, none⟩ :: rest) fr hp := by
  refine lst_value _ hd (fun _ _ _ => tame_makeInterface ..) (fun a w ha => ⟨w, ?_, ha⟩) k
  simp only [execOp, ha.eval hx, Instr.makeInterface, Sem.run_bind, run_underlying ht, Result.andThen_ok]
  cases dt <;> first | rfl | (simp at hn)
/-- A call that panics. -/
theorem lst_call_panics {dst : Option Tmp} {x : Operand} {f : FuncId} {first cap vs : List Value} {args : Array Operand} {ts : Array TypeId} {ch : List PanicEntry}
    (hx : ev fr x = some (.func (.func f) first.toArray cap.toArray)) (hargs : args.toList.map (ev fr) = vs.map some) (hf : Enters C.P f)
    (hc : ∀ a w, At C fr hp a w → Calls C.P f (first ++ vs ++ cap).toArray w fun e w' => e = .panicked ch ∧ At C fr hp' a w')
    (k : Ex C Q (.panic ch) fr hp') : Lst C ops Q (⟨dst, .call { callee := .value x, args := args, argTypes := ts }, ty, pos, after, none⟩ :: rest) fr hp := by
  refine lst_of rfl fun a w ha => ?_
  refine ⟨tame_callV (ha.eval hx) hf.2, ?_⟩
  have hr : (execOp a.eval ⟨dst, .call { callee := .value x, args := args, argTypes := ts }, ty, pos, after, none⟩).run C.P w = .ok (.enter f (first ++ vs ++ cap).toArray) w := by
    simp only [execOp, resolve, ev_args ha hargs, ha.eval hx, Deferred.ofValue, Sem.run_bind, Sem.run_pure, Result.andThen_ok, invoke, List.append_toArray]
    exact hf.1 _ w
  rw [hr]
  show Calls C.P f _ w _
  refine (hc a w ha).mono ?_
  rintro e w' ⟨rfl, h2⟩
  exact k _ _ h2
theorem lst_fn_panics {dst : Option Tmp} {f : FuncId} {vs : List Value} {args : Array Operand} {ts : Array TypeId} {ch : List PanicEntry}
    (hargs : args.toList.map (ev fr) = vs.map some) (hf : Enters C.P f)
    (hc : ∀ a w, At C fr hp a w → Calls C.P f vs.toArray w fun e w' => e = .panicked ch ∧ Grew w w' [])
    (k : Ex C Q (.panic ch) fr hp) : Lst C ops Q (⟨dst, .call { callee := .value (.func f), args := args, argTypes := ts }, ty, pos, after, none⟩ :: rest) fr hp := by
  refine lst_call_panics (first := []) (cap := []) rfl hargs hf (fun a w ha => ?_) k
  simp only [List.nil_append, List.append_nil]
  refine (hc a w ha).mono ?_
  rintro e w' ⟨h1, h2⟩
  exact ⟨h1, ha.more h2⟩
theorem At.deferred (ha : At C fr hp a w) (df : Deferred) : At { C with ds := df :: C.ds } fr hp { a with defers := df :: a.defers } w :=
  ⟨ha.size, by show df :: a.defers = df :: C.ds; rw [ha.defs], ha.slots, ha.below, ha.base, ha.own, ha.apart⟩
theorem lst_defer {x : Operand} {fn : Fn} {first cap vs : List Value} {args : Array Operand} {ts : Array TypeId} (hx : ev fr x = some (.func fn first.toArray cap.toArray)) (hargs : args.toList.map (ev fr) = vs.map some)
    (k : Lst { C with ds := { target := .fn fn cap.toArray, args := (first ++ vs).toArray } :: C.ds } ops Q rest fr hp) : Lst C ops Q (⟨none, .defer { callee := .value x, args := args, argTypes := ts }, ty, pos, after, none⟩ :: rest) fr hp := by
  refine lst_of rfl fun a w ha => ?_
  refine ⟨tame_deferOp (ha.eval hx), ?_⟩
  have hr : (execOp a.eval ⟨none, .defer { callee := .value x, args := args, argTypes := ts }, ty, pos, after, none⟩).run C.P w = .ok (.defer { target := .fn fn cap.toArray, args := (first ++ vs).toArray }) w := by
    simp only [execOp, resolve, ev_args ha hargs, ha.eval hx, Deferred.ofValue, Sem.run_bind, Sem.run_pure, Result.andThen_ok, List.append_toArray]
  rw [hr]
  exact k _ _ (ha.deferred _)

theorem enter_defers {P : Program} {f : FuncId} {fn : Func} {c : Code} {vs : List Value} {w : World} {R : Ending → World → Prop} {N : Nat} (fr : List (Nat × Value))
    (hf : P.funcs[f]? = some fn) (hb : fn.body = some c) (hN : fn.ntmps = N) (hle : Nat.ble vs.length N = true) (hfr : idx 0 vs = fr)
    (h : Cod ⟨P, w.heap.size, w, N, []⟩ c (bodyPostD P fn R) fr []) : Calls P f vs.toArray w R := by
  refine calls_of_wp_defers hf hb (h _ _ ⟨?_, rfl, ?_, Below.refl _ _, Nat.le_refl _, (fun r hr => by cases hr), List.nodup_nil⟩)
  · have : vs.length ≤ N := by simpa [Nat.ble_eq] using hle
    simp [hN]; omega
  · intro t v ht
    rw [← hfr] at ht
    obtain ⟨j, rfl, hj⟩ := look_idx vs 0 t v ht
    have hjl : j < vs.length := by
      rcases Nat.lt_or_ge j vs.length with h1 | h1
      · exact h1
      · rw [List.getElem?_eq_none h1] at hj; cases hj
    simp only [Nat.zero_add, Array.getD_eq_getD_getElem?]
    rw [Array.getElem?_append_left (by simpa using hjl)]
    simp [hj]
/-! Results that lie in memory. -/
theorem run_asAddr {P : Program} (p : Addr) (w : World) : (asAddr (.pointer (some p))).run P w = .ok p w := rfl
theorem res_tmp_cell {fn : Func} {t u : Nat} {ty ct : TypeId} {v x : Value} {b : Nat} (h : fn.results = #[.tmp t, .cell u ty]) (hv : look fr t = some v) (hu : look fr u = some (.pointer (some ⟨b, 0, none⟩))) (ht : One C.P ty)
    [hm : InB b (.cells [x].toArray ct (0, 0)) hp] (ha : At C fr hp a w) : ResV C.P fn a.tmps ((.tuple #[v, x])) w := by
  refine ⟨tame_results .., fun v₁ hrely => ?_⟩
  have ha := ha.rely hrely
  have h1 := ha.slots t v hv
  have h2 := ha.slots u _ hu
  have hc : v₁.cell? ⟨b, 0, none⟩ = some x := cell_of_blk (ha.mem_blk hm.mem) rfl
  have hl : (loadVar ty ⟨b, 0, none⟩).run C.P v₁ = .ok x v₁ := by simp [loadVar, run_isAgg ht.1 ht.2, hc]
  simp only [results, h, Array.getD_eq_getD_getElem?] at h1 h2 ⊢
  simp [h1, h2, run_asAddr, hl]
theorem res_tmp2_cell {fn : Func} {t t' u : Nat} {ty ct : TypeId} {v v' x : Value} {b : Nat} (h : fn.results = #[.tmp t, .tmp t', .cell u ty]) (hv : look fr t = some v) (hv' : look fr t' = some v') (hu : look fr u = some (.pointer (some ⟨b, 0, none⟩))) (ht : One C.P ty)
    [hm : InB b (.cells [x].toArray ct (0, 0)) hp] (ha : At C fr hp a w) : ResV C.P fn a.tmps ((.tuple #[v, v', x])) w := by
  refine ⟨tame_results .., fun v₁ hrely => ?_⟩
  have ha := ha.rely hrely
  have h1 := ha.slots t v hv
  have h1' := ha.slots t' v' hv'
  have h2 := ha.slots u _ hu
  have hc : v₁.cell? ⟨b, 0, none⟩ = some x := cell_of_blk (ha.mem_blk hm.mem) rfl
  have hl : (loadVar ty ⟨b, 0, none⟩).run C.P v₁ = .ok x v₁ := by simp [loadVar, run_isAgg ht.1 ht.2, hc]
  simp only [results, h, Array.getD_eq_getD_getElem?] at h1 h2 h1' ⊢
  simp [h1, h1', h2, run_asAddr, hl]
/-- A struct or an array, whole. -/
theorem run_loadVar_blk (ha : At C fr hp a w) {ty ct : TypeId} {b n m : Nat} {z : Value} {l : List Value} (ht : aggB C.P ty = true) (hi : TI C.P ty z n m) [hm : InB b (.cells l.toArray ct (0, 0)) hp] (hl : l.length = n) :
    (loadVar ty ⟨b, 0, none⟩).run C.P w = .ok (.agg l.toArray) w := by
  obtain ⟨i, hi, _, hs, _⟩ := hi
  have h1 := run_loadCells_list (P := C.P) w ⟨b, 0, none⟩ l (fun j u hu => by rw [addr_add, Nat.zero_add]; exact cell_of_blk (ha.mem_blk hm.mem) hu)
  rw [hl] at h1
  simp [loadVar, run_isAgg ht (aggB_ne ht), sizeOf, typeInfo, hi, hs, h1]
theorem res_cellN {fn : Func} {u n m : Nat} {ty ct : TypeId} {z : Value} {l : List Value} {b : Nat} (h : fn.results = #[.cell u ty]) (hu : look fr u = some (.pointer (some ⟨b, 0, none⟩))) (ht : aggB C.P ty = true) (hi : TI C.P ty z n m)
    [hm : InB b (.cells l.toArray ct (0, 0)) hp] (hl : l.length = n) (ha : At C fr hp a w) : ResV C.P fn a.tmps ((.agg l.toArray)) w := by
  refine ⟨tame_results .., fun v₁ hrely => ?_⟩
  have ha := ha.rely hrely
  have h2 := ha.slots u _ hu
  have hl' := run_loadVar_blk ha ht hi hl (ct := ct) (b := b)
  simp only [results, h, Array.getD_eq_getD_getElem?] at h2 ⊢
  simp [h2, run_asAddr, hl']
theorem res_cellN_tmp {fn : Func} {u t n m : Nat} {ty ct : TypeId} {z v : Value} {l : List Value} {b : Nat} (h : fn.results = #[.cell u ty, .tmp t]) (hu : look fr u = some (.pointer (some ⟨b, 0, none⟩))) (hv : look fr t = some v) (ht : aggB C.P ty = true) (hi : TI C.P ty z n m)
    [hm : InB b (.cells l.toArray ct (0, 0)) hp] (hl : l.length = n) (ha : At C fr hp a w) : ResV C.P fn a.tmps ((.tuple #[.agg l.toArray, v])) w := by
  refine ⟨tame_results .., fun v₁ hrely => ?_⟩
  have ha := ha.rely hrely
  have h2 := ha.slots u _ hu
  have h1 := ha.slots t _ hv
  have hl' := run_loadVar_blk ha ht hi hl (ct := ct) (b := b)
  simp only [results, h, Array.getD_eq_getD_getElem?] at h1 h2 ⊢
  simp [h1, h2, run_asAddr, hl']
/-- A block of the call's own reads as a list. -/
theorem blk_reads (ha : At C fr hp a w) {α : Type} {cells : α → List Value} {size ct b : Nat} (hs : ∀ x, (cells x).length = size) {l : List α} {cs : List Value} [hm : InB b (.cells cs.toArray ct (0, 0)) hp] (hcs : cs = l.flatMap cells) : RdL cells size w (some ⟨b, 0, none⟩) l := by
  intro _
  subst hcs
  refine ⟨b, 0, rfl, (Res.lt (ha.own _ hm.mem) b rfl).2, fun k x hk j u hu => ?_⟩
  rw [Nat.zero_add]
  exact cell_of_blk (ha.mem_blk hm.mem) (flatMap_get hs l k x hk j u hu)

/-! Regions that draw their order. -/
/-- An operation that yields a value and turns nothing, from where the walk stands. -/
def Yld (C : Ctx) (o : Oper) (fr : List (Nat × Value)) (hp : List Res) (v : Value) : Prop := o.guard = none ∧ ∀ a w, At C fr hp a w → Tame C.P (execOp a.eval o) ∧ (execOp a.eval o).run C.P w = .ok (.value v) w
section
variable {dst : Option Tmp}
theorem yld_move {x : Operand} {v : Value} (hx : ev fr x = some v) : Yld C ⟨dst, .move x, ty, pos, after, none⟩ fr hp v := ⟨rfl, fun a w ha => ⟨tame_move _, by simp [execOp, ha.eval hx]⟩⟩
theorem yld_assign {x : Operand} {v : Value} (hx : ev fr x = some v) : Yld C ⟨dst, .assign x, ty, pos, after, none⟩ fr hp v := ⟨rfl, fun a w ha => ⟨tame_assign _, by simp [execOp, ha.eval hx]⟩⟩
theorem yld_pick_true {c x y : Operand} {v : Value} (hc : ev fr c = some (.bool true)) (hx : ev fr x = some v) : Yld C ⟨dst, .pick c x y, ty, pos, after, none⟩ fr hp v := ⟨rfl, fun a w ha => ⟨tame_pick .., by simp [execOp, ha.eval hc, ha.eval hx, asBool]⟩⟩
theorem yld_pick_false {c x y : Operand} {v : Value} (hc : ev fr c = some (.bool false)) (hy : ev fr y = some v) : Yld C ⟨dst, .pick c x y, ty, pos, after, none⟩ fr hp v := ⟨rfl, fun a w ha => ⟨tame_pick .., by simp [execOp, ha.eval hc, ha.eval hy, asBool]⟩⟩
theorem yld_not {x : Operand} {b : Bool} {t : TypeId} (hx : ev fr x = some (.bool b)) : Yld C ⟨dst, .unOp .not t x, ty, pos, after, none⟩ fr hp (.bool (!b)) := ⟨rfl, fun a w ha => ⟨tame_unOp .., by simp [execOp, ha.eval hx, Op.unary]⟩⟩
theorem yld_extract {x : Operand} {vs : List Value} {i : Nat} {v : Value} (hx : ev fr x = some (.tuple vs.toArray)) (hv : vs[i]? = some v) : Yld C ⟨dst, .extract x i, ty, pos, after, none⟩ fr hp v := ⟨rfl, fun a w ha => ⟨tame_extract .., by simp [execOp, ha.eval hx, Instr.extract, hv]⟩⟩
theorem yld_nilCheck {x : Operand} {p : Addr} (hx : ev fr x = some (.pointer (some p))) : Yld C ⟨dst, .nilCheck x, ty, pos, after, none⟩ fr hp (.pointer (some p)) := ⟨rfl, fun a w ha => ⟨tame_nilCheck (ha.eval hx), by simp [execOp, ha.eval hx]⟩⟩
theorem yld_field {x : Operand} {s : TypeId} {f : Nat} {b o ft off : Nat} {z : Value} {n m : Nat} (hx : ev fr x = some (.pointer (some ⟨b, o, none⟩)))
    (hf : FI C.P s f ft off) (hi : TI C.P ft z (n + 1) m) : Yld C ⟨dst, .fieldAddr s x f, ty, pos, after, none⟩ fr hp (.pointer (some ⟨b, o + off, none⟩)) := by
  obtain ⟨fs, fd, h1, h2, h3, h4⟩ := hf
  obtain ⟨i, hi, _, hs, _⟩ := hi
  subst h3; subst h4
  exact ⟨rfl, fun a w ha => ⟨tame_field (ha.eval hx) h1 h2 hi hs, by simp [execOp, ha.eval hx, Instr.fieldAt, run_underlying h1, h2, Instr.sureAddr, fieldPlace, sizeOf, typeInfo, hi, hs, addr_add]⟩⟩
theorem yld_field_z {x : Operand} {s : TypeId} {f : Nat} {b ft off : Nat} {z : Value} {n m : Nat} (hx : ev fr x = some (.pointer (some ⟨b, 0, none⟩)))
    (hf : FI C.P s f ft off) (hi : TI C.P ft z (n + 1) m) : Yld C ⟨dst, .fieldAddr s x f, ty, pos, after, none⟩ fr hp (.pointer (some ⟨b, off, none⟩)) := by
  have := yld_field (C := C) (hp := hp) (dst := dst) (ty := ty) (pos := pos) (after := after) hx hf hi
  rwa [Nat.zero_add] at this
theorem yld_load_at {x : Operand} {t : TypeId} {p : Addr} {v : Value} (hx : ev fr x = some (.pointer (some p))) (ht : One C.P t) (hc : ∀ a w, At C fr hp a w → w.cell? p = some v) : Yld C ⟨dst, .load t x, ty, pos, after, none⟩ fr hp v :=
  ⟨rfl, fun a w ha => ⟨tame_loadOp .., by simp [execOp, ha.eval hx, Instr.loadAt, Instr.sureAddr, loadVar, run_isAgg ht.1 ht.2, hc a w ha]⟩⟩
theorem yld_load {x : Operand} {t ct : TypeId} {b o : Nat} {cs : List Value} {v : Value} (hx : ev fr x = some (.pointer (some ⟨b, o, none⟩))) (ht : One C.P t) [hm : InB b (.cells cs.toArray ct (0, 0)) hp] [hv : Get cs o v] : Yld C ⟨dst, .load t x, ty, pos, after, none⟩ fr hp v :=
  yld_load_at hx ht (fun _ _ ha => cell_of_blk (ha.mem_blk hm.mem) hv.eq)
theorem yld_loadN_at {x : Operand} {t : TypeId} {b o : Nat} {l : List Value} {z : Value} {n m : Nat} (hx : ev fr x = some (.pointer (some ⟨b, o, none⟩))) (ht : aggB C.P t = true)
    (hi : TI C.P t z n m) (hl : l.length = n) (hc : ∀ a w, At C fr hp a w → ∀ j u, l[j]? = some u → w.cell? ⟨b, o + j, none⟩ = some u) : Yld C ⟨dst, .load t x, ty, pos, after, none⟩ fr hp (.agg l.toArray) := by
  obtain ⟨i, hi, _, hs, _⟩ := hi
  refine ⟨rfl, fun a w ha => ⟨tame_loadOp .., ?_⟩⟩
  have h1 := run_loadCells_list (P := C.P) w ⟨b, o, none⟩ l (fun j u hu => by rw [addr_add]; exact hc a w ha j u hu)
  rw [hl] at h1
  simp [execOp, ha.eval hx, Instr.loadAt, Instr.sureAddr, loadVar, run_isAgg ht (aggB_ne ht), sizeOf, typeInfo, hi, hs, h1]
theorem yld_loadN {x : Operand} {t ct : TypeId} {b o : Nat} {cs l : List Value} {z : Value} {n m : Nat} (hx : ev fr x = some (.pointer (some ⟨b, o, none⟩))) (ht : aggB C.P t = true) (hi : TI C.P t z n m)
    [hm : InB b (.cells cs.toArray ct (0, 0)) hp] [hv : Ext cs o n l] : Yld C ⟨dst, .load t x, ty, pos, after, none⟩ fr hp (.agg l.toArray) := by
  have hlen := hv.len
  have heq := hv.eq
  refine yld_loadN_at hx ht hi ?_ (fun _ _ ha j u hu => cell_of_blk (ha.mem_blk hm.mem) ?_)
  · rw [heq, List.length_take, List.length_drop]; omega
  · rw [heq, List.getElem?_take] at hu
    split at hu
    · rw [List.getElem?_drop] at hu; exact hu
    · cases hu
theorem yld_index_arr {x y : Operand} {t e : TypeId} {b o j len n m : Nat} {kd : IntKind} {i : Int} {z : Value} (hx : ev fr x = some (.pointer (some ⟨b, o, none⟩))) (hy : ev fr y = some (.int kd i))
    (ht : C.P.underlying t = some (.array len e)) (he : TI C.P e z n m) (hi : i = (j : Int)) (hj : j < len) : Yld C ⟨dst, .indexAddr t x y, ty, pos, after, none⟩ fr hp (.pointer (some ⟨b, o + j * n, none⟩)) := by
  obtain ⟨i', hi', _, hs, _⟩ := he
  subst hi
  exact ⟨rfl, fun a w ha => ⟨tame_index .., by simp [execOp, ha.eval hx, ha.eval hy, Instr.indexAt, asIntOf, run_underlying ht, Instr.sureAddr, hj, sizeOf, typeInfo, hi', hs, addr_add]⟩⟩
theorem yld_index {x y : Operand} {t e : TypeId} {b o j len cap n m : Nat} {kd : IntKind} {i : Int} {z : Value} (hx : ev fr x = some (.slice (some ⟨b, o, none⟩) len cap)) (hy : ev fr y = some (.int kd i))
    (ht : C.P.underlying t = some (.slice e)) (he : TI C.P e z n m) (hi : i = (j : Int)) (hj : j < len) : Yld C ⟨dst, .indexAddr t x y, ty, pos, after, none⟩ fr hp (.pointer (some ⟨b, o + j * n, none⟩)) := by
  obtain ⟨i', hi', _, hs, _⟩ := he
  subst hi
  exact ⟨rfl, fun a w ha => ⟨tame_index .., by simp [execOp, ha.eval hx, ha.eval hy, Instr.indexAt, asIntOf, run_underlying ht, hj, sizeOf, typeInfo, hi', hs, addr_add]⟩⟩
theorem yld_int {op : BinOp} {x y : Operand} {t t' : TypeId} {kd : IntKind} {m n : Int} {v : Value} (hx : ev fr x = some (.int kd m)) (hy : ev fr y = some (.int kd n))
    (hr : ∀ w : World, (binOp op t (.int kd m) (.int kd n)).run C.P w = .ok v w) : Yld C ⟨dst, .binOp op t x y t', ty, pos, after, none⟩ fr hp v := by
  refine ⟨rfl, fun a w ha => ⟨tame_binInt (ha.eval hx) (ha.eval hy), ?_⟩⟩
  have hg : ∀ w : World, (eqGuard op t x y (.int kd m) (.int kd n)).run C.P w = .ok () w := by
    intro w
    unfold eqGuard
    cases op <;> simp
  simp [execOp, ha.eval hx, ha.eval hy, hg, hr]
end

/-- What a region holds of the world: these things, and all old memory. -/
def Mem (C : Ctx) (hp : List Res) (w : World) : Prop := Below C.B C.w0 w ∧ C.B ≤ w.heap.size ∧ (∀ r, r ∈ hp → r.ok C.B w) ∧ (hp.filterMap Res.id).Nodup
theorem At.toMem (ha : At C fr hp a w) {hpS : List Res} (hs : hpS.Sublist hp) : Mem C hpS w := ⟨ha.below, ha.base, fun r hr => ha.own r (hs.subset hr), ha.apart.sublist (hs.filterMap _)⟩
theorem At.ofMem (ha : At C fr hp a w) {hpS : List Res} {w' : World} (h : Mem C hpS w') : At C fr hpS a w' := ⟨ha.size, ha.defs, ha.slots, h.1, h.2.1, h.2.2.1, h.2.2.2⟩
/-- The ways out of a region that does not panic. -/
def OnlyN (Q : Exit → Act → World → Prop) : Exit → Act → World → Prop
  | .normal, a, w => Q .normal a w
  | _, _, _ => False
theorem Mem.rely {hp : List Res} (w w' : World) (h : Mem C hp w) (hr : Rl w w') : Mem C hp w' :=
  ⟨h.1.trans (hr.mono h.2.1), Nat.le_trans h.2.1 hr.size, fun r hr' => Res.keep (h.2.2.1 r hr') (fun k hk => hr.block k (Res.lt (h.2.2.1 r hr') k hk).2), h.2.2.2⟩
/-- A region, in whatever order, from where the walk stands. -/
def Any (C : Ctx) (ops : Array Oper) (Q : Exit → Act → World → Prop) (hpS : List Res) (fuel : Nat) (listed : Array Bool) (fr : List (Nat × Value)) (hp : List Res) : Prop :=
  ∀ a w, At C fr hp a w → wpAnyH C.P .any ops (Lax (OnlyN Q)) (Mem C hpS) fuel listed a w
theorem At.drew (ha : At C fr hp a w) : At C fr hp a { w with drawn := w.drawn + 1 } :=
  ⟨ha.size, ha.defs, ha.slots, ⟨ha.below.os, ha.below.tape, ha.below.output, ha.below.size, ha.below.block⟩, ha.base, fun r hr => Res.keep (w := w) (ha.own r hr) (fun _ _ => rfl), ha.apart⟩
variable {hpS : List Res} {fuel : Nat} {listed listed' : Array Bool}
theorem any_start {id : Nat} {l : List Oper} (hm : C.P.follows .mixedOrders = true) (n : Nat) (hn : l.length = n) (lst : List Bool) (hl : Array.replicate n false = lst.toArray) (_hs : hpS.Sublist hp) (h : Any C l.toArray Q hpS n lst.toArray fr hp) :
    Cod C (.region id l.toArray true) Q fr hp := by
  intro a w ha
  refine wp_mono (Q := OnlyN Q) (wp_lax (wp_region_held (S := Mem C hpS) hm ?_)) ?_
  · have h1 := h a _ ha
    rw [← hl] at h1
    simpa [hn] using h1
  · intro e a' w' he
    cases e with
    | normal => exact he
    | _ => exact he.elim
theorem any_done {rs : List Nat} (hr : Region.ready .any ops listed = rs) (h0 : rs = []) (h : Ex C Q .normal fr hp) : Any C ops Q hpS fuel listed fr hp :=
  fun a w ha => wpAnyH_done (hr.trans h0) (Lax.of (show OnlyN Q .normal a w from h a w ha)) fuel
theorem any_take {o : Oper} {v : Value} (i : Nat) (hi : ops[i]? = some o) (hdst : o.dst = some d) (hd : Nat.blt d C.N = true) (hns : Region.noSelect ops = true) (hf : Region.free .any ops listed i = true) (hr : (Region.ready .any ops listed).contains i = true)
    (hs : hpS.Sublist hp) (y : Yld C o fr hpS v) (hl : listed.setIfInBounds i true = listed') (k : Any C ops Q hpS fuel listed' ((d, v) :: fr) hp) : Any C ops Q hpS (fuel + 1) listed fr hp := by
  intro a w ha
  refine wpAnyH_take Mem.rely (fun _ _ _ h hr => h.rely hr) hi hns hf hr (fun c a w h => h.elim fun _ h => h.1.elim) (.inl ⟨?_, (y.2 a w (ha.ofMem (ha.toMem hs))).1, fun w' hw' => (y.2 a w' (ha.ofMem hw')).2⟩) (ha.toMem hs) ?_
  · unfold Region.wanted; rw [y.1]
  · rw [hl, hdst]
    exact k _ _ (ha.put (lt_of_blt hd) v)
/-- .. an operation under a guard that says yes. -/
theorem any_take_on {dst : Option Tmp} {op : Op} {v : Value} {j t : Nat} {b : Bool} (i : Nat) (hi : ops[i]? = some ⟨dst, op, ty, pos, after, some (j, b)⟩) (hj : (ops[j]?).bind (·.dst) = some t) (hv : look fr t = some (.bool b)) (hdst : dst = some d) (hd : Nat.blt d C.N = true) (hns : Region.noSelect ops = true)
    (hf : Region.free .any ops listed i = true) (hr : (Region.ready .any ops listed).contains i = true) (hs : hpS.Sublist hp) (y : Yld C ⟨dst, op, ty, pos, after, none⟩ fr hpS v) (hl : listed.setIfInBounds i true = listed') (k : Any C ops Q hpS fuel listed' ((d, v) :: fr) hp) : Any C ops Q hpS (fuel + 1) listed fr hp := by
  intro a w ha
  refine wpAnyH_take Mem.rely (fun _ _ _ h hr => h.rely hr) hi hns hf hr (fun c a w h => h.elim fun _ h => h.1.elim) (.inl ⟨?_, (y.2 a w (ha.ofMem (ha.toMem hs))).1, fun w' hw' => (y.2 a w' (ha.ofMem hw')).2⟩) (ha.toMem hs) ?_
  · simp [Region.wanted, yields_of ha hj hv]
  · rw [hl]
    show wpAnyH _ _ _ _ _ _ _ (a.put dst v) w
    rw [hdst]
    exact k _ _ (ha.put (lt_of_blt hd) v)
/-- .. under a guard that says no. -/
theorem any_take_off {dst : Option Tmp} {op : Op} {j t : Nat} {b : Bool} (i : Nat) (hi : ops[i]? = some ⟨dst, op, ty, pos, after, some (j, b)⟩) (hj : (ops[j]?).bind (·.dst) = some t) (hv : look fr t = some (.bool (!b))) (hdst : dst = some d) (hd : Nat.blt d C.N = true) (hns : Region.noSelect ops = true)
    (hf : Region.free .any ops listed i = true) (hr : (Region.ready .any ops listed).contains i = true) (hs : hpS.Sublist hp) (hl : listed.setIfInBounds i true = listed') (k : Any C ops Q hpS fuel listed' ((d, undef) :: fr) hp) : Any C ops Q hpS (fuel + 1) listed fr hp := by
  intro a w ha
  refine wpAnyH_take (v := undef) Mem.rely (fun _ _ _ h hr => h.rely hr) hi hns hf hr (fun c a w h => h.elim fun _ h => h.1.elim) (.inr ⟨?_, rfl⟩) (ha.toMem hs) ?_
  · cases b <;> simp [Region.wanted, yields_of ha hj hv]
  · rw [hl]
    show wpAnyH _ _ _ _ _ _ _ (a.put dst undef) w
    rw [hdst]
    exact k _ _ (ha.put (lt_of_blt hd) undef)
/-- What is asked behind an operation that is carried out. -/
def Nxt (C : Ctx) (ops : Array Oper) (Q : Exit → Act → World → Prop) (hpS : List Res) (fuel : Nat) (listed : Array Bool) (a : Act) (w : World) : Prop :=
  Mem C hpS w ∧ wpAnyH C.P .any ops (Lax (OnlyN Q)) (Mem C hpS) fuel listed a w
theorem op_of_lst {i : Nat} {o : Oper} (hi : ops[i]? = some o) {K : Act → World → Prop} (h : Lst C ops (Exit.then K (Lax (OnlyN Q))) [o] fr hp) (ha : At C fr hp a w) : wpOp C.P ops (Lax (OnlyN Q)) i K a w := by
  have h := h a w ha
  unfold wpOp
  simp only [hi]
  simp only [wpList] at h
  split at h
  · rename_i hw
    rw [if_pos hw]
    exact h.mono (fun _ _ x => x) (fun _ _ _ x => x)
  · rename_i hw
    rw [if_neg hw]
    exact h
theorem any_one {o : Oper} (i : Nat) (hr : Region.ready .any ops listed = [i]) (hi : ops[i]? = some o) (hl : listed.setIfInBounds i true = listed') (h : Lst C ops (Exit.then (Nxt C ops Q hpS fuel listed') (Lax (OnlyN Q))) [o] fr hp) : Any C ops Q hpS (fuel + 1) listed fr hp := by
  intro a w ha
  refine wpAnyH_all hr (by simp) ?_
  intro k hk
  simp at hk
  subst hk
  rw [hl]
  exact op_of_lst hi h ha
theorem any_two {o o' : Oper} {l1 l2 : Array Bool} (i j : Nat) (hr : Region.ready .any ops listed = [i, j]) (hi : ops[i]? = some o) (hj : ops[j]? = some o') (hl : listed.setIfInBounds i true = l1) (hl' : listed.setIfInBounds j true = l2)
    (h : Lst C ops (Exit.then (Nxt C ops Q hpS fuel l1) (Lax (OnlyN Q))) [o] fr hp) (h' : Lst C ops (Exit.then (Nxt C ops Q hpS fuel l2) (Lax (OnlyN Q))) [o'] fr hp) : Any C ops Q hpS (fuel + 1) listed fr hp := by
  intro a w ha
  refine wpAnyH_all hr (by simp) ?_
  intro k hk
  simp at hk
  rcases hk with rfl | rfl
  · rw [hl]; exact op_of_lst hi h ha
  · rw [hl']; exact op_of_lst hj h' ha
theorem any_next (hs : hpS.Sublist hp) (h : Any C ops Q hpS fuel listed fr hp) : Ex C (Exit.then (Nxt C ops Q hpS fuel listed) (Lax (OnlyN Q))) .normal fr hp :=
  fun a w ha => ⟨ha.toMem hs, h a w ha⟩
/-- A slot holds a test: two ways. -/
theorem any_split_bool {t : Nat} {b : Bool} (hv : look fr t = some (.bool b)) (h : b = true → Any C ops Q hpS fuel listed ((t, .bool true) :: fr) hp) (h' : b = false → Any C ops Q hpS fuel listed ((t, .bool false) :: fr) hp) : Any C ops Q hpS fuel listed fr hp := by
  intro a w ha
  have same : At C ((t, .bool b) :: fr) hp a w := ha.drop_slots_of fun s v hs => by
    rw [look_cons] at hs
    by_cases e : t = s
    · subst e; rw [if_pos rfl] at hs; rw [hv, hs]
    · rw [if_neg e] at hs; exact hs
  cases b with
  | true => exact h rfl a w same
  | false => exact h' rfl a w same
end
end Go.Proofs.YtofkhehcnfiopaaDoor.N
namespace Go.Proofs.YtofkhehcnfiopaaDoor.N
open Go
set_option linter.unusedSectionVars false
variable [I : Sys]
/-- a without the bits of b. -/
def nn (a b : Nat) : Nat := a ^^^ (a &&& b)
theorem wrap_u8 (n : Nat) (h : n < 256) : IntKind.u8.wrap (n : Int) = n := by
  simp [IntKind.wrap, IntKind.bits, IntKind.signed]
  omega
theorem wrap_u64 (n : Nat) (h : n < 18446744073709551616) : IntKind.u64.wrap (n : Int) = n := by
  simp [IntKind.wrap, IntKind.bits, IntKind.signed]
  omega
theorem wrap_i64' (n : Int) (h : -9223372036854775808 ≤ n) (h' : n < 9223372036854775808) : IntKind.i64.wrap n = n := by
  rw [IntKind.wrap_i64]
  omega
theorem ofInt_u8 (a : Nat) (h : a < 256) : (BitVec.ofInt IntKind.u8.bits (a : Int)).toNat = a := by
  rw [BitVec.ofInt_natCast, BitVec.toNat_ofNat]; exact Nat.mod_eq_of_lt h
theorem ofInt_u64 (a : Nat) (h : a < 18446744073709551616) : (BitVec.ofInt IntKind.u64.bits (a : Int)).toNat = a := by
  rw [BitVec.ofInt_natCast, BitVec.toNat_ofNat]; exact Nat.mod_eq_of_lt h
theorem ofInt_i64' (a : Nat) (h : a < 9223372036854775808) : (BitVec.ofInt IntKind.i64.bits (a : Int)).toNat = a := by
  rw [BitVec.ofInt_natCast, BitVec.toNat_ofNat]; exact Nat.mod_eq_of_lt (Nat.lt_trans h (by decide))
theorem bv_andNot {n : Nat} (x y : BitVec n) : x &&& ~~~y = x ^^^ (x &&& y) := by
  apply BitVec.eq_of_getLsbD_eq
  intro i hi
  simp [hi]
  cases x[i] <;> cases y[i] <;> rfl
theorem and_lt {a n : Nat} (b : Nat) (h : a < 2 ^ n) : a &&& b < 2 ^ n := Nat.lt_of_le_of_lt Nat.and_le_left h
theorem nn_lt {a b n : Nat} (h : a < 2 ^ n) : nn a b < 2 ^ n := Nat.xor_lt_two_pow h (and_lt _ h)
theorem u8_and (a b : Nat) (ha : a < 256) (hb : b < 256) : IntKind.u8.wrap ((BitVec.ofInt IntKind.u8.bits (a : Int) &&& BitVec.ofInt IntKind.u8.bits (b : Int)).toNat : Int) = ((a &&& b : Nat) : Int) := by
  rw [BitVec.toNat_and, ofInt_u8 a ha, ofInt_u8 b hb]
  exact wrap_u8 _ (show _ < 2 ^ 8 from and_lt b ha)
theorem u8_or (a b : Nat) (ha : a < 256) (hb : b < 256) : IntKind.u8.wrap ((BitVec.ofInt IntKind.u8.bits (a : Int) ||| BitVec.ofInt IntKind.u8.bits (b : Int)).toNat : Int) = ((a ||| b : Nat) : Int) := by
  rw [BitVec.toNat_or, ofInt_u8 a ha, ofInt_u8 b hb]
  exact wrap_u8 _ (show _ < 2 ^ 8 from Nat.or_lt_two_pow ha hb)
theorem u8_andNot (a b : Nat) (ha : a < 256) (hb : b < 256) : IntKind.u8.wrap ((BitVec.ofInt IntKind.u8.bits (a : Int) &&& ~~~ BitVec.ofInt IntKind.u8.bits (b : Int)).toNat : Int) = ((nn a b : Nat) : Int) := by
  rw [bv_andNot, BitVec.toNat_xor, BitVec.toNat_and, ofInt_u8 a ha, ofInt_u8 b hb]
  exact wrap_u8 _ (show _ < 2 ^ 8 from nn_lt ha)
theorem u64_and (a b : Nat) (ha : a < 18446744073709551616) (hb : b < 18446744073709551616) : IntKind.u64.wrap ((BitVec.ofInt IntKind.u64.bits (a : Int) &&& BitVec.ofInt IntKind.u64.bits (b : Int)).toNat : Int) = ((a &&& b : Nat) : Int) := by
  rw [BitVec.toNat_and, ofInt_u64 a ha, ofInt_u64 b hb]
  exact wrap_u64 _ (show _ < 2 ^ 64 from and_lt b ha)
theorem u64_or (a b : Nat) (ha : a < 18446744073709551616) (hb : b < 18446744073709551616) : IntKind.u64.wrap ((BitVec.ofInt IntKind.u64.bits (a : Int) ||| BitVec.ofInt IntKind.u64.bits (b : Int)).toNat : Int) = ((a ||| b : Nat) : Int) := by
  rw [BitVec.toNat_or, ofInt_u64 a ha, ofInt_u64 b hb]
  exact wrap_u64 _ (show _ < 2 ^ 64 from Nat.or_lt_two_pow ha hb)
theorem u64_xor (a b : Nat) (ha : a < 18446744073709551616) (hb : b < 18446744073709551616) : IntKind.u64.wrap ((BitVec.ofInt IntKind.u64.bits (a : Int) ^^^ BitVec.ofInt IntKind.u64.bits (b : Int)).toNat : Int) = ((a ^^^ b : Nat) : Int) := by
  rw [BitVec.toNat_xor, ofInt_u64 a ha, ofInt_u64 b hb]
  exact wrap_u64 _ (show _ < 2 ^ 64 from Nat.xor_lt_two_pow ha hb)
theorem i64_and (a b : Nat) (ha : a < 9223372036854775808) (hb : b < 9223372036854775808) : IntKind.i64.wrap ((BitVec.ofInt IntKind.i64.bits (a : Int) &&& BitVec.ofInt IntKind.i64.bits (b : Int)).toNat : Int) = ((a &&& b : Nat) : Int) := by
  rw [BitVec.toNat_and, ofInt_i64' a ha, ofInt_i64' b hb]
  have : a &&& b < 2 ^ 63 := and_lt b ha
  exact wrap_i64' _ (by omega) (by omega)
theorem fdiv_shr (a n k : Nat) : (a : Int).fdiv (2 ^ (min ((n : Int)).toNat k)) = ((a >>> (min n k) : Nat) : Int) := by
  rw [Int.toNat_natCast, Nat.shiftRight_eq_div_pow, Int.natCast_ediv, Int.fdiv_eq_ediv_of_nonneg]
  · simp
  · exact Int.pow_nonneg (by decide)
theorem shr_bit (s i k : Nat) (hs : s < 2 ^ k) : (s >>> (min i k)) &&& 1 = (if s.testBit i then 1 else 0) := by
  rcases Nat.lt_or_ge i k with h | h
  · rw [Nat.min_eq_left (Nat.le_of_lt h), Nat.and_one_is_mod, Nat.testBit_eq_decide_div_mod_eq, Nat.shiftRight_eq_div_pow]
    have : s / 2 ^ i % 2 < 2 := Nat.mod_lt _ (by decide)
    by_cases hb : s / 2 ^ i % 2 = 1 <;> simp [hb] <;> omega
  · rw [Nat.min_eq_right h, Nat.shiftRight_eq_div_pow, Nat.div_eq_of_lt hs, Nat.testBit_lt_two_pow (Nat.lt_of_lt_of_le hs (Nat.pow_le_pow_right (by decide) h))]
    rfl
theorem bit_test (s i k : Nat) (hs : s < 2 ^ k) : decide ((((s >>> (min i k)) &&& 1 : Nat) : Int) = 1) = s.testBit i := by
  rw [shr_bit s i k hs]
  cases s.testBit i <;> simp
theorem dec_nat (a b : Nat) : decide ((a : Int) = (b : Int)) = decide (a = b) := by
  by_cases h : a = b
  · simp [h]
  · have : ¬ (a : Int) = (b : Int) := by omega
    simp [h, this]
theorem dec_zero (a : Nat) : decide ((a : Int) = 0) = decide (a = 0) := dec_nat a 0
end Go.Proofs.YtofkhehcnfiopaaDoor.N
namespace Go.Proofs.YtofkhehcnfiopaaDoor.N
open Go
set_option linter.unusedSectionVars false
variable [I : Sys]
/-- An agent. -/
structure Ag where
  needs : Nat
  no : Nat
  takes : Nat
  leaves : Nat
  cost : Nat
  deriving DecidableEq, Inhabited
def Ag.cells (a : Ag) : List Value := [.int .i64 a.needs, .int .i64 a.no, .int .i64 a.takes, .int .i64 a.leaves, .int .i64 a.cost]
structure Ag.ok (a : Ag) : Prop where
  needs : a.needs < 64
  no : a.no < 64
  takes : a.takes < 64
  leaves : a.leaves < 64
  apart : a.needs &&& a.no = 0
  cost : 1 ≤ a.cost ∧ a.cost ≤ 9
def Oks (l : List Ag) : Prop := l.length ≤ 4 ∧ ∀ a ∈ l, a.ok
def mayN (a : Ag) (f : Nat) : Bool := decide (nn a.needs f = 0) && decide (a.no &&& f = 0)
def putN (a : Ag) (f : Nat) : Nat := nn f a.takes ||| a.leaves
theorem putN_lt {a : Ag} {f : Nat} (ha : a.ok) (hf : f < 64) : putN a f < 64 := show _ < 2 ^ 6 from Nat.or_lt_two_pow (nn_lt hf) ha.leaves
/-- Which agents that are used may be put. -/
def canTo (l : List Ag) (used f : Nat) (k : Nat) : List Nat := (List.range k).filter fun i => used.testBit i && mayN (l.getD i default) f
theorem canTo_succ (l : List Ag) (used f k : Nat) : canTo l used f (k + 1) = canTo l used f k ++ (if used.testBit k && mayN (l.getD k default) f then [k] else []) := by
  unfold canTo
  rw [List.range_succ, List.filter_append]
  congr 1
  by_cases h : (used.testBit k && mayN (l.getD k default) f) = true <;> simp [List.filter_cons]
theorem canTo_len (l : List Ag) (used f k : Nat) : (canTo l used f k).length ≤ k := by
  unfold canTo
  exact Nat.le_trans (List.length_filter_le _ _) (by simp)
/-- Numbers as cells. -/
def ints (l : List Nat) : List Value := l.map fun (n : Nat) => Value.int .i64 (n : Int)
theorem ints_snoc (l : List Nat) (n : Nat) : ints (l ++ [n]) = ints l ++ [.int .i64 (n : Int)] := by simp [ints]
theorem ints_len (l : List Nat) : (ints l).length = l.length := by simp [ints]
/-! Raw agents. -/
structure RA where
  needs : Int
  no : Int
  takes : Int
  leaves : Int
  cost : Int
  deriving DecidableEq, Inhabited
def RA.cells (a : RA) : List Value := [.int .i64 a.needs, .int .i64 a.no, .int .i64 a.takes, .int .i64 a.leaves, .int .i64 a.cost]
def inB (n lo hi : Int) : Bool := decide (lo ≤ n) && decide (n ≤ hi)
theorem inB_true {n lo hi : Int} : inB n lo hi = true ↔ lo ≤ n ∧ n ≤ hi := by simp [inB]
def RA.four (a : RA) : List Int := [a.needs, a.no, a.takes, a.leaves]
def allB (l : List Int) : Bool := l.all (inB · 0 63)
def RA.bad (a : RA) : Nat := if allB a.four = false then 1 else if a.needs.toNat &&& a.no.toNat ≠ 0 then 9 else if inB a.cost 1 9 = false then 1 else 0
def firstBad : List RA → Nat
  | [] => 0
  | a :: l => if a.bad ≠ 0 then a.bad else firstBad l
def checkR (l : List RA) : Nat := if 4 < l.length then 6 else firstBad l
def RA.ag (a : RA) : Ag := ⟨a.needs.toNat, a.no.toNat, a.takes.toNat, a.leaves.toNat, a.cost.toNat⟩
def Ag.raw (a : Ag) : RA := ⟨a.needs, a.no, a.takes, a.leaves, a.cost⟩
def icell (n : Int) : List Value := [.int .i64 n]
theorem RA.bad_zero {a : RA} (h : a.bad = 0) : a.ag.ok ∧ a.ag.cells = a.cells := by
  unfold RA.bad at h
  by_cases h1 : allB a.four = false
  · rw [if_pos h1] at h; cases h
  rw [if_neg h1] at h
  by_cases h2 : a.needs.toNat &&& a.no.toNat ≠ 0
  · rw [if_pos h2] at h; cases h
  rw [if_neg h2] at h
  by_cases h3 : inB a.cost 1 9 = false
  · rw [if_pos h3] at h; cases h
  have h1' : allB a.four = true := by simpa using h1
  have h3' : inB a.cost 1 9 = true := by simpa using h3
  simp only [allB, RA.four, List.all_cons, List.all_nil, Bool.and_true, Bool.and_eq_true, inB_true] at h1'
  rw [inB_true] at h3'
  simp only [ne_eq, Decidable.not_not] at h2
  obtain ⟨⟨a1, a2⟩, ⟨b1, b2⟩, ⟨c1, c2⟩, d1, d2⟩ := h1'
  refine ⟨⟨?_, ?_, ?_, ?_, h2, ?_⟩, ?_⟩
  · show a.needs.toNat < 64; omega
  · show a.no.toNat < 64; omega
  · show a.takes.toNat < 64; omega
  · show a.leaves.toNat < 64; omega
  · show 1 ≤ a.cost.toNat ∧ a.cost.toNat ≤ 9; omega
  · simp only [Ag.cells, RA.ag, RA.cells]
    rw [Int.toNat_of_nonneg a1, Int.toNat_of_nonneg b1, Int.toNat_of_nonneg c1, Int.toNat_of_nonneg d1, Int.toNat_of_nonneg (by omega)]
theorem firstBad_zero {l : List RA} (h : firstBad l = 0) : ∀ a ∈ l, a.bad = 0 := by
  induction l with
  | nil => intro a ha; cases ha
  | cons b l ih =>
    unfold firstBad at h
    by_cases hb : b.bad ≠ 0
    · rw [if_pos hb] at h; exact absurd h hb
    · rw [if_neg hb] at h
      intro a ha
      rcases List.mem_cons.1 ha with e | e
      · subst e; simpa using hb
      · exact ih h a e
theorem firstBad_pre {l1 l2 : List RA} (h : ∀ a ∈ l1, a.bad = 0) : firstBad (l1 ++ l2) = firstBad l2 := by
  induction l1 with
  | nil => rfl
  | cons b l1 ih =>
    rw [List.cons_append, firstBad, if_neg (by simp [h b (by simp)])]
    exact ih fun a ha => h a (by simp [ha])
theorem checkR_zero {l : List RA} (h : checkR l = 0) : l.length ≤ 4 ∧ firstBad l = 0 := by
  unfold checkR at h
  by_cases h4 : 4 < l.length
  · rw [if_pos h4] at h; cases h
  · rw [if_neg h4] at h; exact ⟨by omega, h⟩
theorem RdL.ag {w : World} {A : Option Addr} {l : List RA} (h : RdL RA.cells 5 w A l) (hc : checkR l = 0) : RdL Ag.cells 5 w A (l.map RA.ag) := by
  intro hl
  obtain ⟨b, o, h1, h2, h3⟩ := h (by simpa using hl)
  refine ⟨b, o, h1, h2, fun k x hk j u hu => ?_⟩
  rw [List.getElem?_map] at hk
  cases hq : l[k]? with
  | none => rw [hq] at hk; cases hk
  | some y =>
    rw [hq] at hk
    cases hk
    refine h3 k y hq j u ?_
    rw [← (RA.bad_zero (firstBad_zero (checkR_zero hc).2 y (List.mem_of_getElem? hq))).2]
    exact hu
theorem Ag.raw_bad {a : Ag} (h : a.ok) : a.raw.bad = 0 := by
  obtain ⟨h1, h2, h3, h4, h5, h6⟩ := h
  have e1 : allB a.raw.four = true := by
    simp only [allB, RA.four, Ag.raw, List.all_cons, List.all_nil, Bool.and_true, Bool.and_eq_true, inB_true]
    omega
  have e3 : inB a.raw.cost 1 9 = true := by rw [inB_true]; show (1 : Int) ≤ (a.cost : Int) ∧ (a.cost : Int) ≤ 9; omega
  unfold RA.bad
  rw [if_neg (by rw [e1]; simp), show a.raw.needs.toNat = a.needs from Int.toNat_natCast _, show a.raw.no.toNat = a.no from Int.toNat_natCast _, if_neg (by rw [h5]; simp), if_neg (by rw [e3]; simp)]
theorem checkR_raw {ags : List Ag} (h : Oks ags) : checkR (ags.map Ag.raw) = 0 := by
  unfold checkR
  rw [if_neg (by have := h.1; simp; omega), ← List.append_nil (ags.map Ag.raw), firstBad_pre]
  · rfl
  · intro a ha
    obtain ⟨b, hb, rfl⟩ := List.mem_map.1 ha
    exact Ag.raw_bad (h.2 b hb)
theorem RdL.raw {w : World} {A : Option Addr} {ags : List Ag} (h : RdL Ag.cells 5 w A ags) : RdL RA.cells 5 w A (ags.map Ag.raw) := by
  intro hl
  obtain ⟨b, o, h1, h2, h3⟩ := h (by simpa using hl)
  refine ⟨b, o, h1, h2, fun k x hk j u hu => ?_⟩
  rw [List.getElem?_map] at hk
  cases hq : ags[k]? with
  | none => rw [hq] at hk; cases hk
  | some y => rw [hq] at hk; cases hk; exact h3 k y hq j u hu
def usedAll (n : Nat) : Nat := 2 ^ n - 1
theorem usedAll_lt {n : Nat} (h : n ≤ 4) : usedAll n < 16 := by
  unfold usedAll
  have : 2 ^ n ≤ 2 ^ 4 := Nat.pow_le_pow_right (by decide) h
  have : 0 < 2 ^ n := Nat.two_pow_pos n
  omega
theorem usedAll_bit {n i : Nat} : (usedAll n).testBit i = decide (i < n) := by
  unfold usedAll
  exact Nat.testBit_two_pow_sub_one n i
theorem shl_one {n : Nat} (h : n ≤ 4) : IntKind.u8.wrap (1 * 2 ^ (min ((n : Int)).toNat IntKind.u8.bits)) = ((2 ^ n : Nat) : Int) := by
  rw [Int.toNat_natCast, Nat.min_eq_left (by show n ≤ 8; omega), Int.one_mul]
  have : (2 : Int) ^ n = ((2 ^ n : Nat) : Int) := by simp
  rw [this]
  exact wrap_u8 _ (Nat.lt_of_le_of_lt (Nat.pow_le_pow_right (by decide) h) (by decide))
theorem sub_one {n : Nat} (h : n ≤ 4) : IntKind.u8.wrap (((2 ^ n : Nat) : Int) - 1) = ((usedAll n : Nat) : Int) := by
  have h0 : 0 < 2 ^ n := Nat.two_pow_pos n
  have h1 := usedAll_lt h
  rw [show ((2 ^ n : Nat) : Int) - 1 = ((usedAll n : Nat) : Int) from by unfold usedAll; omega]
  exact wrap_u8 _ (by omega)
end Go.Proofs.YtofkhehcnfiopaaDoor.N
