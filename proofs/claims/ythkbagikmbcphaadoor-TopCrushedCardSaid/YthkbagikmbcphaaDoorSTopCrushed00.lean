/- Parts of the walk of the law TopCrushed: Sx, Sx2, Sx3, Bfs, Bits, Mod. -/
import Derived.Deep.LoopGhost
import Derived.OrdersHeld
import Derived.WalkKit
import Derived.WalkLawsBesides
import Derived.ScopeJumps
namespace Go.Proofs.YthkbagikmbcphaaDoor.N
open Go Go.RowKit
set_option autoImplicit false

/-- What a slot is known to hold. -/
def look : List (Nat × Value) → Nat → Option Value
  | [], _ => none
  | (a, v) :: r, n => bif Nat.beq a n then some v else look r n
theorem look_cons (d : Nat) (v : Value) (fr : List (Nat × Value)) (n : Nat) : look ((d, v) :: fr) n = if d = n then some v else look fr n := by
  show (bif Nat.beq d n then some v else look fr n) = _
  by_cases h : d = n
  · subst h
    simp
  · have : Nat.beq d n = false := by
      cases hb : Nat.beq d n with
      | false => rfl
      | true => exact absurd (Nat.eq_of_beq_eq_true hb) h
    simp [this, h]
/-- What an operand is. -/
def ev (fr : List (Nat × Value)) : Operand → Option Value
  | .tmp t => look fr t
  | .const v => some v
  | .global g => some (.pointer (some ⟨g, 0, none⟩))
  | .func f => some (.func (.func f) #[] #[])

/-- A thing of the call's own in memory: a block known whole; a slice's row. -/
inductive Res where
  | blk (b : Nat) (o : Obj)
  | row (e size : Nat) (A : Option Addr) (n c : Nat) (xs : List Value)
  | que (e size : Nat) (A : Option Addr) (n c : Nat) (xs : List Value)
/-- A slice of the call's own that may begin anywhere in its block. -/
def ownsQue (w : World) (B e size : Nat) (A : Option Addr) (n c : Nat) (xs : List Value) : Prop :=
  xs.length = n * size ∧ ((A = none ∧ n = 0 ∧ c = 0) ∨ ∃ g o cur, A = some ⟨g, o, none⟩ ∧ B ≤ g ∧ w.heap[g]? = some (.cells cur e (0, 0)) ∧ n ≤ c ∧ c ≤ maxLen ∧ o + c * size ≤ cur.size ∧ (cur.toList.drop o).take (n * size) = xs)
def Res.id : Res → Option Nat
  | .blk b _ => some b
  | .row _ _ A n c _ => (Value.slice A n c).ownBlock
  | .que _ _ A n c _ => (Value.slice A n c).ownBlock
def Res.ok (B : Nat) (w : World) : Res → Prop
  | .blk b o => B ≤ b ∧ w.heap[b]? = some o
  | .row e size A n c xs => w.ownsRow B e size (.slice A n c) n xs
  | .que e size A n c xs => ownsQue w B e size A n c xs

theorem Res.lt {B : Nat} {w : World} {r : Res} (h : r.ok B w) : ∀ k, r.id = some k → B ≤ k ∧ k < w.heap.size := by
  intro k hk
  cases r with
  | blk b o =>
    have hk' : some b = some k := hk
    cases hk'
    exact ⟨h.1, (Array.getElem?_eq_some_iff.1 h.2).1⟩
  | row e size A n c xs => exact World.ownsRow.lt h k hk
  | que e size A n c xs =>
    rcases h.2 with ⟨h1, _, _⟩ | ⟨g, o, cur, h1, hb, hg, _⟩
    · subst h1; cases hk
    · subst h1
      have hk' : some g = some k := hk
      cases hk'
      exact ⟨hb, (Array.getElem?_eq_some_iff.1 hg).1⟩
theorem Res.ok_mono {B B' : Nat} {w : World} {r : Res} (h : r.ok B w) (hB : B' ≤ B) : r.ok B' w := by
  cases r with
  | blk b o => exact ⟨Nat.le_trans hB h.1, h.2⟩
  | row e size A n c xs =>
    obtain ⟨h1, h2⟩ := h
    refine ⟨h1, ?_⟩
    rcases h2 with h2 | ⟨g, cap, cur, hv, hg, r⟩
    · exact .inl h2
    · exact .inr ⟨g, cap, cur, hv, Nat.le_trans hB hg, r⟩
  | que e size A n c xs =>
    obtain ⟨h1, h2⟩ := h
    refine ⟨h1, ?_⟩
    rcases h2 with h2 | ⟨g, o, cur, hv, hg, r⟩
    · exact .inl h2
    · exact .inr ⟨g, o, cur, hv, Nat.le_trans hB hg, r⟩
/-- A thing stays where its block is as it was. -/
theorem Res.keep {B : Nat} {w w' : World} {r : Res} (h : r.ok B w) (hk : ∀ k, r.id = some k → w'.heap[k]? = w.heap[k]?) : r.ok B w' := by
  cases r with
  | blk b o => exact ⟨h.1, (hk b rfl).trans h.2⟩
  | row e size A n c xs =>
    obtain ⟨h1, h2⟩ := h
    refine ⟨h1, ?_⟩
    rcases h2 with h2 | ⟨g, cap, cur, hv, hg, hh, r⟩
    · exact .inl h2
    · refine .inr ⟨g, cap, cur, hv, hg, ?_, r⟩
      rw [hk g (by show (Value.slice A n c).ownBlock = some g; rw [hv]; rfl)]
      exact hh
  | que e size A n c xs =>
    obtain ⟨h1, h2⟩ := h
    refine ⟨h1, ?_⟩
    rcases h2 with h2 | ⟨g, o, cur, hv, hg, hh, r⟩
    · exact .inl h2
    · refine .inr ⟨g, o, cur, hv, hg, ?_, r⟩
      rw [hk g (by show (Value.slice A n c).ownBlock = some g; rw [hv]; rfl)]
      exact hh

/-- What a walk never turns: the program; the first block of the call's own; the world at its beginning; how many slots there are; the deferred calls. -/
structure Ctx where
  P : Program
  B : Nat
  w0 : World
  N : Nat
  ds : List Deferred
/-- Where the walk stands: N slots, of which those of fr are known; what was there below B is as it was; the things of hp are the call's own. -/
structure At (C : Ctx) (fr : List (Nat × Value)) (hp : List Res) (a : Act) (w : World) : Prop where
  size : a.tmps.size = C.N
  defs : a.defers = C.ds
  slots : ∀ t v, look fr t = some v → a.tmps.getD t undef = v
  below : Below C.B C.w0 w
  base : C.B ≤ w.heap.size
  own : ∀ r, r ∈ hp → r.ok C.B w
  apart : (hp.filterMap Res.id).Nodup

section
variable {C : Ctx} {fr : List (Nat × Value)} {hp : List Res} {a : Act} {w : World}

theorem At.eval (h : At C fr hp a w) {x : Operand} {v : Value} (hx : ev fr x = some v) : a.eval x = v := by
  cases x with
  | tmp t => exact h.slots t v hx
  | const u => exact Option.some.inj hx
  | global g => exact Option.some.inj hx
  | func f => exact Option.some.inj hx

theorem At.put (h : At C fr hp a w) {d : Nat} (hd : d < C.N) (v : Value) : At C ((d, v) :: fr) hp (a.put (some d) v) w := by
  refine ⟨?_, h.defs, ?_, h.below, h.base, h.own, h.apart⟩
  · simp [Act.put, h.size]
  · intro t u ht
    rw [look_cons] at ht
    show (a.tmps.setIfInBounds d v).getD t undef = u
    by_cases e : d = t
    · subst e
      rw [if_pos rfl] at ht
      have hs : d < a.tmps.size := by rw [h.size]; exact hd
      simp only [Array.getD_eq_getD_getElem?, Array.getElem?_setIfInBounds, if_true, if_pos hs]
      simpa using ht
    · rw [if_neg e] at ht
      rw [← h.slots t u ht]
      simp only [Array.getD_eq_getD_getElem?, Array.getElem?_setIfInBounds]
      rw [if_neg e]

theorem At.world {hp' : List Res} {w' : World} (h : At C fr hp a w) (hb : Below C.B w w') (ho : ∀ r, r ∈ hp' → r.ok C.B w') (ha : (hp'.filterMap Res.id).Nodup) :
    At C fr hp' a w' :=
  ⟨h.size, h.defs, h.slots, h.below.trans hb, Nat.le_trans h.base hb.size, ho, ha⟩

theorem At.ids_lt (h : At C fr hp a w) : ∀ k, k ∈ hp.filterMap Res.id → C.B ≤ k ∧ k < w.heap.size := by
  intro k hk
  obtain ⟨r, hr, hrk⟩ := List.mem_filterMap.1 hk
  exact Res.lt (h.own r hr) k hrk

/-- Behind steps that leave alone all that was there. -/
theorem At.later (h : At C fr hp a w) {w' : World} (hb : Below w.heap.size w w') : At C fr hp a w' :=
  h.world (hb.mono h.base) (fun r hr => Res.keep (h.own r hr) (fun k hk => hb.block k (Res.lt (h.own r hr) k hk).2)) h.apart

/-- New things above all that was there. -/
theorem At.grew (h : At C fr hp a w) {w' : World} (hb : Below w.heap.size w w') {rs : List Res} (hr : ∀ r, r ∈ rs → r.ok w.heap.size w') (hn : (rs.filterMap Res.id).Nodup) :
    At C fr (rs ++ hp) a w' := by
  have hl := h.later hb
  refine ⟨hl.size, hl.defs, hl.slots, hl.below, hl.base, ?_, ?_⟩
  · intro r hrm
    rcases List.mem_append.1 hrm with h1 | h1
    · exact Res.ok_mono (hr r h1) h.base
    · exact hl.own r h1
  · rw [List.filterMap_append, List.nodup_append]
    refine ⟨hn, hl.apart, ?_⟩
    intro x hx y hy e
    subst e
    obtain ⟨r, hrm, hrx⟩ := List.mem_filterMap.1 hx
    have h1 := (Res.lt (hr r hrm) x hrx).1
    have h2 := (h.ids_lt x hy).2
    omega

theorem At.alloc (h : At C fr hp a w) (o : Obj) : At C fr (.blk w.heap.size o :: hp) a (w.alloc o) := by
  refine h.grew (rs := [.blk w.heap.size o]) ((Below.refl _ _).alloc (Nat.le_refl _) o) ?_ (by simp [Res.id])
  intro r hr
  simp at hr
  subst hr
  exact ⟨Nat.le_refl _, heap_alloc_new w o⟩

/-- A thing of the list in the place of another. -/
inductive Upd (r r' : Res) : List Res → List Res → Prop
  | head (l : List Res) : Upd r r' (r :: l) (r' :: l)
  | tail (x : Res) {l l' : List Res} (h : Upd r r' l l') : Upd r r' (x :: l) (x :: l')
theorem Upd.mem {r r' : Res} {l l' : List Res} (h : Upd r r' l l') : r ∈ l := by
  induction h with
  | head l => simp
  | tail x _ ih => simp [ih]
theorem Upd.split {r r' : Res} {l l' : List Res} (h : Upd r r' l l') : ∃ l1 l2, l = l1 ++ r :: l2 ∧ l' = l1 ++ r' :: l2 := by
  induction h with
  | head l => exact ⟨[], l, rfl, rfl⟩
  | tail x _ ih =>
    obtain ⟨l1, l2, e, e'⟩ := ih
    exact ⟨x :: l1, l2, by rw [e]; rfl, by rw [e']; rfl⟩

/-- One thing turns; whatever else was there stays. -/
theorem At.turn {hp' : List Res} {r r' : Res} {w' : World} (h : At C fr hp a w) (hu : Upd r r' hp hp') (hg : w.grownBy w' r.id) (hr : r'.ok C.B w')
    (hid : ∀ k, r'.id = some k → r.id = some k ∨ w.heap.size ≤ k) : At C fr hp' a w' := by
  obtain ⟨l1, l2, rfl, rfl⟩ := hu.split
  have hrB : ∀ k, r.id = some k → C.B ≤ k := fun k hk => (Res.lt (h.own r (by simp)) k hk).1
  have hb : Below C.B w w' := (Below.refl C.B w).grown hg h.base hrB
  have hap := h.apart
  have other : ∀ x, x ∈ l1 ++ l2 → x.ok C.B w' := by
    intro x hx
    have hxm : x ∈ l1 ++ r :: l2 := by
      rcases List.mem_append.1 hx with h1 | h1
      · exact List.mem_append.2 (.inl h1)
      · exact List.mem_append.2 (.inr (List.mem_cons.2 (.inr h1)))
    refine Res.keep (h.own x hxm) fun k hk => hg.block k (Res.lt (h.own x hxm) k hk).2 ?_
    intro e
    have hmem : k ∈ (l1 ++ l2).filterMap Res.id := List.mem_filterMap.2 ⟨x, hx, hk⟩
    rw [List.filterMap_append] at hap hmem
    rw [List.filterMap_cons_some e.symm] at hap
    rw [List.nodup_append] at hap
    obtain ⟨_, h2, h3⟩ := hap
    rw [List.nodup_cons] at h2
    rcases List.mem_append.1 hmem with h1 | h1
    · exact h3 k h1 k (by simp) rfl
    · exact h2.1 h1
  refine h.world hb ?_ ?_
  · intro x hx
    rcases List.mem_append.1 hx with h1 | h1
    · exact other x (List.mem_append.2 (.inl h1))
    · rcases List.mem_cons.1 h1 with h2 | h2
      · subst h2; exact hr
      · exact other x (List.mem_append.2 (.inr h2))
  · rw [List.filterMap_append] at hap ⊢
    cases hri : r'.id with
    | none =>
      rw [List.filterMap_cons_none hri]
      cases hr0 : r.id with
      | none => rw [List.filterMap_cons_none hr0] at hap; exact hap
      | some k =>
        rw [List.filterMap_cons_some hr0] at hap
        rw [List.nodup_append] at hap ⊢
        obtain ⟨h1, h2, h3⟩ := hap
        rw [List.nodup_cons] at h2
        exact ⟨h1, h2.2, fun x hx y hy => h3 x hx y (List.mem_cons.2 (.inr hy))⟩
    | some k' =>
      have hl : ∀ k, k ∈ l1.filterMap Res.id ∨ k ∈ l2.filterMap Res.id → k < w.heap.size := by
        intro k hk
        refine (h.ids_lt k ?_).2
        rw [List.filterMap_append]
        rcases hk with hk | hk
        · exact List.mem_append.2 (.inl hk)
        · refine List.mem_append.2 (.inr ?_)
          obtain ⟨x, hx, hxk⟩ := List.mem_filterMap.1 hk
          exact List.mem_filterMap.2 ⟨x, List.mem_cons.2 (.inr hx), hxk⟩
      have hnot : k' ∉ l1.filterMap Res.id ∧ k' ∉ l2.filterMap Res.id := by
        rcases hid k' hri with h0 | h0
        · rw [List.filterMap_cons_some h0] at hap
          rw [List.nodup_append] at hap
          obtain ⟨_, h2, h3⟩ := hap
          rw [List.nodup_cons] at h2
          exact ⟨fun hm => h3 k' hm k' (by simp) rfl, h2.1⟩
        · exact ⟨fun hm => by have := hl k' (.inl hm); omega, fun hm => by have := hl k' (.inr hm); omega⟩
      have hap' : (l1.filterMap Res.id ++ l2.filterMap Res.id).Nodup := by
        cases hr0 : r.id with
        | none => rw [List.filterMap_cons_none hr0] at hap; exact hap
        | some k =>
          rw [List.filterMap_cons_some hr0] at hap
          rw [List.nodup_append] at hap ⊢
          obtain ⟨h1, h2, h3⟩ := hap
          rw [List.nodup_cons] at h2
          exact ⟨h1, h2.2, fun x hx y hy => h3 x hx y (List.mem_cons.2 (.inr hy))⟩
      rw [List.filterMap_cons_some hri]
      rw [List.nodup_append] at hap' ⊢
      obtain ⟨h1, h2, h3⟩ := hap'
      refine ⟨h1, ?_, ?_⟩
      · rw [List.nodup_cons]; exact ⟨hnot.2, h2⟩
      · intro x hx y hy
        rcases List.mem_cons.1 hy with h4 | h4
        · subst h4; intro e; subst e; exact hnot.1 hx
        · exact h3 x hx y h4

theorem At.mem_blk (h : At C fr hp a w) {b : Nat} {o : Obj} (hm : Res.blk b o ∈ hp) : w.heap[b]? = some o := (h.own _ hm).2

theorem At.drop_res (h : At C fr hp a w) {hp' : List Res} (hs : hp'.Sublist hp) : At C fr hp' a w :=
  ⟨h.size, h.defs, h.slots, h.below, h.base, fun r hr => h.own r (hs.subset hr), h.apart.sublist (hs.filterMap _)⟩

/-- Fewer slots. -/
inductive Sub : List (Nat × Value) → List (Nat × Value) → Prop
  | nil (fr : List (Nat × Value)) : Sub [] fr
  | cons {fr fr' : List (Nat × Value)} {t : Nat} {v : Value} (h : look fr t = some v) (hs : Sub fr' fr) : Sub ((t, v) :: fr') fr
theorem Sub.look {fr fr' : List (Nat × Value)} (h : Sub fr' fr) : ∀ t v, look fr' t = some v → Go.Proofs.YthkbagikmbcphaaDoor.N.look fr t = some v := by
  induction h with
  | nil fr => intro t v h; cases h
  | @cons fr fr' d u h0 _ ih =>
    intro t v h
    rw [look_cons] at h
    by_cases e : d = t
    · subst e
      rw [if_pos rfl] at h
      rw [← h]; exact h0
    · rw [if_neg e] at h
      exact ih t v h
theorem At.drop_slots_of (h : At C fr hp a w) {fr' : List (Nat × Value)} (hs : ∀ t v, Go.Proofs.YthkbagikmbcphaaDoor.N.look fr' t = some v → Go.Proofs.YthkbagikmbcphaaDoor.N.look fr t = some v) : At C fr' hp a w :=
  ⟨h.size, h.defs, fun t v ht => h.slots t v (hs t v ht), h.below, h.base, h.own, h.apart⟩
theorem At.drop_slots (h : At C fr hp a w) {fr' : List (Nat × Value)} (hs : Sub fr' fr) : At C fr' hp a w :=
  ⟨h.size, h.defs, fun t v ht => h.slots t v (hs.look t v ht), h.below, h.base, h.own, h.apart⟩
end

/-- A list of operations, from where the walk stands. -/
def Lst (C : Ctx) (ops : Array Oper) (Q : Exit → Act → World → Prop) (l : List Oper) (fr : List (Nat × Value)) (hp : List Res) : Prop :=
  ∀ a w, At C fr hp a w → wpList C.P ops Q l a w
/-- A piece of code, from where the walk stands. -/
def Cod (C : Ctx) (c : Code) (Q : Exit → Act → World → Prop) (fr : List (Nat × Value)) (hp : List Res) : Prop :=
  ∀ a w, At C fr hp a w → c.wp C.P Q a w
/-- A way out of a piece of code. -/
def Ex (C : Ctx) (Q : Exit → Act → World → Prop) (e : Exit) (fr : List (Nat × Value)) (hp : List Res) : Prop :=
  ∀ a w, At C fr hp a w → Q e a w

/-- A block of the call's own, found by its number. -/
class InB (b : Nat) (o : outParam Obj) (hp : List Res) : Prop where
  mem : Res.blk b o ∈ hp
instance InB.tail (b : Nat) (o : Obj) (x : Res) (l : List Res) [h : InB b o l] : InB b o (x :: l) := ⟨List.mem_cons.2 (.inr h.mem)⟩
instance InB.head (b : Nat) (o : Obj) (l : List Res) : InB b o (.blk b o :: l) := ⟨List.mem_cons.2 (.inl rfl)⟩
/-- .. and what is there once it holds something else. -/
class UpB (b : Nat) (o : outParam Obj) (o' : Obj) (hp : List Res) (hp' : outParam (List Res)) : Prop where
  upd : Upd (.blk b o) (.blk b o') hp hp'
instance UpB.tail (b : Nat) (o o' : Obj) (x : Res) (l l' : List Res) [h : UpB b o o' l l'] : UpB b o o' (x :: l) (x :: l') := ⟨.tail x h.upd⟩
instance UpB.head (b : Nat) (o o' : Obj) (l : List Res) : UpB b o o' (.blk b o :: l) (.blk b o' :: l) := ⟨.head l⟩
/-- A row, found by its slice's address. -/
class InR (A : Option Addr) (e size n c : outParam Nat) (xs : outParam (List Value)) (hp : List Res) : Prop where
  mem : Res.row e size A n c xs ∈ hp
instance InR.tail (A : Option Addr) (e size n c : Nat) (xs : List Value) (x : Res) (l : List Res) [h : InR A e size n c xs l] : InR A e size n c xs (x :: l) := ⟨List.mem_cons.2 (.inr h.mem)⟩
instance InR.head (A : Option Addr) (e size n c : Nat) (xs : List Value) (l : List Res) : InR A e size n c xs (.row e size A n c xs :: l) := ⟨List.mem_cons.2 (.inl rfl)⟩
class UpR (A : Option Addr) (e size n c : outParam Nat) (xs : outParam (List Value)) (r' : Res) (hp : List Res) (hp' : outParam (List Res)) : Prop where
  upd : Upd (.row e size A n c xs) r' hp hp'
instance UpR.tail (A : Option Addr) (e size n c : Nat) (xs : List Value) (r' x : Res) (l l' : List Res) [h : UpR A e size n c xs r' l l'] : UpR A e size n c xs r' (x :: l) (x :: l') := ⟨.tail x h.upd⟩
instance UpR.head (A : Option Addr) (e size n c : Nat) (xs : List Value) (r' : Res) (l : List Res) : UpR A e size n c xs r' (.row e size A n c xs :: l) (r' :: l) := ⟨.head l⟩

/-- The cells of a value. -/
class Cells (v : Value) (l : outParam (List Value)) : Prop where
  eq : v.cells = l.toArray
  one : ∀ u ∈ l, u.oneCell' = true
instance Cells.int (k : IntKind) (n : Int) : Cells (.int k n) [.int k n] := ⟨rfl, by simp [Value.oneCell']⟩
instance Cells.bool (b : Bool) : Cells (.bool b) [.bool b] := ⟨rfl, by simp [Value.oneCell']⟩
instance Cells.string (b : ByteArray) : Cells (.string b) [.string b] := ⟨rfl, by simp [Value.oneCell']⟩
instance Cells.pointer (b : Option Addr) : Cells (.pointer b) [.pointer b] := ⟨rfl, by simp [Value.oneCell']⟩
instance Cells.slice (b : Option Addr) (n c : Nat) : Cells (.slice b n c) [.slice b n c] := ⟨rfl, by simp [Value.oneCell']⟩
instance Cells.map (b : Option Nat) : Cells (.map b) [.map b] := ⟨rfl, by simp [Value.oneCell']⟩
instance Cells.func (f : Fn) (x y : Array Value) : Cells (.func f x y) [.func f x y] := ⟨rfl, by simp [Value.oneCell']⟩
instance Cells.nilFunc : Cells .nilFunc [.nilFunc] := ⟨rfl, by simp [Value.oneCell']⟩
instance Cells.iface (t : TypeId) (v : Value) : Cells (.iface t v) [.iface t v] := ⟨rfl, by simp [Value.oneCell']⟩
instance Cells.nilIface : Cells .nilIface [.nilIface] := ⟨rfl, by simp [Value.oneCell']⟩
/-- Cells that are stored as they are. -/
class Ones (l : List Value) : Prop where
  one : ∀ u ∈ l, u.oneCell' = true
instance Ones.nil : Ones [] := ⟨by simp⟩
instance Ones.cons (v : Value) (l : List Value) [h : Cells v [v]] [h' : Ones l] : Ones (v :: l) := ⟨by
  intro u hu
  rcases List.mem_cons.1 hu with e | e
  · subst e; exact h.one u (by simp)
  · exact h'.one u e⟩
instance Cells.agg (l : List Value) [h : Ones l] : Cells (.agg l.toArray) l := ⟨rfl, h.one⟩

/-- Is it a struct's or an array's type? -/
def aggB (P : Program) (t : TypeId) : Bool :=
  match P.underlying t with
  | some (.struct _) => true
  | some (.array _ _) => true
  | _ => false
/-- A type's row of the table. -/
def TI (P : Program) (t : TypeId) (z : Value) (size bytes : Nat) : Prop := ∃ i, P.info? t = some i ∧ i.zero = some z ∧ i.size = size ∧ i.bytes = bytes
theorem TI.of {P : Program} {t : TypeId} {z : Value} {size bytes : Nat} (h : (P.info? t).map (fun i => (i.zero, i.size, i.bytes)) = some (some z, size, bytes)) : TI P t z size bytes :=
  info_parts h
/-- A field's type and place. -/
def FI (P : Program) (s : TypeId) (f : Nat) (ft off : Nat) : Prop := ∃ fs fd, P.underlying s = some (.struct fs) ∧ fs[f]? = some fd ∧ fd.type = ft ∧ fd.offset = off

section
variable {C : Ctx} {fr : List (Nat × Value)} {hp hp' : List Res} {a : Act} {w : World} {ops : Array Oper} {Q : Exit → Act → World → Prop} {rest : List Oper}
  {d : Nat} {ty : TypeId} {pos : String} {after : Array Edge}

theorem lt_of_blt {a b : Nat} (h : Nat.blt a b = true) : a < b := by simpa [Nat.blt_eq] using h

theorem run_isAgg {P : Program} {t : TypeId} {b : Bool} (h : aggB P t = b) (hu : P.underlying t ≠ none) (w : World) : (isAgg t).run P w = .ok b w := by
  unfold aggB at h
  cases hd : P.underlying t with
  | none => exact absurd hd hu
  | some u =>
    rw [hd] at h
    subst h
    unfold isAgg
    simp only [Sem.run_bind, run_underlying hd, Result.andThen_ok]
    cases u <;> rfl

/-- One operation that yields a value. -/
theorem lst_value {op : Op} (v : Value) (hd : Nat.blt d C.N = true)
    (h : ∀ a w, At C fr hp a w → ∃ w', (execOp a.eval ⟨some d, op, ty, pos, after, none⟩).run C.P w = .ok (.value v) w' ∧ At C fr hp' a w')
    (k : Lst C ops Q rest ((d, v) :: fr) hp') : Lst C ops Q (⟨some d, op, ty, pos, after, none⟩ :: rest) fr hp := by
  intro a w ha
  obtain ⟨w', hr, ha'⟩ := h a w ha
  refine wpList_plain rfl fun K hK => ?_
  unfold Oper.wp
  rw [hr]
  exact hK _ _ (k _ _ (ha'.put (lt_of_blt hd) v))
/-- One operation that yields none. -/
theorem lst_skip {op : Op}
    (h : ∀ a w, At C fr hp a w → ∃ w', (execOp a.eval ⟨none, op, ty, pos, after, none⟩).run C.P w = .ok .skip w' ∧ At C fr hp' a w')
    (k : Lst C ops Q rest fr hp') : Lst C ops Q (⟨none, op, ty, pos, after, none⟩ :: rest) fr hp := by
  intro a w ha
  obtain ⟨w', hr, ha'⟩ := h a w ha
  refine wpList_plain rfl fun K hK => ?_
  unfold Oper.wp
  rw [hr]
  exact hK _ _ (k _ _ ha')
theorem lst_nil (k : Ex C Q .normal fr hp) : Lst C ops Q [] fr hp := fun a w ha => wpList_nil (k a w ha)

theorem lst_move {x : Operand} {v : Value} (hd : Nat.blt d C.N = true) (hx : ev fr x = some v) (k : Lst C ops Q rest ((d, v) :: fr) hp) : Lst C ops Q (⟨some d, .move x, ty, pos, after, none⟩ :: rest) fr hp :=
  lst_value v hd (fun a w ha => ⟨w, by simp [execOp, ha.eval hx], ha⟩) k
theorem lst_assign {x : Operand} {v : Value} (hd : Nat.blt d C.N = true) (hx : ev fr x = some v) (k : Lst C ops Q rest ((d, v) :: fr) hp) : Lst C ops Q (⟨some d, .assign x, ty, pos, after, none⟩ :: rest) fr hp :=
  lst_value v hd (fun a w ha => ⟨w, by simp [execOp, ha.eval hx], ha⟩) k
theorem lst_pick {c x y : Operand} {b : Bool} {v u : Value} (hd : Nat.blt d C.N = true) (hc : ev fr c = some (.bool b)) (hx : ev fr x = some v) (hy : ev fr y = some u)
    (k : Lst C ops Q rest ((d, if b then v else u) :: fr) hp) : Lst C ops Q (⟨some d, .pick c x y, ty, pos, after, none⟩ :: rest) fr hp :=
  lst_value _ hd (fun a w ha => ⟨w, by cases b <;> simp [execOp, ha.eval hc, ha.eval hx, ha.eval hy, asBool], ha⟩) k
theorem lst_pick_true {c x y : Operand} {v : Value} (hd : Nat.blt d C.N = true) (hc : ev fr c = some (.bool true)) (hx : ev fr x = some v)
    (k : Lst C ops Q rest ((d, v) :: fr) hp) : Lst C ops Q (⟨some d, .pick c x y, ty, pos, after, none⟩ :: rest) fr hp :=
  lst_value _ hd (fun a w ha => ⟨w, by simp [execOp, ha.eval hc, ha.eval hx, asBool], ha⟩) k
theorem lst_pick_false {c x y : Operand} {v : Value} (hd : Nat.blt d C.N = true) (hc : ev fr c = some (.bool false)) (hy : ev fr y = some v)
    (k : Lst C ops Q rest ((d, v) :: fr) hp) : Lst C ops Q (⟨some d, .pick c x y, ty, pos, after, none⟩ :: rest) fr hp :=
  lst_value _ hd (fun a w ha => ⟨w, by simp [execOp, ha.eval hc, ha.eval hy, asBool], ha⟩) k
theorem lst_not {x : Operand} {b : Bool} {t : TypeId} (hd : Nat.blt d C.N = true) (hx : ev fr x = some (.bool b)) (k : Lst C ops Q rest ((d, .bool (!b)) :: fr) hp) :
    Lst C ops Q (⟨some d, .unOp .not t x, ty, pos, after, none⟩ :: rest) fr hp :=
  lst_value _ hd (fun a w ha => ⟨w, by simp [execOp, ha.eval hx, Op.unary], ha⟩) k
theorem lst_extract {x : Operand} {vs : List Value} {i : Nat} {v : Value} (hd : Nat.blt d C.N = true) (hx : ev fr x = some (.tuple vs.toArray)) (hv : vs[i]? = some v) (k : Lst C ops Q rest ((d, v) :: fr) hp) :
    Lst C ops Q (⟨some d, .extract x i, ty, pos, after, none⟩ :: rest) fr hp :=
  lst_value _ hd (fun a w ha => ⟨w, by simp [execOp, ha.eval hx, Instr.extract, hv], ha⟩) k

theorem ev_args {xs : Array Operand} {vs : List Value} (ha : At C fr hp a w) (h : xs.toList.map (ev fr) = vs.map some) : xs.map a.eval = vs.toArray := by
  have : ∀ (l : List Operand) (vs : List Value), l.map (ev fr) = vs.map some → l.map a.eval = vs := by
    intro l
    induction l with
    | nil => intro vs h; cases vs with
      | nil => rfl
      | cons => simp at h
    | cons x l ih =>
      intro vs h
      cases vs with
      | nil => simp at h
      | cons v vs =>
        simp only [List.map_cons, List.cons.injEq] at h
        rw [List.map_cons, ha.eval h.1, ih vs h.2]
  obtain ⟨l⟩ := xs
  simp only [List.map_toArray]
  rw [this l vs h]

theorem lst_makeFunc {fn : Fn} {first captured : Array Operand} {fs cs : List Value} (hd : Nat.blt d C.N = true) (hf : first.toList.map (ev fr) = fs.map some) (hc : captured.toList.map (ev fr) = cs.map some)
    (k : Lst C ops Q rest ((d, .func fn fs.toArray cs.toArray) :: fr) hp) : Lst C ops Q (⟨some d, .makeFunc fn first captured, ty, pos, after, none⟩ :: rest) fr hp :=
  lst_value _ hd (fun a w ha => ⟨w, by simp only [execOp, ev_args ha hf, ev_args ha hc, Instr.makeFunc, Sem.run_bind, Sem.run_pure, Result.andThen_ok], ha⟩) k

theorem run_newVar {P : Program} (t : TypeId) (v : Value) (w : World) : (newVar t v).run P w = .ok ⟨w.heap.size, 0, none⟩ (w.alloc (.cells v.cells t)) := rfl

theorem lst_box {t : TypeId} {x : Operand} {v : Value} {l : List Value} (hd : Nat.blt d C.N = true) (hx : ev fr x = some v) [hl : Cells v l]
    (k : ∀ b, Lst C ops Q rest ((d, .pointer (some ⟨b, 0, none⟩)) :: fr) (.blk b (.cells l.toArray t (0, 0)) :: hp)) : Lst C ops Q (⟨some d, .box t x, ty, pos, after, none⟩ :: rest) fr hp := by
  intro a w ha
  refine wpList_plain rfl fun K hK => ?_
  unfold Oper.wp
  have hr : (execOp a.eval ⟨some d, .box t x, ty, pos, after, none⟩).run C.P w = .ok (.value (.pointer (some ⟨w.heap.size, 0, none⟩))) (w.alloc (.cells l.toArray t)) := by
    simp [execOp, Instr.box, ha.eval hx, run_newVar, hl.eq]
  rw [hr]
  exact hK _ _ (k w.heap.size _ _ ((ha.alloc (.cells l.toArray t)).put (lt_of_blt hd) _))
theorem lst_alloc {t : TypeId} {z : Value} {size bytes : Nat} {l : List Value} (hd : Nat.blt d C.N = true) (hz : TI C.P t z size bytes) [hl : Cells z l]
    (k : ∀ b, Lst C ops Q rest ((d, .pointer (some ⟨b, 0, none⟩)) :: fr) (.blk b (.cells l.toArray t (0, 0)) :: hp)) : Lst C ops Q (⟨some d, .alloc t, ty, pos, after, none⟩ :: rest) fr hp := by
  intro a w ha
  obtain ⟨i, hi, hz0, _, _⟩ := hz
  refine wpList_plain rfl fun K hK => ?_
  unfold Oper.wp
  have hr : (execOp a.eval ⟨some d, .alloc t, ty, pos, after, none⟩).run C.P w = .ok (.value (.pointer (some ⟨w.heap.size, 0, none⟩))) (w.alloc (.cells l.toArray t)) := by
    simp [execOp, Instr.alloc, zeroValue, typeInfo, hi, hz0, run_newVar, hl.eq]
  rw [hr]
  exact hK _ _ (k w.heap.size _ _ ((ha.alloc (.cells l.toArray t)).put (lt_of_blt hd) _))
theorem lst_nilCheck {x : Operand} {p : Addr} (hd : Nat.blt d C.N = true) (hx : ev fr x = some (.pointer (some p))) (k : Lst C ops Q rest ((d, .pointer (some p)) :: fr) hp) :
    Lst C ops Q (⟨some d, .nilCheck x, ty, pos, after, none⟩ :: rest) fr hp :=
  lst_value _ hd (fun a w ha => ⟨w, by simp [execOp, ha.eval hx], ha⟩) k
theorem addr_add (b o n : Nat) : (⟨b, o, none⟩ : Addr).add n = ⟨b, o + n, none⟩ := by unfold Addr.add; split <;> simp_all
theorem lst_field {x : Operand} {s : TypeId} {f : Nat} {b o ft off : Nat} {z : Value} {n m : Nat} (hd : Nat.blt d C.N = true) (hx : ev fr x = some (.pointer (some ⟨b, o, none⟩)))
    (hf : FI C.P s f ft off) (hi : TI C.P ft z (n + 1) m)
    (k : Lst C ops Q rest ((d, .pointer (some ⟨b, o + off, none⟩)) :: fr) hp) : Lst C ops Q (⟨some d, .fieldAddr s x f, ty, pos, after, none⟩ :: rest) fr hp := by
  obtain ⟨fs, fd, h1, h2, h3, h4⟩ := hf
  obtain ⟨i, hi, _, hs, _⟩ := hi
  subst h3; subst h4
  refine lst_value _ hd (fun a w ha => ⟨w, ?_, ha⟩) k
  simp [execOp, ha.eval hx, Instr.fieldAt, run_underlying h1, h2, Instr.sureAddr, fieldPlace, sizeOf, typeInfo, hi, hs, addr_add]
theorem lst_field_z {x : Operand} {s : TypeId} {f : Nat} {b ft off : Nat} {z : Value} {n m : Nat} (hd : Nat.blt d C.N = true) (hx : ev fr x = some (.pointer (some ⟨b, 0, none⟩)))
    (hf : FI C.P s f ft off) (hi : TI C.P ft z (n + 1) m)
    (k : Lst C ops Q rest ((d, .pointer (some ⟨b, off, none⟩)) :: fr) hp) : Lst C ops Q (⟨some d, .fieldAddr s x f, ty, pos, after, none⟩ :: rest) fr hp :=
  lst_field hd hx hf hi (by rw [Nat.zero_add]; exact k)

/-- A part of a list put into it. -/
class Splice (cur : List Value) (o : Nat) (vs : List Value) (out : outParam (List Value)) : Prop where
  eq : out = cur.take o ++ vs ++ cur.drop (o + vs.length)
  len : o + vs.length ≤ cur.length
instance Splice.nil (cur : List Value) : Splice cur 0 [] cur := ⟨by simp, by simp⟩
instance Splice.cons (c v : Value) (cur vs out : List Value) [h : Splice cur 0 vs out] : Splice (c :: cur) 0 (v :: vs) (v :: out) := ⟨by
  have := h.eq
  simp at this ⊢
  exact this, by have := h.len; simp at this ⊢; omega⟩
instance Splice.succ (c : Value) (cur vs out : List Value) (o : Nat) [h : Splice cur o vs out] : Splice (c :: cur) (o + 1) vs (c :: out) := ⟨by
  have := h.eq
  simp only [List.take_succ_cons, List.cons_append, Nat.add_right_comm o 1, List.drop_succ_cons]
  rw [this], by have := h.len; simp at this ⊢; omega⟩
/-- A part of a list. -/
class Ext (cs : List Value) (o n : Nat) (out : outParam (List Value)) : Prop where
  eq : out = (cs.drop o).take n
  len : o + n ≤ cs.length
instance Ext.zero (cs : List Value) : Ext cs 0 0 [] := ⟨by simp, by simp⟩
instance Ext.cons (c : Value) (cs out : List Value) (n : Nat) [h : Ext cs 0 n out] : Ext (c :: cs) 0 (n + 1) (c :: out) := ⟨by
  have := h.eq
  simp at this ⊢
  exact this, by have := h.len; simp at this ⊢; omega⟩
instance Ext.succ (c : Value) (cs out : List Value) (o n : Nat) [h : Ext cs o n out] : Ext (c :: cs) (o + 1) n out := ⟨by
  have := h.eq
  simpa using this, by have := h.len; simp at this ⊢; omega⟩
class Get (cs : List Value) (o : Nat) (v : outParam Value) : Prop where
  eq : cs[o]? = some v
instance Get.zero (c : Value) (cs : List Value) : Get (c :: cs) 0 c := ⟨rfl⟩
instance Get.succ (c : Value) (cs : List Value) (o : Nat) (v : Value) [h : Get cs o v] : Get (c :: cs) (o + 1) v := ⟨by simpa using h.eq⟩

theorem aggB_ne {P : Program} {t : TypeId} (h : aggB P t = true) : P.underlying t ≠ none := by
  intro e
  unfold aggB at h
  rw [e] at h
  cases h
/-- A type that takes one cell, and is neither a struct nor an array. -/
def One (P : Program) (t : TypeId) : Prop := aggB P t = false ∧ P.underlying t ≠ none

/-- A load of one cell, wherever it lies. -/
theorem lst_load_at {x : Operand} {t : TypeId} {p : Addr} {v : Value} (hd : Nat.blt d C.N = true) (hx : ev fr x = some (.pointer (some p))) (ht : One C.P t)
    (hc : ∀ a w, At C fr hp a w → w.cell? p = some v) (k : Lst C ops Q rest ((d, v) :: fr) hp) : Lst C ops Q (⟨some d, .load t x, ty, pos, after, none⟩ :: rest) fr hp :=
  lst_value _ hd (fun a w ha => ⟨w, by simp [execOp, ha.eval hx, Instr.loadAt, Instr.sureAddr, loadVar, run_isAgg ht.1 ht.2, hc a w ha], ha⟩) k
/-- A load of a struct or an array, wherever it lies. -/
theorem lst_loadN_at {x : Operand} {t : TypeId} {b o : Nat} {l : List Value} {z : Value} {n m : Nat} (hd : Nat.blt d C.N = true) (hx : ev fr x = some (.pointer (some ⟨b, o, none⟩))) (ht : aggB C.P t = true)
    (hi : TI C.P t z n m) (hl : l.length = n) (hc : ∀ a w, At C fr hp a w → ∀ j u, l[j]? = some u → w.cell? ⟨b, o + j, none⟩ = some u)
    (k : Lst C ops Q rest ((d, .agg l.toArray) :: fr) hp) : Lst C ops Q (⟨some d, .load t x, ty, pos, after, none⟩ :: rest) fr hp := by
  obtain ⟨i, hi, _, hs, _⟩ := hi
  refine lst_value _ hd (fun a w ha => ⟨w, ?_, ha⟩) k
  have h1 := run_loadCells_list (P := C.P) w ⟨b, o, none⟩ l (fun j u hu => by rw [addr_add]; exact hc a w ha j u hu)
  rw [hl] at h1
  simp [execOp, ha.eval hx, Instr.loadAt, Instr.sureAddr, loadVar, run_isAgg ht (aggB_ne ht), sizeOf, typeInfo, hi, hs, h1]
theorem cell_of_blk {w : World} {b o : Nat} {cs : List Value} {t : TypeId} {v : Value} (h : w.heap[b]? = some (.cells cs.toArray t (0, 0))) (hv : cs[o]? = some v) : w.cell? ⟨b, o, none⟩ = some v := by
  rw [cell_of_row w b o cs.toArray t (0, 0) h]
  simpa using hv
theorem lst_load {x : Operand} {t ct : TypeId} {b o : Nat} {cs : List Value} {v : Value} (hd : Nat.blt d C.N = true) (hx : ev fr x = some (.pointer (some ⟨b, o, none⟩))) (ht : One C.P t)
    [hm : InB b (.cells cs.toArray ct (0, 0)) hp] [hv : Get cs o v] (k : Lst C ops Q rest ((d, v) :: fr) hp) : Lst C ops Q (⟨some d, .load t x, ty, pos, after, none⟩ :: rest) fr hp :=
  lst_load_at hd hx ht (fun _ _ ha => cell_of_blk (ha.mem_blk hm.mem) hv.eq) k
theorem lst_loadN {x : Operand} {t ct : TypeId} {b o : Nat} {cs l : List Value} {z : Value} {n m : Nat} (hd : Nat.blt d C.N = true) (hx : ev fr x = some (.pointer (some ⟨b, o, none⟩))) (ht : aggB C.P t = true) (hi : TI C.P t z n m)
    [hm : InB b (.cells cs.toArray ct (0, 0)) hp] [hv : Ext cs o n l] (k : Lst C ops Q rest ((d, .agg l.toArray) :: fr) hp) : Lst C ops Q (⟨some d, .load t x, ty, pos, after, none⟩ :: rest) fr hp := by
  have hlen := hv.len
  have heq := hv.eq
  refine lst_loadN_at hd hx ht hi ?_ (fun _ _ ha j u hu => cell_of_blk (ha.mem_blk hm.mem) ?_) k
  · rw [heq, List.length_take, List.length_drop]; omega
  · rw [heq, List.getElem?_take] at hu
    split at hu
    · rw [List.getElem?_drop] at hu; exact hu
    · cases hu
/-- Old memory reads as it did. -/
theorem At.old (ha : At C fr hp a w) {p : Addr} {v : Value} (h : C.w0.cell? p = some v) (hb : p.block < C.B) : w.cell? p = some v := by
  rw [← h]
  exact ha.below.cell hb

theorem splice_upd {w : World} {b o : Nat} {t : TypeId} {cs vs out : List Value} (hs : Splice cs o vs out) (hg : w.heap[b]? = some (.cells cs.toArray t (0, 0))) (h1 : ∀ v ∈ vs, v.oneCell' = true) (P : Program) :
    ∃ w', (storeCells ⟨b, o, none⟩ vs).run P w = .ok () w' ∧ w'.heap[b]? = some (.cells out.toArray t (0, 0)) ∧ w.grownBy w' (some b) := by
  have h := run_storeCells_at P b o t vs 0 cs.toArray w hg (by have := hs.len; simp; omega) h1
  refine ⟨_, h, ?_, ⟨rfl, rfl, rfl, by simp, fun k _ hk => setRow_other w b k _ (fun e => hk (by rw [e]))⟩⟩
  rw [setRow_heap w b cs.toArray _ t _ hg, hs.eq]
  simp
/-- A store, of one cell or of several, into a block of the call's own. -/
theorem lst_store {x y : Operand} {t ct : TypeId} {b o : Nat} {cs vs out : List Value} {v z : Value} {n m : Nat} (hx : ev fr x = some (.pointer (some ⟨b, o, none⟩))) (hy : ev fr y = some v) (hi : TI C.P t z n m)
    [hc : Cells v vs] (hn : vs.length = n) [hm : InB b (.cells cs.toArray ct (0, 0)) hp] [hs : Splice cs o vs out] [hu : UpB b (.cells cs.toArray ct (0, 0)) (.cells out.toArray ct (0, 0)) hp hp']
    (k : Lst C ops Q rest fr hp') : Lst C ops Q (⟨none, .store t x y, ty, pos, after, none⟩ :: rest) fr hp := by
  obtain ⟨i, hi, _, hsz, _⟩ := hi
  refine lst_skip (fun a w ha => ?_) k
  obtain ⟨w', h1, h2, h3⟩ := splice_upd hs (ha.mem_blk hm.mem) hc.one C.P
  refine ⟨w', ?_, ha.turn hu.upd h3 ⟨(ha.own _ hm.mem).1, h2⟩ (fun k hk => .inl hk)⟩
  simp [execOp, ha.eval hx, ha.eval hy, Instr.storeAt, Instr.sureAddr, storeVar, sizeOf, typeInfo, hi, hc.eq, hn, hsz, h1]

/-- An operation on two integers of one kind. -/
theorem lst_int {op : BinOp} {x y : Operand} {t t' : TypeId} {kd : IntKind} {m n : Int} {v : Value} (hd : Nat.blt d C.N = true) (hx : ev fr x = some (.int kd m)) (hy : ev fr y = some (.int kd n))
    (hr : ∀ w : World, (binOp op t (.int kd m) (.int kd n)).run C.P w = .ok v w)
    (k : Lst C ops Q rest ((d, v) :: fr) hp) : Lst C ops Q (⟨some d, .binOp op t x y t', ty, pos, after, none⟩ :: rest) fr hp := by
  refine lst_value _ hd (fun a w ha => ⟨w, ?_, ha⟩) k
  have hg : ∀ w : World, (eqGuard op t x y (.int kd m) (.int kd n)).run C.P w = .ok () w := by
    intro w
    unfold eqGuard
    cases op <;> simp
  simp [execOp, ha.eval hx, ha.eval hy, hg, hr]
section
variable {P : Program} {kd : IntKind} {t : TypeId} {m n : Int} (w : World)
theorem bin_lss : (binOp .lss t (.int kd m) (.int kd n)).run P w = .ok (.bool (decide (m < n))) w := by simp [binOp, Op.intCmp]
theorem bin_leq : (binOp .leq t (.int kd m) (.int kd n)).run P w = .ok (.bool (decide (m ≤ n))) w := by simp [binOp, Op.intCmp]
theorem bin_gtr : (binOp .gtr t (.int kd m) (.int kd n)).run P w = .ok (.bool (decide (n < m))) w := by simp [binOp, Op.intCmp]
theorem bin_geq : (binOp .geq t (.int kd m) (.int kd n)).run P w = .ok (.bool (decide (n ≤ m))) w := by simp [binOp, Op.intCmp]
theorem bin_eql : (binOp .eql t (.int kd m) (.int kd n)).run P w = .ok (.bool (decide (m = n))) w := by
  simp only [binOp, Op.intCmp]
  have : (m == n) = decide (m = n) := by cases h : (m == n) <;> simp_all
  simp [this]
theorem bin_neq : (binOp .neq t (.int kd m) (.int kd n)).run P w = .ok (.bool (decide (m ≠ n))) w := by
  simp only [binOp, Op.intCmp]
  have : (m != n) = decide (m ≠ n) := by cases h : (m != n) <;> simp_all
  simp [this]
theorem bin_add {r : Int} (h : kd.wrap (m + n) = r) : (binOp .add t (.int kd m) (.int kd n)).run P w = .ok (.int kd r) w := by simp [binOp, Op.intArith, h]
theorem bin_sub {r : Int} (h : kd.wrap (m - n) = r) : (binOp .sub t (.int kd m) (.int kd n)).run P w = .ok (.int kd r) w := by simp [binOp, Op.intArith, h]
theorem bin_mul {r : Int} (h : kd.wrap (m * n) = r) : (binOp .mul t (.int kd m) (.int kd n)).run P w = .ok (.int kd r) w := by simp [binOp, Op.intArith, h]
theorem bin_quo {r : Int} (h0 : n ≠ 0) (h : kd.wrap (m.tdiv n) = r) : (binOp .quo t (.int kd m) (.int kd n)).run P w = .ok (.int kd r) w := by simp [binOp, Op.intDiv, h, h0]
theorem bin_rem {r : Int} (h0 : n ≠ 0) (h : m.tmod n = r) : (binOp .rem t (.int kd m) (.int kd n)).run P w = .ok (.int kd r) w := by simp [binOp, Op.intDiv, h, h0]
theorem bin_and {r : Int} (h : kd.wrap ((BitVec.ofInt kd.bits m &&& BitVec.ofInt kd.bits n).toNat) = r) : (binOp .and t (.int kd m) (.int kd n)).run P w = .ok (.int kd r) w := by subst h; simp only [binOp, ne_eq, not_true_eq_false, if_false, Op.intBits]; rfl
theorem bin_or {r : Int} (h : kd.wrap ((BitVec.ofInt kd.bits m ||| BitVec.ofInt kd.bits n).toNat) = r) : (binOp .or t (.int kd m) (.int kd n)).run P w = .ok (.int kd r) w := by subst h; simp only [binOp, ne_eq, not_true_eq_false, if_false, Op.intBits]; rfl
theorem bin_xor {r : Int} (h : kd.wrap ((BitVec.ofInt kd.bits m ^^^ BitVec.ofInt kd.bits n).toNat) = r) : (binOp .xor t (.int kd m) (.int kd n)).run P w = .ok (.int kd r) w := by subst h; simp only [binOp, ne_eq, not_true_eq_false, if_false, Op.intBits]; rfl
end
/-- A shift. -/
theorem lst_shl {x y : Operand} {t t' : TypeId} {kd ke : IntKind} {m n r : Int} (hd : Nat.blt d C.N = true) (hx : ev fr x = some (.int kd m)) (hy : ev fr y = some (.int ke n)) (h0 : 0 ≤ n)
    (hr : kd.wrap (m * 2 ^ (min n.toNat kd.bits)) = r)
    (k : Lst C ops Q rest ((d, .int kd r) :: fr) hp) : Lst C ops Q (⟨some d, .binOp .shl t x y t', ty, pos, after, none⟩ :: rest) fr hp := by
  refine lst_value _ hd (fun a w ha => ⟨w, ?_, ha⟩) k
  simp [execOp, ha.eval hx, ha.eval hy, eqGuard, binOp, Op.shift, Int.not_lt.2 h0, hr]
theorem lst_shr {x y : Operand} {t t' : TypeId} {kd ke : IntKind} {m n r : Int} (hd : Nat.blt d C.N = true) (hx : ev fr x = some (.int kd m)) (hy : ev fr y = some (.int ke n)) (h0 : 0 ≤ n)
    (hr : m.fdiv (2 ^ (min n.toNat kd.bits)) = r)
    (k : Lst C ops Q rest ((d, .int kd r) :: fr) hp) : Lst C ops Q (⟨some d, .binOp .shr t x y t', ty, pos, after, none⟩ :: rest) fr hp := by
  refine lst_value _ hd (fun a w ha => ⟨w, ?_, ha⟩) k
  simp [execOp, ha.eval hx, ha.eval hy, eqGuard, binOp, Op.shift, Int.not_lt.2 h0, hr]
/-- An operation on two values, its run known. -/
theorem lst_bin {op : BinOp} {x y : Operand} {t t' : TypeId} {u u' : Value} {v : Value} (hd : Nat.blt d C.N = true) (hx : ev fr x = some u) (hy : ev fr y = some u')
    (hr : ∀ w : World, (do eqGuard op t x y u u'; binOp op t u u' : Sem Value).run C.P w = .ok v w)
    (k : Lst C ops Q rest ((d, v) :: fr) hp) : Lst C ops Q (⟨some d, .binOp op t x y t', ty, pos, after, none⟩ :: rest) fr hp := by
  refine lst_value _ hd (fun a w ha => ⟨w, ?_, ha⟩) k
  have := hr w
  simp only [execOp, ha.eval hx, ha.eval hy, Sem.run_bind] at this ⊢
  rw [this]; rfl
theorem lst_convert {x : Operand} {s t : TypeId} {kd ke : IntKind} {m r : Int} {ds : TypeDesc} (hd : Nat.blt d C.N = true) (hx : ev fr x = some (.int ke m)) (hs : C.P.underlying s = some ds) (ht : C.P.underlying t = some (.int kd))
    (hr : kd.wrap m = r) (k : Lst C ops Q rest ((d, .int kd r) :: fr) hp) : Lst C ops Q (⟨some d, .convert s t x, ty, pos, after, none⟩ :: rest) fr hp := by
  refine lst_value _ hd (fun a w ha => ⟨w, ?_, ha⟩) k
  simp only [execOp, ha.eval hx, convert, Sem.run_bind, run_underlying hs, run_underlying ht, Result.andThen_ok, Conv.intToInt, Sem.run_pure, hr]

/-- An element's address: an array behind a pointer. -/
theorem lst_index_arr {x y : Operand} {t e : TypeId} {b o j len n m : Nat} {kd : IntKind} {i : Int} {z : Value} (hd : Nat.blt d C.N = true) (hx : ev fr x = some (.pointer (some ⟨b, o, none⟩))) (hy : ev fr y = some (.int kd i))
    (ht : C.P.underlying t = some (.array len e)) (he : TI C.P e z n m) (hi : i = (j : Int)) (hj : j < len)
    (k : Lst C ops Q rest ((d, .pointer (some ⟨b, o + j * n, none⟩)) :: fr) hp) : Lst C ops Q (⟨some d, .indexAddr t x y, ty, pos, after, none⟩ :: rest) fr hp := by
  obtain ⟨i', hi', _, hs, _⟩ := he
  subst hi
  refine lst_value _ hd (fun a w ha => ⟨w, ?_, ha⟩) k
  simp [execOp, ha.eval hx, ha.eval hy, Instr.indexAt, asIntOf, run_underlying ht, Instr.sureAddr, hj, sizeOf, typeInfo, hi', hs, addr_add]
/-- .. a slice. -/
theorem lst_index_sl {x y : Operand} {t e : TypeId} {p : Addr} {j len cap n m : Nat} {kd : IntKind} {i : Int} {z : Value} (hd : Nat.blt d C.N = true) (hx : ev fr x = some (.slice (some p) len cap)) (hy : ev fr y = some (.int kd i))
    (ht : C.P.underlying t = some (.slice e)) (he : TI C.P e z n m) (hi : i = (j : Int)) (hj : j < len)
    (k : Lst C ops Q rest ((d, .pointer (some (p.add (j * n)))) :: fr) hp) : Lst C ops Q (⟨some d, .indexAddr t x y, ty, pos, after, none⟩ :: rest) fr hp := by
  obtain ⟨i', hi', _, hs, _⟩ := he
  subst hi
  refine lst_value _ hd (fun a w ha => ⟨w, ?_, ha⟩) k
  simp [execOp, ha.eval hx, ha.eval hy, Instr.indexAt, asIntOf, run_underlying ht, hj, sizeOf, typeInfo, hi', hs]

/-- A call of a builtin whose run is known and turns nothing. -/
theorem lst_builtin {bi : Builtin} {args : Array Operand} {ts : Array TypeId} {vs : List Value} {v : Value} (hd : Nat.blt d C.N = true) (hx : args.toList.map (ev fr) = vs.map some)
    (hr : ∀ (cs : Array Bool) (w : World), (builtin bi ts ty cs vs.toArray).run C.P w = .ok (.value v) w)
    (k : Lst C ops Q rest ((d, v) :: fr) hp) : Lst C ops Q (⟨some d, .call { callee := .builtin bi, args := args, argTypes := ts }, ty, pos, after, none⟩ :: rest) fr hp := by
  refine lst_value _ hd (fun a w ha => ⟨w, ?_, ha⟩) k
  have := ev_args ha hx
  simp only [execOp, resolve, this, Sem.run_bind, Sem.run_pure, Result.andThen_ok, invoke]
  exact hr _ w
theorem run_len_slice {P : Program} {t e ty : TypeId} {p : Option Addr} {n c : Nat} (ht : P.underlying t = some (.slice e)) (cs : Array Bool) (w : World) :
    (builtin .len #[t] ty cs [Value.slice p n c].toArray).run P w = .ok (.value (.int .i64 n)) w := by
  simp [builtin, Builtin.len_, run_underlying ht, goInt]
theorem lst_len {x : Operand} {t e : TypeId} {p : Option Addr} {n c : Nat} (hd : Nat.blt d C.N = true) (hx : ev fr x = some (.slice p n c)) (ht : C.P.underlying t = some (.slice e))
    (k : Lst C ops Q rest ((d, .int .i64 (n : Int)) :: fr) hp) : Lst C ops Q (⟨some d, .call { callee := .builtin .len, args := #[x], argTypes := #[t] }, ty, pos, after, none⟩ :: rest) fr hp :=
  lst_builtin (vs := [.slice p n c]) hd (by simp [hx]) (run_len_slice ht) k
theorem lst_min {x y : Operand} {ts : Array TypeId} {kd : IntKind} {m n : Int} (hd : Nat.blt d C.N = true) (hx : ev fr x = some (.int kd m)) (hy : ev fr y = some (.int kd n))
    (k : Lst C ops Q rest ((d, .int kd (if n < m then n else m)) :: fr) hp) : Lst C ops Q (⟨some d, .call { callee := .builtin .min, args := #[x, y], argTypes := ts }, ty, pos, after, none⟩ :: rest) fr hp :=
  lst_builtin (vs := [.int kd m, .int kd n]) hd (by simp [hx, hy]) (fun cs w => by simp [builtin, Builtin.min_, Builtin.min2]) k
theorem lst_max {x y : Operand} {ts : Array TypeId} {kd : IntKind} {m n : Int} (hd : Nat.blt d C.N = true) (hx : ev fr x = some (.int kd m)) (hy : ev fr y = some (.int kd n))
    (k : Lst C ops Q rest ((d, .int kd (if m < n then n else m)) :: fr) hp) : Lst C ops Q (⟨some d, .call { callee := .builtin .max, args := #[x, y], argTypes := ts }, ty, pos, after, none⟩ :: rest) fr hp :=
  lst_builtin (vs := [.int kd m, .int kd n]) hd (by simp [hx, hy]) (fun cs w => by simp [builtin, Builtin.max_, Builtin.max2]) k

/-- The cells of several parts, put into a zero value. -/
theorem lst_build {t : TypeId} {parts : Array (Nat × Operand)} {vs : List (Nat × Value)} {l : List Value} (hd : Nat.blt d C.N = true)
    (hx : parts.toList.map (fun q => (q.1, ev fr q.2)) = vs.map (fun q => (q.1, some q.2)))
    (hr : ∀ w : World, (Instr.build t vs.toArray).run C.P w = .ok (.agg l.toArray) w)
    (k : Lst C ops Q rest ((d, .agg l.toArray) :: fr) hp) : Lst C ops Q (⟨some d, .build t parts, ty, pos, after, none⟩ :: rest) fr hp := by
  refine lst_value _ hd (fun a w ha => ⟨w, ?_, ha⟩) k
  have h : parts.map (fun (i, x) => (i, a.eval x)) = vs.toArray := by
    have : ∀ (l : List (Nat × Operand)) (vs : List (Nat × Value)), l.map (fun q => (q.1, ev fr q.2)) = vs.map (fun q => (q.1, some q.2)) → l.map (fun (q : Nat × Operand) => (q.1, a.eval q.2)) = vs := by
      intro l
      induction l with
      | nil => intro vs h; cases vs with
        | nil => rfl
        | cons => simp at h
      | cons x l ih =>
        intro vs h
        cases vs with
        | nil => simp at h
        | cons v vs =>
          simp only [List.map_cons, List.cons.injEq, Prod.mk.injEq] at h
          rw [List.map_cons, ha.eval h.1.2, ih vs h.2, h.1.1]
    obtain ⟨l⟩ := parts
    simp only [List.map_toArray]
    rw [show (fun (x : Nat × Operand) => match x with | (i, x) => (i, a.eval x)) = (fun (q : Nat × Operand) => (q.1, a.eval q.2)) from rfl, this l vs hx]
  simp only [execOp, h, Sem.run_bind, hr w, Result.andThen_ok, Sem.run_pure]
/-- A slice of a literal's parts: one element of one cell or more. -/
theorem lst_buildSlice {t e : TypeId} {len : Nat} {parts : Array (Nat × Operand)} {vs : List (Nat × Value)} {l : List Value} (hd : Nat.blt d C.N = true)
    (hx : parts.toList.map (fun q => (q.1, ev fr q.2)) = vs.map (fun q => (q.1, some q.2)))
    (hr : ∀ w : World, (Instr.buildSlice t len vs.toArray).run C.P w = .ok (.slice (some ⟨w.heap.size, 0, none⟩) len len) (w.alloc (.cells l.toArray e)))
    (k : ∀ b, Lst C ops Q rest ((d, .slice (some ⟨b, 0, none⟩) len len) :: fr) (.blk b (.cells l.toArray e (0, 0)) :: hp)) : Lst C ops Q (⟨some d, .buildSlice t len parts, ty, pos, after, none⟩ :: rest) fr hp := by
  intro a w ha
  have h : parts.map (fun (i, x) => (i, a.eval x)) = vs.toArray := by
    have : ∀ (l : List (Nat × Operand)) (vs : List (Nat × Value)), l.map (fun q => (q.1, ev fr q.2)) = vs.map (fun q => (q.1, some q.2)) → l.map (fun (q : Nat × Operand) => (q.1, a.eval q.2)) = vs := by
      intro l
      induction l with
      | nil => intro vs h; cases vs with
        | nil => rfl
        | cons => simp at h
      | cons x l ih =>
        intro vs h
        cases vs with
        | nil => simp at h
        | cons v vs =>
          simp only [List.map_cons, List.cons.injEq, Prod.mk.injEq] at h
          rw [List.map_cons, ha.eval h.1.2, ih vs h.2, h.1.1]
    obtain ⟨l⟩ := parts
    simp only [List.map_toArray]
    rw [show (fun (x : Nat × Operand) => match x with | (i, x) => (i, a.eval x)) = (fun (q : Nat × Operand) => (q.1, a.eval q.2)) from rfl, this l vs hx]
  refine wpList_plain rfl fun K hK => ?_
  unfold Oper.wp
  have hrun : (execOp a.eval ⟨some d, .buildSlice t len parts, ty, pos, after, none⟩).run C.P w = .ok (.value (.slice (some ⟨w.heap.size, 0, none⟩) len len)) (w.alloc (.cells l.toArray e)) := by
    simp only [execOp, h, Sem.run_bind, hr w, Result.andThen_ok, Sem.run_pure]
  rw [hrun]
  exact hK _ _ (k w.heap.size _ _ ((ha.alloc (.cells l.toArray e)).put (lt_of_blt hd) _))
/-! Control. -/
theorem cod_seq {x y : Code} (h : Cod C x (Exit.then (y.wp C.P Q) Q) fr hp) : Cod C (x.seq y) Q fr hp := fun a w ha => wp_seq (h a w ha)
theorem ex_then {y : Code} (h : Cod C y Q fr hp) : Ex C (Exit.then (y.wp C.P Q) Q) .normal fr hp := h
theorem ex_then_exit {K : Act → World → Prop} {i : Nat} (h : Ex C Q (.exit i) fr hp) : Ex C (Exit.then K Q) (.exit i) fr hp := h
theorem ex_then_ret {K : Act → World → Prop} (h : Ex C Q .ret fr hp) : Ex C (Exit.then K Q) .ret fr hp := h
theorem ex_block_normal {i : Nat} (h : Ex C Q .normal fr hp) : Ex C (Exit.inBlock i Q) .normal fr hp := h
theorem ex_block_ret {i : Nat} (h : Ex C Q .ret fr hp) : Ex C (Exit.inBlock i Q) .ret fr hp := h
theorem ex_block_exit {i : Nat} (h : Ex C Q .normal fr hp) : Ex C (Exit.inBlock i Q) (.exit i) fr hp := fun a w ha => by
  show (if i = i then Q .normal a w else Q (.exit i) a w)
  rw [if_pos rfl]; exact h a w ha
theorem ex_block_other {i j : Nat} (hij : Nat.beq j i = false) (h : Ex C Q (.exit j) fr hp) : Ex C (Exit.inBlock i Q) (.exit j) fr hp := fun a w ha => by
  show (if j = i then Q .normal a w else Q (.exit j) a w)
  rw [if_neg (fun e => by subst e; simp at hij)]; exact h a w ha
theorem cod_region {id : Nat} {l : List Oper} (h : Lst C l.toArray Q l fr hp) : Cod C (.region id l.toArray false) Q fr hp := fun a w ha => wp_region_lit (h a w ha)
theorem cod_skip (h : Ex C Q .normal fr hp) : Cod C .skip Q fr hp := fun a w ha => wp_skip (h a w ha)
theorem cod_exit {i : Nat} (h : Ex C Q (.exit i) fr hp) : Cod C (.exit i) Q fr hp := fun a w ha => wp_exit (h a w ha)
theorem cod_ret (h : Ex C Q .ret fr hp) : Cod C .ret Q fr hp := fun a w ha => wp_ret (h a w ha)
theorem cod_block {i : Nat} {c : Code} (h : Cod C c (Exit.inBlock i Q) fr hp) : Cod C (.block i c) Q fr hp := fun a w ha => wp_block (h a w ha)
theorem cod_cond_true {c : Operand} {x y : Code} (hc : ev fr c = some (.bool true)) (h : Cod C x Q fr hp) : Cod C (.cond c x y) Q fr hp := fun a w ha => wp_cond_true (ha.eval hc) (h a w ha)
theorem cod_cond_false {c : Operand} {x y : Code} (hc : ev fr c = some (.bool false)) (h : Cod C y Q fr hp) : Cod C (.cond c x y) Q fr hp := fun a w ha => wp_cond_false (ha.eval hc) (h a w ha)
theorem cod_cond_bool {c : Operand} {x y : Code} {b : Bool} (hc : ev fr c = some (.bool b)) (h : b = true → Cod C x Q fr hp) (h' : b = false → Cod C y Q fr hp) : Cod C (.cond c x y) Q fr hp := by
  cases b with
  | true => exact cod_cond_true hc (h rfl)
  | false => exact cod_cond_false hc (h' rfl)
theorem cod_cond_dec {c : Operand} {x y : Code} {p : Prop} [Decidable p] (hc : ev fr c = some (.bool (decide p))) (h : p → Cod C x Q fr hp) (h' : ¬p → Cod C y Q fr hp) : Cod C (.cond c x y) Q fr hp := by
  by_cases hp' : p
  · rw [decide_eq_true hp'] at hc; exact cod_cond_true hc (h hp')
  · rw [decide_eq_false hp'] at hc; exact cod_cond_false hc (h' hp')
/-- The end of a round. -/
def Rnd {G : Type} (C : Ctx) (p : G → Prop) (μ : G → Nat) (f : G → List (Nat × Value)) (h : G → List Res) (g : G) (a : Act) (w : World) : Prop :=
  ∃ g', p g' ∧ μ g' < μ g ∧ At C (f g') (h g') a w
/-- A loop: the things that turn from round to round are g. -/
theorem cod_loop {G : Type} {c : Code} (p : G → Prop) (μ : G → Nat) (f : G → List (Nat × Value)) (h : G → List Res) (g0 : G) (h0 : p g0) (hs : Sub (f g0) fr) (hh : (h g0).Sublist hp)
    (round : ∀ g, p g → Cod C c (Exit.then (Rnd C p μ f h g) Q) (f g) (h g)) : Cod C (.loop c) Q fr hp := by
  intro a w ha
  refine wp_loop_ghost (fun n a w => ∃ g, p g ∧ μ g = n ∧ At C (f g) (h g) a w) (μ g0) ⟨g0, h0, rfl, (ha.drop_slots hs).drop_res hh⟩ ?_
  rintro n a w ⟨g, hg, rfl, hat⟩
  refine wp_mono (round g hg a w hat) ?_
  intro e a' w' he
  cases e with
  | normal =>
    obtain ⟨g', h1, h2, h3⟩ := he
    exact ⟨μ g', h2, g', h1, rfl, h3⟩
  | _ => exact he
theorem ex_round {G : Type} {p : G → Prop} {μ : G → Nat} {g : G} {f : G → List (Nat × Value)} {h : G → List Res} (g' : G) (h0 : p g') (hm : μ g' < μ g) (hs : Sub (f g') fr) (hh : (h g').Sublist hp) :
    Ex C (Exit.then (Rnd C p μ f h g) Q) .normal fr hp :=
  fun _ _ ha => ⟨g', h0, hm, (ha.drop_slots hs).drop_res hh⟩
/-! Calls. -/
/-- A function with a body: a call of it enters it. -/
def Enters (P : Program) (f : FuncId) : Prop := ∀ (args : Array Value) (w : World), (callFunc f args).run P w = .ok (.enter f args) w
theorem enters_of {P : Program} {f : FuncId} {fn : Func} (hf : P.funcs[f]? = some fn) (hb : fn.body.isSome = true) (hn : (fn.name == "runtime.NumGoroutine") = false) : Enters P f := by
  intro args w
  have hb' : fn.body.isNone = false := by cases h : fn.body <;> simp_all
  have hp : (program : Sem Program).run P w = .ok P w := rfl
  simp only [callFunc, Sem.run_bind, hp, Result.andThen_ok, hf, hn, hb', Bool.false_eq_true, if_false]
  rfl
/-- What is new: nothing that was there has turned, and these things lie above it. -/
def Grew (w w' : World) (rs : List Res) : Prop := Below w.heap.size w w' ∧ (∀ r, r ∈ rs → r.ok w.heap.size w') ∧ (rs.filterMap Res.id).Nodup
theorem At.more (ha : At C fr hp a w) {w' : World} {rs : List Res} (h : Grew w w' rs) : At C fr (rs ++ hp) a w' := ha.grew h.1 h.2.1 h.2.2
/-- A call through a function value that is known. -/
theorem lst_call {X : Type} {x : Operand} {f : FuncId} {first cap vs : List Value} {args : Array Operand} {ts : Array TypeId} {p : X → Prop} {val : X → Value} {rs : X → List Res} (hd : Nat.blt d C.N = true)
    (hx : ev fr x = some (.func (.func f) first.toArray cap.toArray)) (hargs : args.toList.map (ev fr) = vs.map some) (hf : Enters C.P f)
    (hc : ∀ a w, At C fr hp a w → Calls C.P f (first ++ vs ++ cap).toArray w fun e w' => ∃ x, p x ∧ e = .returned (val x) ∧ At C fr (rs x) a w')
    (k : ∀ x, p x → Lst C ops Q rest ((d, val x) :: fr) (rs x)) : Lst C ops Q (⟨some d, .call { callee := .value x, args := args, argTypes := ts }, ty, pos, after, none⟩ :: rest) fr hp := by
  intro a w ha
  refine wpList_plain rfl fun K hK => ?_
  unfold Oper.wp
  have hr : (execOp a.eval ⟨some d, .call { callee := .value x, args := args, argTypes := ts }, ty, pos, after, none⟩).run C.P w = .ok (.enter f (first ++ vs ++ cap).toArray) w := by
    simp only [execOp, resolve, ev_args ha hargs, ha.eval hx, Deferred.ofValue, Sem.run_bind, Sem.run_pure, Result.andThen_ok, invoke, List.append_toArray]
    exact hf _ w
  rw [hr]
  show Calls C.P f _ w _
  refine (hc a w ha).mono ?_
  rintro e w' ⟨x, h1, rfl, h2⟩
  exact hK _ _ (k x h1 _ _ (h2.put (lt_of_blt hd) _))
/-- A call of a named function that only grows memory. -/
theorem lst_fn {X : Type} {f : FuncId} {vs : List Value} {args : Array Operand} {ts : Array TypeId} {p : X → Prop} {val : X → Value} {rs : X → List Res} (hd : Nat.blt d C.N = true)
    (hargs : args.toList.map (ev fr) = vs.map some) (hf : Enters C.P f)
    (hc : ∀ a w, At C fr hp a w → Calls C.P f vs.toArray w fun e w' => ∃ x, p x ∧ e = .returned (val x) ∧ Grew w w' (rs x))
    (k : ∀ x, p x → Lst C ops Q rest ((d, val x) :: fr) (rs x ++ hp)) : Lst C ops Q (⟨some d, .call { callee := .value (.func f), args := args, argTypes := ts }, ty, pos, after, none⟩ :: rest) fr hp := by
  refine lst_call (first := []) (cap := []) (p := p) (val := val) (rs := fun x => rs x ++ hp) hd rfl hargs hf (fun a w ha => ?_) k
  simp only [List.nil_append, List.append_nil]
  refine (hc a w ha).mono ?_
  rintro e w' ⟨x, h1, h2, h3⟩
  exact ⟨x, h1, h2, ha.more h3⟩
/-- .. that lays nothing. -/
theorem lst_fn0 {f : FuncId} {vs : List Value} {args : Array Operand} {ts : Array TypeId} {v : Value} (hd : Nat.blt d C.N = true)
    (hargs : args.toList.map (ev fr) = vs.map some) (hf : Enters C.P f)
    (hc : ∀ a w, At C fr hp a w → Calls C.P f vs.toArray w fun e w' => e = .returned v ∧ Grew w w' [])
    (k : Lst C ops Q rest ((d, v) :: fr) hp) : Lst C ops Q (⟨some d, .call { callee := .value (.func f), args := args, argTypes := ts }, ty, pos, after, none⟩ :: rest) fr hp :=
  lst_fn (X := Unit) (p := fun _ => True) (val := fun _ => v) (rs := fun _ => []) hd hargs hf
    (fun a w ha => (hc a w ha).mono fun _ _ ⟨h1, h2⟩ => ⟨(), trivial, h1, h2⟩) (fun _ _ => k)

/-! Entering a function and leaving it. -/
def idx : Nat → List Value → List (Nat × Value)
  | _, [] => []
  | n, v :: vs => (n, v) :: idx (n + 1) vs
theorem look_idx (vs : List Value) : ∀ (n t : Nat) (v : Value), look (idx n vs) t = some v → ∃ j, t = n + j ∧ vs[j]? = some v := by
  induction vs with
  | nil => intro n t v h; cases h
  | cons u vs ih =>
    intro n t v h
    show _
    unfold idx at h
    rw [look_cons] at h
    by_cases e : n = t
    · rw [if_pos e] at h
      exact ⟨0, by omega, by simpa using h⟩
    · rw [if_neg e] at h
      obtain ⟨j, h1, h2⟩ := ih (n + 1) t v h
      exact ⟨j + 1, by omega, by simpa using h2⟩
theorem enter {P : Program} {f : FuncId} {fn : Func} {c : Code} {vs : List Value} {w : World} {R : Ending → World → Prop} {N : Nat} (fr : List (Nat × Value))
    (hf : P.funcs[f]? = some fn) (hb : fn.body = some c) (hN : fn.ntmps = N) (hle : Nat.ble vs.length N = true) (hfr : idx 0 vs = fr)
    (h : Cod ⟨P, w.heap.size, w, N, []⟩ c (bodyPost P fn R) fr []) : Calls P f vs.toArray w R := by
  refine calls_of_wp hf hb (h _ _ ⟨?_, rfl, ?_, Below.refl _ _, Nat.le_refl _, (fun r hr => by cases hr), List.nodup_nil⟩)
  · have : vs.length ≤ N := by simpa [Nat.ble_eq] using hle
    simp [hN]; omega
  · intro t v ht
    rw [← hfr] at ht
    obtain ⟨j, rfl, hj⟩ := look_idx vs 0 t v ht
    have hjl : j < vs.length := by
      rcases Nat.lt_or_ge j vs.length with h1 | h1
      · exact h1
      · rw [List.getElem?_eq_none h1] at hj; cases hj
    simp only [Nat.zero_add, Array.getD_eq_getD_getElem?]
    rw [Array.getElem?_append_left (by simpa using hjl)]
    simp [hj]
theorem ex_ret {fn : Func} {R : Ending → World → Prop} {v : Value} (hds : C.ds = []) (hr : ∀ a w, At C fr hp a w → (results fn a.tmps).run C.P w = .ok v w)
    (k : ∀ a w, At C fr hp a w → R (.returned v) w) : Ex C (bodyPost C.P fn R) .ret fr hp :=
  fun a w ha => ⟨ha.defs.trans hds, v, hr a w ha, k a w ha⟩
theorem ex_end {fn : Func} {R : Ending → World → Prop} {v : Value} (hds : C.ds = []) (hr : ∀ a w, At C fr hp a w → (results fn a.tmps).run C.P w = .ok v w)
    (k : ∀ a w, At C fr hp a w → R (.returned v) w) : Ex C (bodyPost C.P fn R) .normal fr hp :=
  fun a w ha => ⟨ha.defs.trans hds, v, hr a w ha, k a w ha⟩
theorem res_one {fn : Func} {t : Nat} {v : Value} (h : fn.results = #[.tmp t]) (hv : look fr t = some v) (ha : At C fr hp a w) : (results fn a.tmps).run C.P w = .ok v w := by
  have := ha.slots t v hv
  simp only [Array.getD_eq_getD_getElem?] at this
  simp [results, h, this]
theorem res_two {fn : Func} {t u : Nat} {v v' : Value} (h : fn.results = #[.tmp t, .tmp u]) (hv : look fr t = some v) (hu : look fr u = some v') (ha : At C fr hp a w) : (results fn a.tmps).run C.P w = .ok (.tuple #[v, v']) w := by
  have h1 := ha.slots t v hv
  have h2 := ha.slots u v' hu
  simp only [Array.getD_eq_getD_getElem?] at h1 h2
  simp [results, h, h1, h2]
theorem res_none {fn : Func} (h : fn.results = #[]) (_ha : At C fr hp a w) : (results fn a.tmps).run C.P w = .ok (.tuple #[]) w := by
  simp [results, h]
/-- At a return: what has grown. -/
theorem At.grown {P : Program} {w0 : World} {N : Nat} {ds : List Deferred} {rs : List Res} (ha : At ⟨P, w0.heap.size, w0, N, ds⟩ fr hp a w) (hs : rs.Sublist hp) : Grew w0 w rs :=
  ⟨ha.below, fun r hr => ha.own r (hs.subset hr), ha.apart.sublist (hs.filterMap _)⟩

/-! Operations under a guard. -/
theorem yields_of (ha : At C fr hp a w) {j t : Nat} {b : Bool} (hj : (ops[j]?).bind (·.dst) = some t) (hv : look fr t = some (.bool b)) : yielded ops a.tmps j = some b := by
  have h := ha.slots t _ hv
  unfold yielded
  rw [hj]
  simp only [Option.bind_some]
  rw [Array.getD_eq_getD_getElem?] at h
  cases hq : a.tmps[t]? with
  | none => rw [hq] at h; simp [undef] at h
  | some v => rw [hq] at h; simp only [Option.getD_some] at h; subst h; rfl
theorem lst_on {dst : Option Tmp} {op : Op} {j t : Nat} {b : Bool} (hj : (ops[j]?).bind (·.dst) = some t) (hv : look fr t = some (.bool b))
    (k : Lst C ops Q (⟨dst, op, ty, pos, after, none⟩ :: rest) fr hp) : Lst C ops Q (⟨dst, op, ty, pos, after, some (j, b)⟩ :: rest) fr hp := by
  intro a w ha
  have h := k a w ha
  simp only [wpList] at h ⊢
  have e : Region.wanted ⟨dst, op, ty, pos, after, some (j, b)⟩ (yielded ops a.tmps) = true := by
    simp [Region.wanted, yields_of ha hj hv]
  have e' : Region.wanted ⟨dst, op, ty, pos, after, none⟩ (yielded ops a.tmps) = true := rfl
  rw [if_pos e'] at h
  rw [if_pos e]
  exact h
theorem lst_off {op : Op} {j t d : Nat} {b : Bool} (hd : Nat.blt d C.N = true) (hj : (ops[j]?).bind (·.dst) = some t) (hv : look fr t = some (.bool (!b)))
    (k : Lst C ops Q rest ((d, undef) :: fr) hp) : Lst C ops Q (⟨some d, op, ty, pos, after, some (j, b)⟩ :: rest) fr hp := by
  intro a w ha
  simp only [wpList]
  have e : Region.wanted ⟨some d, op, ty, pos, after, some (j, b)⟩ (yielded ops a.tmps) = false := by
    cases b <;> simp [Region.wanted, yields_of ha hj hv]
  rw [if_neg (by rw [e]; simp)]
  exact k _ _ (ha.put (lt_of_blt hd) _)
/-- A slot holds a test: two ways. -/
theorem lst_split {l : List Oper} {t : Nat} {p : Prop} [Decidable p] (hv : look fr t = some (.bool (decide p))) (h : p → Lst C ops Q l ((t, .bool true) :: fr) hp) (h' : ¬p → Lst C ops Q l ((t, .bool false) :: fr) hp) :
    Lst C ops Q l fr hp := by
  intro a w ha
  have same : ∀ b, look fr t = some (.bool b) → At C ((t, .bool b) :: fr) hp a w := fun b hb => ha.drop_slots_of fun s v hs => by
    rw [look_cons] at hs
    by_cases e : t = s
    · subst e; rw [if_pos rfl] at hs; rw [hb, hs]
    · rw [if_neg e] at hs; exact hs
  by_cases hp' : p
  · exact h hp' a w (same true (by rw [hv, decide_eq_true hp']))
  · exact h' hp' a w (same false (by rw [hv, decide_eq_false hp']))
theorem lst_split_bool {l : List Oper} {t : Nat} {b : Bool} (hv : look fr t = some (.bool b)) (h : b = true → Lst C ops Q l ((t, .bool true) :: fr) hp) (h' : b = false → Lst C ops Q l ((t, .bool false) :: fr) hp) :
    Lst C ops Q l fr hp := by
  refine lst_split (p := b = true) (t := t) (by rw [hv]; cases b <;> rfl) h (fun hn => h' (by cases b <;> simp_all))
/-- A cut within a list of operations: one slot more is known behind it. -/
theorem lst_cut {l : List Oper} (n : Nat) (fr' : List (Nat × Value)) (hp' : List Res) (h : Lst C ops (Exit.then (At C fr' hp') Q) (l.take n) fr hp) (h' : Lst C ops Q (l.drop n) fr' hp') : Lst C ops Q l fr hp := by
  have mono : ∀ (l1 : List Oper) (l2 : List Oper) (a : Act) (w : World), wpList C.P ops (Exit.then (wpList C.P ops Q l2) Q) l1 a w → wpList C.P ops Q (l1 ++ l2) a w := by
    intro l1 l2
    induction l1 with
    | nil => intro a w h; exact h
    | cons o l1 ih =>
      intro a w h
      simp only [List.cons_append, wpList] at h ⊢
      split at h
      · rename_i hw
        rw [if_pos hw]
        rcases h with h | ⟨h1, h2⟩
        · refine .inl ?_
          have := Oper.wp_mono (Q := Exit.then (wpList C.P ops Q l2) Q) (fun a w hk => ih a w hk) h
          unfold Oper.wp at this ⊢
          generalize (execOp a.eval o).run C.P w = r at *
          cases r with
          | ok n w' =>
            cases n <;> simp only [Oper.upon] at this ⊢ <;> first
              | exact this
              | exact Calls.mono this (fun e w'' he => by cases e <;> exact he)
          | halt x w' => cases x <;> simp only [Oper.upon] at this ⊢ <;> exact this
        · exact .inr ⟨h1, h2⟩
      · rename_i hw
        rw [if_neg hw]
        exact ih _ _ h
  intro a w ha
  rw [← List.take_append_drop n l]
  refine mono _ _ a w ?_
  have h1 := h a w ha
  clear h ha mono
  generalize l.take n = l1 at h1 ⊢
  have key : ∀ (l1 : List Oper) (a : Act) (w : World), wpList C.P ops (Exit.then (At C fr' hp') Q) l1 a w → wpList C.P ops (Exit.then (wpList C.P ops Q (l.drop n)) Q) l1 a w := by
    intro l1
    induction l1 with
    | nil => intro a w hh; exact h' a w hh
    | cons o l1 ih =>
      intro a w hh
      simp only [wpList] at hh ⊢
      split at hh
      · rename_i hw
        rw [if_pos hw]
        rcases hh with hh | ⟨h1, h2⟩
        · refine .inl ?_
          have := Oper.wp_mono (Q := Exit.then (At C fr' hp') Q) (fun a w hk => ih a w hk) hh
          unfold Oper.wp at this ⊢
          generalize (execOp a.eval o).run C.P w = r at *
          cases r with
          | ok n w' =>
            cases n <;> simp only [Oper.upon] at this ⊢ <;> first
              | exact this
              | exact Calls.mono this (fun e w'' he => by cases e <;> exact he)
          | halt x w' => cases x <;> simp only [Oper.upon] at this ⊢ <;> exact this
        · exact .inr ⟨h1, h2⟩
      · rename_i hw
        rw [if_neg hw]
        exact ih _ _ hh
  exact key l1 a w h1
theorem ex_cut {fr' : List (Nat × Value)} (hs : Sub fr' fr) (hh : hp'.Sublist hp) : Ex C (Exit.then (At C fr' hp') Q) .normal fr hp := fun _ _ ha => (ha.drop_slots hs).drop_res hh
theorem lst_cut1 {l : List Oper} (n d : Nat) (v : Value) (h : Lst C ops (Exit.then (At C ((d, v) :: fr) hp) Q) (l.take n) fr hp) (h' : Lst C ops Q (l.drop n) ((d, v) :: fr) hp) : Lst C ops Q l fr hp :=
  lst_cut n _ _ h h'

/-! Slices of the call's own. -/
theorem ownsRow_shape {w : World} {B e size n : Nat} {v : Value} {xs : List Value} (h : w.ownsRow B e size v n xs) : ∃ A c, v = .slice A n c := by
  rcases h.2 with ⟨rfl, rfl⟩ | ⟨g, cap, cur, rfl, _⟩
  · exact ⟨_, _, rfl⟩
  · exact ⟨_, _, rfl⟩
theorem append_place {P : Program} {w : World} {t ty e : TypeId} {i : TypeInfo} {z : Value} (ht : P.underlying t = some (.slice e)) (hi : P.info? e = some i) (hz : i.zero = some z) {B n : Nat} {v : Value} {xs : List Value}
    (hown : w.ownsRow B e i.size v n xs) {a : Addr} {m c : Nat} {news : List Value} (hl : news.length = m * i.size) (hnews : ∀ j u, news[j]? = some u → w.cell? (a.add j) = some u) (h1 : ∀ u ∈ news, u.oneCell' = true)
    (h63 : n + m ≤ maxLen) (hbytes : (n + m) * i.bytes ≤ 140737488355328) {v' : Value} {w' : World} (hr : (Builtin.append_ #[t, t] ty #[v, .slice (some a) m c]).run P w = .ok v' w') :
    ∀ k, v'.ownBlock = some k → v.ownBlock = some k ∨ w.heap.size ≤ k := by
  have hsmall : n + m ≤ 9223372036854775807 := by simp only [maxLen] at h63; omega
  intro k hk
  rcases hown.2 with ⟨rfl, rfl⟩ | ⟨g, cap, cur, rfl, hbg, hg, hnc, hcm, hcs, htake⟩
  · by_cases hm : m = 0
    · subst hm
      have hn : news = [] := List.eq_nil_of_length_eq_zero (by simpa using hl)
      subst hn
      have hr0 : (Builtin.append_ #[t, t] ty #[.slice none 0 0, .slice (some a) 0 c]).run P w = .ok (.slice none 0 0) w := by
        simp [Builtin.append_, run_underlying ht, sizeOf, typeInfo, hi, Builtin.lenOf, Builtin.firstCells, loadCells, loadCellsFrom]
      rw [hr0] at hr
      cases hr
      cases hk
    · have hr0 := run_append_nil (P := P) w t ty e i z ht hi hz a m c news hl hnews (by omega) (by omega) (by simp only [Nat.zero_add] at hbytes; omega)
      rw [hr0] at hr
      cases hr
      right
      have : some w.heap.size = some k := hk
      cases this
      exact Nat.le_refl _
  · by_cases hroom : n + m ≤ cap
    · have hfit : n * i.size + news.length ≤ cur.size := by rw [hl, hcs, ← Nat.add_mul]; exact Nat.mul_le_mul_right _ hroom
      have hr0 := run_append_room (P := P) w t ty e i ht hi g n cap cur hg a m c news hl hnews h1 hroom hfit
      rw [hr0] at hr
      cases hr
      exact .inl hk
    · have holds : ∀ j u, xs[j]? = some u → w.cell? ((⟨g, 0, none⟩ : Addr).add j) = some u := hown.cells (g := g) rfl
      have hr0 := run_append_grow (P := P) w t ty e i z ht hi hz ⟨g, 0, none⟩ n cap xs hown.1 holds a m c news hl hnews (by omega) (by omega) (growslice_fits (by omega) hbytes)
      rw [hr0] at hr
      cases hr
      right
      have : some w.heap.size = some k := hk
      cases this
      exact Nat.le_refl _
theorem lst_append {x y : Operand} {t e : TypeId} {A : Option Addr} {b n c m cb size bytes ct : Nat} {xs news : List Value} {z : Value} {hp' : Option Addr → Nat → List Res} (hd : Nat.blt d C.N = true)
    (hx : ev fr x = some (.slice A n c)) (hy : ev fr y = some (.slice (some ⟨b, 0, none⟩) m cb)) (ht : C.P.underlying t = some (.slice e)) (hi : TI C.P e z size bytes) (hzs : z.cells.size = size) (hs0 : Nat.blt 0 size = true)
    [hb : InB b (.cells news.toArray ct (0, 0)) hp] (hl : news.length = m * size) [ho : Ones news] [hr : InR A e size n c xs hp] [hu : ∀ A' c', UpR A e size n c xs (.row e size A' (n + m) c' (xs ++ news)) hp (hp' A' c')]
    (h63 : n + m ≤ maxLen) (hbytes : (n + m) * bytes ≤ 140737488355328)
    (k : ∀ A' c', Lst C ops Q rest ((d, .slice A' (n + m) c') :: fr) (hp' A' c')) :
    Lst C ops Q (⟨some d, .call { callee := .builtin .append, args := #[x, y], argTypes := #[t, t] }, ty, pos, after, none⟩ :: rest) fr hp := by
  intro a w ha
  obtain ⟨i, hi1, hi2, hi3, hi4⟩ := hi
  have hown := ha.own _ hr.mem
  have hblk := ha.mem_blk hb.mem
  subst hi3; subst hi4
  have hnews : ∀ j u, news[j]? = some u → w.cell? ((⟨b, 0, none⟩ : Addr).add j) = some u := by
    intro j u hu'
    rw [addr_add, Nat.zero_add]
    exact cell_of_blk hblk hu'
  obtain ⟨v', w', hrun, hown', hg, _⟩ := run_append_own (P := C.P) w C.B t ty e i z i.size i.bytes ht hi1 hi2 rfl rfl hzs (lt_of_blt hs0) _ n xs hown ⟨b, 0, none⟩ m cb news hl hnews ho.one h63 hbytes ha.base
  have hplace := append_place ht hi1 hi2 hown hl hnews ho.one h63 hbytes hrun
  obtain ⟨A', c', rfl⟩ := ownsRow_shape hown'
  refine wpList_plain rfl fun K hK => ?_
  unfold Oper.wp
  have hr' : (execOp a.eval ⟨some d, .call { callee := .builtin .append, args := #[x, y], argTypes := #[t, t] }, ty, pos, after, none⟩).run C.P w = .ok (.value (.slice A' (n + m) c')) w' := by
    simp only [execOp, resolve, invoke, builtin, Sem.run_bind, Sem.run_pure, Result.andThen_ok, List.map_toArray, List.map_cons, List.map_nil, ha.eval hx, ha.eval hy, hrun]
  rw [hr']
  exact hK _ _ (k A' c' _ _ ((ha.turn (hu A' c').upd hg hown' hplace).put (lt_of_blt hd) _))

/-- An element of a slice that lies at a known place. -/
theorem lst_index {x y : Operand} {t e : TypeId} {b o j len cap n m : Nat} {kd : IntKind} {i : Int} {z : Value} (hd : Nat.blt d C.N = true) (hx : ev fr x = some (.slice (some ⟨b, o, none⟩) len cap)) (hy : ev fr y = some (.int kd i))
    (ht : C.P.underlying t = some (.slice e)) (he : TI C.P e z n m) (hi : i = (j : Int)) (hj : j < len)
    (k : Lst C ops Q rest ((d, .pointer (some ⟨b, o + j * n, none⟩)) :: fr) hp) : Lst C ops Q (⟨some d, .indexAddr t x y, ty, pos, after, none⟩ :: rest) fr hp :=
  lst_index_sl hd hx hy ht he hi hj (by rw [addr_add]; exact k)
theorem row_some {w : World} {B e size n c : Nat} {A : Option Addr} {xs : List Value} (h : w.ownsRow B e size (.slice A n c) n xs) (hn : 0 < n) : ∃ g, A = some ⟨g, 0, none⟩ := by
  rcases h.2 with ⟨h1, h2⟩ | ⟨g, cap, cur, hv, _⟩
  · omega
  · injection hv with h1 _ _
    exact ⟨g, h1⟩
theorem row_cell (ha : At C fr hp a w) {A : Option Addr} {g e size n c o : Nat} {xs : List Value} {v : Value} (hr : Res.row e size A n c xs ∈ hp) (hA : A = some ⟨g, 0, none⟩) (hv : xs[o]? = some v) : w.cell? ⟨g, o, none⟩ = some v := by
  subst hA
  have h := World.ownsRow.cells (ha.own _ hr) (g := g) rfl o v hv
  rw [addr_add, Nat.zero_add] at h
  exact h
theorem lst_load_row {x : Operand} {t : TypeId} {A : Option Addr} {g o e size n c : Nat} {xs : List Value} {v : Value} (hd : Nat.blt d C.N = true) (hx : ev fr x = some (.pointer (some ⟨g, o, none⟩))) (ht : One C.P t) (hA : A = some ⟨g, 0, none⟩)
    [hr : InR A e size n c xs hp] (hv : xs[o]? = some v) (k : Lst C ops Q rest ((d, v) :: fr) hp) : Lst C ops Q (⟨some d, .load t x, ty, pos, after, none⟩ :: rest) fr hp :=
  lst_load_at hd hx ht (fun _ _ ha => row_cell ha hr.mem hA hv) k
/-- A slice, at address A, that reads as a list: each element as some cells. -/
def RdL {α : Type} (cells : α → List Value) (size : Nat) (w : World) (A : Option Addr) (l : List α) : Prop :=
  0 < l.length → ∃ b o, A = some ⟨b, o, none⟩ ∧ b < w.heap.size ∧ ∀ k x, l[k]? = some x → ∀ j u, (cells x)[j]? = some u → w.cell? ⟨b, o + k * size + j, none⟩ = some u
theorem RdL.later {α : Type} {cells : α → List Value} {size : Nat} {w w' : World} {A : Option Addr} {l : List α} (h : RdL cells size w A l) (hb : Below w.heap.size w w') : RdL cells size w' A l := fun hl => by
  obtain ⟨b, o, h1, h2, h3⟩ := h hl
  refine ⟨b, o, h1, Nat.lt_of_lt_of_le h2 hb.size, fun k x hk j u hu => ?_⟩
  rw [← h3 k x hk j u hu]
  exact hb.cell (p := ⟨b, o + k * size + j, none⟩) h2
theorem flatMap_get {α : Type} {cells : α → List Value} {size : Nat} (hs : ∀ x, (cells x).length = size) : ∀ (l : List α) (k : Nat) (x : α), l[k]? = some x → ∀ j u, (cells x)[j]? = some u → (l.flatMap cells)[k * size + j]? = some u := by
  intro l
  induction l with
  | nil => intro k x h; simp at h
  | cons y l ih =>
    intro k x h j u hu
    have hj : j < size := by
      rw [← hs x]
      rcases Nat.lt_or_ge j (cells x).length with h1 | h1
      · exact h1
      · rw [List.getElem?_eq_none h1] at hu; cases hu
    rw [List.flatMap_cons]
    cases k with
    | zero =>
      simp at h
      subst h
      rw [Nat.zero_mul, Nat.zero_add, List.getElem?_append_left (by rw [hs]; exact hj)]
      exact hu
    | succ k =>
      rw [List.getElem?_cons_succ] at h
      have := ih k x h j u hu
      rw [List.getElem?_append_right (by rw [hs, Nat.succ_mul]; omega), hs, Nat.succ_mul]
      rw [show k * size + size + j - size = k * size + j from by omega]
      exact this
/-- A row of the call's own reads as a list. -/
theorem row_reads (ha : At C fr hp a w) {α : Type} {cells : α → List Value} {size e c : Nat} (hs : ∀ x, (cells x).length = size) {A : Option Addr} {n : Nat} {l : List α} (hr : Res.row e size A n c (l.flatMap cells) ∈ hp) (hn : n = l.length) : RdL cells size w A l := by
  intro hl
  obtain ⟨g, hg⟩ := row_some (ha.own _ hr) (by omega)
  refine ⟨g, 0, hg, ?_, fun k x hk j u hu => ?_⟩
  · exact (Res.lt (ha.own _ hr) g (by rw [hg]; rfl)).2
  · rw [Nat.zero_add]
    exact row_cell ha hr hg (flatMap_get hs l k x hk j u hu)

/-! A slice's literal. -/
theorem foldl_set (l : List Value) : ∀ (cs : Array Value) (off j : Nat), off + j + l.length ≤ cs.size →
    ((l.zipIdx j).foldl (fun cs (q : Value × Nat) => cs.setIfInBounds (off + q.2) q.1) cs).toList = cs.toList.take (off + j) ++ l ++ cs.toList.drop (off + j + l.length) := by
  induction l with
  | nil => intro cs off j _; simp
  | cons v l ih =>
    intro cs off j h
    simp at h
    rw [List.zipIdx_cons, List.foldl_cons, ih _ _ _ (by simp; omega)]
    have e := list_seg_step cs.toList (off + j) v l (by simp; omega)
    simpa [Array.toList_setIfInBounds, Nat.add_assoc, Nat.add_comm 1] using e
/-- Parts in their order, each of 'size' cells. -/
def ordered (size : Nat) : Nat → List (Nat × Value) → List Value → Prop
  | _, [], l => l = []
  | i, (j, v) :: vs, l => j = i ∧ ∃ l1 l2, l = l1 ++ l2 ∧ v.cells = l1.toArray ∧ l1.length = size ∧ ordered size (i + 1) vs l2
theorem fill_ordered {size : Nat} : ∀ (vs : List (Nat × Value)) (i : Nat) (cs : Array Value) (l : List Value), ordered size i vs l → cs.size = (i + vs.length) * size →
    Instr.fill (fun i => some (i * size, size)) cs vs = some (cs.toList.take (i * size) ++ l).toArray := by
  intro vs
  induction vs with
  | nil =>
    intro i cs l h hs
    cases h
    simp only [List.length_nil, Nat.add_zero] at hs
    simp only [Instr.fill, List.append_nil]
    rw [List.take_of_length_le (by simp; omega), Array.toArray_toList]
  | cons q vs ih =>
    obtain ⟨j, v⟩ := q
    intro i cs l h hs
    obtain ⟨rfl, l1, l2, rfl, hv, h1, h2⟩ := h
    have hsz : cs.size = j * size + size + vs.length * size := by rw [hs, List.length_cons, Nat.add_mul, Nat.succ_mul]; omega
    simp only [Instr.fill, hv]
    rw [if_neg (by simp [h1]; omega)]
    have hfold := foldl_set l1 cs (j * size) 0 (by simp; omega)
    simp only [Nat.add_zero] at hfold
    have hz : l1.toArray.zipIdx.foldl (fun cs (q : Value × Nat) => cs.setIfInBounds (j * size + q.2) q.1) cs = (cs.toList.take (j * size) ++ l1 ++ cs.toList.drop (j * size + l1.length)).toArray := by
      apply Array.ext'
      rw [← Array.foldl_toList]
      simpa using hfold
    rw [show (fun (cs : Array Value) (x : Value × Nat) => match x with | (c, j_1) => cs.setIfInBounds (j * size + j_1) c) = (fun (cs : Array Value) (q : Value × Nat) => cs.setIfInBounds (j * size + q.2) q.1) from rfl, hz]
    rw [ih (j + 1) _ l2 h2 (by simp [h1]; rw [Nat.add_mul (j+1), Nat.succ_mul]; omega)]
    congr 1
    have e1 : (j + 1) * size = (cs.toList.take (j * size) ++ l1).length := by rw [List.length_append, List.length_take, h1, Nat.succ_mul]; simp; omega
    rw [e1]
    show ((List.take (cs.toList.take (j * size) ++ l1).length (cs.toList.take (j * size) ++ l1 ++ cs.toList.drop (j * size + l1.length))) ++ l2).toArray = _
    rw [List.take_left, List.append_assoc]
theorem run_buildSlice {P : Program} {t e : TypeId} {z : Value} {size bytes : Nat} {vs : List (Nat × Value)} {l : List Value} (ht : P.underlying t = some (.slice e)) (hi : TI P e z size bytes) (h0 : Nat.blt 0 (vs.length * size) = true) (hb : Nat.ble (vs.length * size) 16777216 = true)
    (ho : ordered size 0 vs l) (w : World) :
    (Instr.buildSlice t vs.length vs.toArray).run P w = .ok (.slice (some ⟨w.heap.size, 0, none⟩) vs.length vs.length) (w.alloc (.cells l.toArray e)) := by
  obtain ⟨i, hi1, hi2, hi3, _⟩ := hi
  subst hi3
  have hf : ∀ zero : Array Value, Instr.fill (fun j => some (j * i.size, i.size)) ((Array.range (vs.length * i.size)).map (zero[· % zero.size]!)) vs = some l.toArray := by
    intro zero
    rw [fill_ordered vs 0 _ l ho (by simp)]
    simp
  have h0' : ¬ (vs.length * i.size = 0) := by have := lt_of_blt h0; omega
  have hb' : ¬ (vs.length * i.size > 2 ^ 24) := by have : vs.length * i.size ≤ 16777216 := by simpa [Nat.ble_eq] using hb
                                                   omega
  have hz : (zeroValue e).run P w = .ok z w := by simp [zeroValue, typeInfo, hi1, hi2]
  have hs : (sizeOf e).run P w = .ok i.size w := by simp [sizeOf, typeInfo, hi1]
  simp only [Instr.buildSlice, Sem.run_bind, run_underlying ht, Result.andThen_ok, hs, hb', h0', if_false, hz, Sem.run_pure, hf, newRow]
  rfl
theorem run_buildSlice_nil {P : Program} {t e : TypeId} {z : Value} {size bytes : Nat} (ht : P.underlying t = some (.slice e)) (hi : TI P e z size bytes) (w : World) :
    (Instr.buildSlice t 0 ([] : List (Nat × Value)).toArray).run P w = .ok (.slice (some ⟨w.heap.size, 0, none⟩) 0 0) (w.alloc (.cells ([] : List Value).toArray e)) := by
  obtain ⟨i, hi1, hi2, hi3, _⟩ := hi
  have hs : (sizeOf e).run P w = .ok i.size w := by simp [sizeOf, typeInfo, hi1]
  simp only [Instr.buildSlice, Sem.run_bind, run_underlying ht, Result.andThen_ok, hs]
  have e0 : ∀ f : Nat → Value, Array.map f (Array.range 0) = #[] := fun f => by
    apply Array.ext'
    simp
  simp [Instr.fill, newRow, e0]
/-- The cells of parts, each of 'size' cells, in their order. -/
class Lit (size : Nat) (i : Nat) (vs : List (Nat × Value)) (l : outParam (List Value)) : Prop where
  ord : ordered size i vs l
instance Lit.nil (size i : Nat) : Lit size i [] [] := ⟨rfl⟩
instance Lit.one (i : Nat) (v : Value) (vs : List (Nat × Value)) (l : List Value) [h : Cells v [v]] [h' : Lit 1 (i + 1) vs l] : Lit 1 i ((i, v) :: vs) (v :: l) :=
  ⟨rfl, [v], l, rfl, h.eq, rfl, h'.ord⟩
theorem Lit.agg {size i : Nat} {l1 l : List Value} {vs : List (Nat × Value)} (h : l1.length = size) (h' : ordered size (i + 1) vs l) : ordered size i ((i, .agg l1.toArray) :: vs) (l1 ++ l) :=
  ⟨rfl, l1, l, rfl, rfl, h, h'⟩
/-- A slice's literal of elements of one cell. -/
theorem lst_lit {t e : TypeId} {parts : Array (Nat × Operand)} {vs : List (Nat × Value)} {l : List Value} {z : Value} {bytes len : Nat} (hd : Nat.blt d C.N = true)
    (hx : parts.toList.map (fun q => (q.1, ev fr q.2)) = vs.map (fun q => (q.1, some q.2))) (ht : C.P.underlying t = some (.slice e)) (hi : TI C.P e z 1 bytes) (hl : vs.length = len) (h0 : Nat.blt 0 (vs.length * 1) = true) (hb : Nat.ble (vs.length * 1) 16777216 = true) [ho : Lit 1 0 vs l]
    (k : ∀ b, Lst C ops Q rest ((d, .slice (some ⟨b, 0, none⟩) len len) :: fr) (.blk b (.cells l.toArray e (0, 0)) :: hp)) : Lst C ops Q (⟨some d, .buildSlice t len parts, ty, pos, after, none⟩ :: rest) fr hp := by
  subst hl
  exact lst_buildSlice hd hx (run_buildSlice ht hi h0 hb ho.ord) k
/-- .. of elements of several cells. -/
theorem lst_litN {t e : TypeId} {parts : Array (Nat × Operand)} {vs : List (Nat × Value)} (l : List Value) {z : Value} {bytes len size : Nat} (hd : Nat.blt d C.N = true)
    (hx : parts.toList.map (fun q => (q.1, ev fr q.2)) = vs.map (fun q => (q.1, some q.2))) (ht : C.P.underlying t = some (.slice e)) (hi : TI C.P e z size bytes) (hl : vs.length = len) (h0 : Nat.blt 0 (vs.length * size) = true) (hb : Nat.ble (vs.length * size) 16777216 = true) (ho : ordered size 0 vs l)
    (k : ∀ b, Lst C ops Q rest ((d, .slice (some ⟨b, 0, none⟩) len len) :: fr) (.blk b (.cells l.toArray e (0, 0)) :: hp)) : Lst C ops Q (⟨some d, .buildSlice t len parts, ty, pos, after, none⟩ :: rest) fr hp := by
  subst hl
  exact lst_buildSlice hd hx (run_buildSlice ht hi h0 hb ho) k
theorem lst_lit0 {t e : TypeId} {z : Value} {bytes size : Nat} (hd : Nat.blt d C.N = true) (ht : C.P.underlying t = some (.slice e)) (hi : TI C.P e z size bytes)
    (k : ∀ b, Lst C ops Q rest ((d, .slice (some ⟨b, 0, none⟩) 0 0) :: fr) (.blk b (.cells ([] : List Value).toArray e (0, 0)) :: hp)) : Lst C ops Q (⟨some d, .buildSlice t 0 #[], ty, pos, after, none⟩ :: rest) fr hp :=
  lst_buildSlice (vs := []) hd rfl (run_buildSlice_nil ht hi) k

/-! Panics, deferred calls. -/
theorem lst_makeInterface {x : Operand} {t : TypeId} {v : Value} {dt : TypeDesc} (hd : Nat.blt d C.N = true) (hx : ev fr x = some v) (ht : C.P.underlying t = some dt) (hn : (match dt with | .interface _ => false | _ => true) = true)
    (k : Lst C ops Q rest ((d, .iface t v) :: fr) hp) : Lst C ops Q (⟨some d, .makeInterface t x, ty, pos, after, none⟩ :: rest) fr hp := by
  refine lst_value _ hd (fun a w ha => ⟨w, ?_, ha⟩) k
  simp only [execOp, ha.eval hx, Instr.makeInterface, Sem.run_bind, run_underlying ht, Result.andThen_ok]
  cases dt <;> first | rfl | (simp at hn)
theorem At.deferred (ha : At C fr hp a w) (df : Deferred) : At { C with ds := df :: C.ds } fr hp { a with defers := df :: a.defers } w :=
  ⟨ha.size, by show df :: a.defers = df :: C.ds; rw [ha.defs], ha.slots, ha.below, ha.base, ha.own, ha.apart⟩
theorem lst_defer {x : Operand} {fn : Fn} {first cap vs : List Value} {args : Array Operand} {ts : Array TypeId} (hx : ev fr x = some (.func fn first.toArray cap.toArray)) (hargs : args.toList.map (ev fr) = vs.map some)
    (k : Lst { C with ds := { target := .fn fn cap.toArray, args := (first ++ vs).toArray } :: C.ds } ops Q rest fr hp) : Lst C ops Q (⟨none, .defer { callee := .value x, args := args, argTypes := ts }, ty, pos, after, none⟩ :: rest) fr hp := by
  intro a w ha
  refine wpList_plain rfl fun K hK => ?_
  unfold Oper.wp
  have hr : (execOp a.eval ⟨none, .defer { callee := .value x, args := args, argTypes := ts }, ty, pos, after, none⟩).run C.P w = .ok (.defer { target := .fn fn cap.toArray, args := (first ++ vs).toArray }) w := by
    simp only [execOp, resolve, ev_args ha hargs, ha.eval hx, Deferred.ofValue, Sem.run_bind, Sem.run_pure, Result.andThen_ok, List.append_toArray]
  rw [hr]
  exact hK _ _ (k _ _ (ha.deferred _))
theorem enter_defers {P : Program} {f : FuncId} {fn : Func} {c : Code} {vs : List Value} {w : World} {R : Ending → World → Prop} {N : Nat} (fr : List (Nat × Value))
    (hf : P.funcs[f]? = some fn) (hb : fn.body = some c) (hN : fn.ntmps = N) (hle : Nat.ble vs.length N = true) (hfr : idx 0 vs = fr)
    (h : Cod ⟨P, w.heap.size, w, N, []⟩ c (bodyPostD P fn R) fr []) : Calls P f vs.toArray w R := by
  refine calls_of_wp_defers hf hb (h _ _ ⟨?_, rfl, ?_, Below.refl _ _, Nat.le_refl _, (fun r hr => by cases hr), List.nodup_nil⟩)
  · have : vs.length ≤ N := by simpa [Nat.ble_eq] using hle
    simp [hN]; omega
  · intro t v ht
    rw [← hfr] at ht
    obtain ⟨j, rfl, hj⟩ := look_idx vs 0 t v ht
    have hjl : j < vs.length := by
      rcases Nat.lt_or_ge j vs.length with h1 | h1
      · exact h1
      · rw [List.getElem?_eq_none h1] at hj; cases hj
    simp only [Nat.zero_add, Array.getD_eq_getD_getElem?]
    rw [Array.getElem?_append_left (by simpa using hjl)]
    simp [hj]
/-! Results that lie in memory. -/
theorem run_asAddr {P : Program} (p : Addr) (w : World) : (asAddr (.pointer (some p))).run P w = .ok p w := rfl
/-- A struct or an array, whole. -/
theorem run_loadVar_blk (ha : At C fr hp a w) {ty ct : TypeId} {b n m : Nat} {z : Value} {l : List Value} (ht : aggB C.P ty = true) (hi : TI C.P ty z n m) [hm : InB b (.cells l.toArray ct (0, 0)) hp] (hl : l.length = n) :
    (loadVar ty ⟨b, 0, none⟩).run C.P w = .ok (.agg l.toArray) w := by
  obtain ⟨i, hi, _, hs, _⟩ := hi
  have h1 := run_loadCells_list (P := C.P) w ⟨b, 0, none⟩ l (fun j u hu => by rw [addr_add, Nat.zero_add]; exact cell_of_blk (ha.mem_blk hm.mem) hu)
  rw [hl] at h1
  simp [loadVar, run_isAgg ht (aggB_ne ht), sizeOf, typeInfo, hi, hs, h1]
theorem res_cellN {fn : Func} {u n m : Nat} {ty ct : TypeId} {z : Value} {l : List Value} {b : Nat} (h : fn.results = #[.cell u ty]) (hu : look fr u = some (.pointer (some ⟨b, 0, none⟩))) (ht : aggB C.P ty = true) (hi : TI C.P ty z n m)
    [hm : InB b (.cells l.toArray ct (0, 0)) hp] (hl : l.length = n) (ha : At C fr hp a w) : (results fn a.tmps).run C.P w = .ok (.agg l.toArray) w := by
  have h2 := ha.slots u _ hu
  have hl' := run_loadVar_blk ha ht hi hl (ct := ct) (b := b)
  simp only [results, h, Array.getD_eq_getD_getElem?] at h2 ⊢
  simp [h2, run_asAddr, hl']
theorem res_cellN_tmp {fn : Func} {u t n m : Nat} {ty ct : TypeId} {z v : Value} {l : List Value} {b : Nat} (h : fn.results = #[.cell u ty, .tmp t]) (hu : look fr u = some (.pointer (some ⟨b, 0, none⟩))) (hv : look fr t = some v) (ht : aggB C.P ty = true) (hi : TI C.P ty z n m)
    [hm : InB b (.cells l.toArray ct (0, 0)) hp] (hl : l.length = n) (ha : At C fr hp a w) : (results fn a.tmps).run C.P w = .ok (.tuple #[.agg l.toArray, v]) w := by
  have h2 := ha.slots u _ hu
  have h1 := ha.slots t _ hv
  have hl' := run_loadVar_blk ha ht hi hl (ct := ct) (b := b)
  simp only [results, h, Array.getD_eq_getD_getElem?] at h1 h2 ⊢
  simp [h1, h2, run_asAddr, hl']
theorem res_three {fn : Func} {t u s : Nat} {v v' v'' : Value} (h : fn.results = #[.tmp t, .tmp u, .tmp s]) (hv : look fr t = some v) (hu : look fr u = some v') (hs : look fr s = some v'') (ha : At C fr hp a w) : (results fn a.tmps).run C.P w = .ok (.tuple #[v, v', v'']) w := by
  have h1 := ha.slots t v hv
  have h2 := ha.slots u v' hu
  have h3 := ha.slots s v'' hs
  simp only [Array.getD_eq_getD_getElem?] at h1 h2 h3
  simp [results, h, h1, h2, h3]
/-- A block of the call's own reads as a list. -/
theorem blk_reads (ha : At C fr hp a w) {α : Type} {cells : α → List Value} {size ct b : Nat} (hs : ∀ x, (cells x).length = size) {l : List α} {cs : List Value} [hm : InB b (.cells cs.toArray ct (0, 0)) hp] (hcs : cs = l.flatMap cells) : RdL cells size w (some ⟨b, 0, none⟩) l := by
  intro _
  subst hcs
  refine ⟨b, 0, rfl, (Res.lt (ha.own _ hm.mem) b rfl).2, fun k x hk j u hu => ?_⟩
  rw [Nat.zero_add]
  exact cell_of_blk (ha.mem_blk hm.mem) (flatMap_get hs l k x hk j u hu)

/-! Regions that draw their order. -/
/-- An operation that yields a value and turns nothing, from where the walk stands. -/
def Yld (C : Ctx) (o : Oper) (fr : List (Nat × Value)) (hp : List Res) (v : Value) : Prop := o.guard = none ∧ ∀ a w, At C fr hp a w → (execOp a.eval o).run C.P w = .ok (.value v) w
section
variable {dst : Option Tmp}
theorem yld_move {x : Operand} {v : Value} (hx : ev fr x = some v) : Yld C ⟨dst, .move x, ty, pos, after, none⟩ fr hp v := ⟨rfl, fun a w ha => by simp [execOp, ha.eval hx]⟩
theorem yld_assign {x : Operand} {v : Value} (hx : ev fr x = some v) : Yld C ⟨dst, .assign x, ty, pos, after, none⟩ fr hp v := ⟨rfl, fun a w ha => by simp [execOp, ha.eval hx]⟩
theorem yld_pick_true {c x y : Operand} {v : Value} (hc : ev fr c = some (.bool true)) (hx : ev fr x = some v) : Yld C ⟨dst, .pick c x y, ty, pos, after, none⟩ fr hp v := ⟨rfl, fun a w ha => by simp [execOp, ha.eval hc, ha.eval hx, asBool]⟩
theorem yld_pick_false {c x y : Operand} {v : Value} (hc : ev fr c = some (.bool false)) (hy : ev fr y = some v) : Yld C ⟨dst, .pick c x y, ty, pos, after, none⟩ fr hp v := ⟨rfl, fun a w ha => by simp [execOp, ha.eval hc, ha.eval hy, asBool]⟩
theorem yld_not {x : Operand} {b : Bool} {t : TypeId} (hx : ev fr x = some (.bool b)) : Yld C ⟨dst, .unOp .not t x, ty, pos, after, none⟩ fr hp (.bool (!b)) := ⟨rfl, fun a w ha => by simp [execOp, ha.eval hx, Op.unary]⟩
theorem yld_extract {x : Operand} {vs : List Value} {i : Nat} {v : Value} (hx : ev fr x = some (.tuple vs.toArray)) (hv : vs[i]? = some v) : Yld C ⟨dst, .extract x i, ty, pos, after, none⟩ fr hp v := ⟨rfl, fun a w ha => by simp [execOp, ha.eval hx, Instr.extract, hv]⟩
theorem yld_nilCheck {x : Operand} {p : Addr} (hx : ev fr x = some (.pointer (some p))) : Yld C ⟨dst, .nilCheck x, ty, pos, after, none⟩ fr hp (.pointer (some p)) := ⟨rfl, fun a w ha => by simp [execOp, ha.eval hx]⟩
theorem yld_field {x : Operand} {s : TypeId} {f : Nat} {b o ft off : Nat} {z : Value} {n m : Nat} (hx : ev fr x = some (.pointer (some ⟨b, o, none⟩)))
    (hf : FI C.P s f ft off) (hi : TI C.P ft z (n + 1) m) : Yld C ⟨dst, .fieldAddr s x f, ty, pos, after, none⟩ fr hp (.pointer (some ⟨b, o + off, none⟩)) := by
  obtain ⟨fs, fd, h1, h2, h3, h4⟩ := hf
  obtain ⟨i, hi, _, hs, _⟩ := hi
  subst h3; subst h4
  exact ⟨rfl, fun a w ha => by simp [execOp, ha.eval hx, Instr.fieldAt, run_underlying h1, h2, Instr.sureAddr, fieldPlace, sizeOf, typeInfo, hi, hs, addr_add]⟩
theorem yld_field_z {x : Operand} {s : TypeId} {f : Nat} {b ft off : Nat} {z : Value} {n m : Nat} (hx : ev fr x = some (.pointer (some ⟨b, 0, none⟩)))
    (hf : FI C.P s f ft off) (hi : TI C.P ft z (n + 1) m) : Yld C ⟨dst, .fieldAddr s x f, ty, pos, after, none⟩ fr hp (.pointer (some ⟨b, off, none⟩)) := by
  have := yld_field (C := C) (hp := hp) (dst := dst) (ty := ty) (pos := pos) (after := after) hx hf hi
  rwa [Nat.zero_add] at this
theorem yld_load_at {x : Operand} {t : TypeId} {p : Addr} {v : Value} (hx : ev fr x = some (.pointer (some p))) (ht : One C.P t) (hc : ∀ a w, At C fr hp a w → w.cell? p = some v) : Yld C ⟨dst, .load t x, ty, pos, after, none⟩ fr hp v :=
  ⟨rfl, fun a w ha => by simp [execOp, ha.eval hx, Instr.loadAt, Instr.sureAddr, loadVar, run_isAgg ht.1 ht.2, hc a w ha]⟩
theorem yld_load {x : Operand} {t ct : TypeId} {b o : Nat} {cs : List Value} {v : Value} (hx : ev fr x = some (.pointer (some ⟨b, o, none⟩))) (ht : One C.P t) [hm : InB b (.cells cs.toArray ct (0, 0)) hp] [hv : Get cs o v] : Yld C ⟨dst, .load t x, ty, pos, after, none⟩ fr hp v :=
  yld_load_at hx ht (fun _ _ ha => cell_of_blk (ha.mem_blk hm.mem) hv.eq)
theorem yld_loadN_at {x : Operand} {t : TypeId} {b o : Nat} {l : List Value} {z : Value} {n m : Nat} (hx : ev fr x = some (.pointer (some ⟨b, o, none⟩))) (ht : aggB C.P t = true)
    (hi : TI C.P t z n m) (hl : l.length = n) (hc : ∀ a w, At C fr hp a w → ∀ j u, l[j]? = some u → w.cell? ⟨b, o + j, none⟩ = some u) : Yld C ⟨dst, .load t x, ty, pos, after, none⟩ fr hp (.agg l.toArray) := by
  obtain ⟨i, hi, _, hs, _⟩ := hi
  refine ⟨rfl, fun a w ha => ?_⟩
  have h1 := run_loadCells_list (P := C.P) w ⟨b, o, none⟩ l (fun j u hu => by rw [addr_add]; exact hc a w ha j u hu)
  rw [hl] at h1
  simp [execOp, ha.eval hx, Instr.loadAt, Instr.sureAddr, loadVar, run_isAgg ht (aggB_ne ht), sizeOf, typeInfo, hi, hs, h1]
theorem yld_loadN {x : Operand} {t ct : TypeId} {b o : Nat} {cs l : List Value} {z : Value} {n m : Nat} (hx : ev fr x = some (.pointer (some ⟨b, o, none⟩))) (ht : aggB C.P t = true) (hi : TI C.P t z n m)
    [hm : InB b (.cells cs.toArray ct (0, 0)) hp] [hv : Ext cs o n l] : Yld C ⟨dst, .load t x, ty, pos, after, none⟩ fr hp (.agg l.toArray) := by
  have hlen := hv.len
  have heq := hv.eq
  refine yld_loadN_at hx ht hi ?_ (fun _ _ ha j u hu => cell_of_blk (ha.mem_blk hm.mem) ?_)
  · rw [heq, List.length_take, List.length_drop]; omega
  · rw [heq, List.getElem?_take] at hu
    split at hu
    · rw [List.getElem?_drop] at hu; exact hu
    · cases hu
theorem yld_index_arr {x y : Operand} {t e : TypeId} {b o j len n m : Nat} {kd : IntKind} {i : Int} {z : Value} (hx : ev fr x = some (.pointer (some ⟨b, o, none⟩))) (hy : ev fr y = some (.int kd i))
    (ht : C.P.underlying t = some (.array len e)) (he : TI C.P e z n m) (hi : i = (j : Int)) (hj : j < len) : Yld C ⟨dst, .indexAddr t x y, ty, pos, after, none⟩ fr hp (.pointer (some ⟨b, o + j * n, none⟩)) := by
  obtain ⟨i', hi', _, hs, _⟩ := he
  subst hi
  exact ⟨rfl, fun a w ha => by simp [execOp, ha.eval hx, ha.eval hy, Instr.indexAt, asIntOf, run_underlying ht, Instr.sureAddr, hj, sizeOf, typeInfo, hi', hs, addr_add]⟩
theorem yld_index {x y : Operand} {t e : TypeId} {b o j len cap n m : Nat} {kd : IntKind} {i : Int} {z : Value} (hx : ev fr x = some (.slice (some ⟨b, o, none⟩) len cap)) (hy : ev fr y = some (.int kd i))
    (ht : C.P.underlying t = some (.slice e)) (he : TI C.P e z n m) (hi : i = (j : Int)) (hj : j < len) : Yld C ⟨dst, .indexAddr t x y, ty, pos, after, none⟩ fr hp (.pointer (some ⟨b, o + j * n, none⟩)) := by
  obtain ⟨i', hi', _, hs, _⟩ := he
  subst hi
  exact ⟨rfl, fun a w ha => by simp [execOp, ha.eval hx, ha.eval hy, Instr.indexAt, asIntOf, run_underlying ht, hj, sizeOf, typeInfo, hi', hs, addr_add]⟩
theorem yld_int {op : BinOp} {x y : Operand} {t t' : TypeId} {kd : IntKind} {m n : Int} {v : Value} (hx : ev fr x = some (.int kd m)) (hy : ev fr y = some (.int kd n))
    (hr : ∀ w : World, (binOp op t (.int kd m) (.int kd n)).run C.P w = .ok v w) : Yld C ⟨dst, .binOp op t x y t', ty, pos, after, none⟩ fr hp v := by
  refine ⟨rfl, fun a w ha => ?_⟩
  have hg : ∀ w : World, (eqGuard op t x y (.int kd m) (.int kd n)).run C.P w = .ok () w := by
    intro w
    unfold eqGuard
    cases op <;> simp
  simp [execOp, ha.eval hx, ha.eval hy, hg, hr]
theorem yld_len {x : Operand} {t e : TypeId} {p : Option Addr} {n c : Nat} (hx : ev fr x = some (.slice p n c)) (ht : C.P.underlying t = some (.slice e)) :
    Yld C ⟨dst, .call { callee := .builtin .len, args := #[x], argTypes := #[t] }, ty, pos, after, none⟩ fr hp (.int .i64 (n : Int)) := by
  refine ⟨rfl, fun a w ha => ?_⟩
  have := run_len_slice (P := C.P) (ty := ty) (p := p) (n := n) (c := c) ht
  simp only [execOp, resolve, ha.eval hx, Sem.run_bind, Sem.run_pure, Result.andThen_ok, invoke, List.map_toArray, List.map_cons, List.map_nil]
  exact this _ w
end

/-- What a region holds of the world: these things, and all old memory. -/
def Mem (C : Ctx) (hp : List Res) (w : World) : Prop := Below C.B C.w0 w ∧ C.B ≤ w.heap.size ∧ (∀ r, r ∈ hp → r.ok C.B w) ∧ (hp.filterMap Res.id).Nodup
theorem At.toMem (ha : At C fr hp a w) {hpS : List Res} (hs : hpS.Sublist hp) : Mem C hpS w := ⟨ha.below, ha.base, fun r hr => ha.own r (hs.subset hr), ha.apart.sublist (hs.filterMap _)⟩
theorem At.ofMem (ha : At C fr hp a w) {hpS : List Res} {w' : World} (h : Mem C hpS w') : At C fr hpS a w' := ⟨ha.size, ha.defs, ha.slots, h.1, h.2.1, h.2.2.1, h.2.2.2⟩
/-- The ways out of a region that does not panic. -/
def OnlyN (Q : Exit → Act → World → Prop) : Exit → Act → World → Prop
  | .normal, a, w => Q .normal a w
  | _, _, _ => False
/-- A region, in whatever order, from where the walk stands. -/
def Any (C : Ctx) (ops : Array Oper) (Q : Exit → Act → World → Prop) (hpS : List Res) (fuel : Nat) (listed : Array Bool) (fr : List (Nat × Value)) (hp : List Res) : Prop :=
  ∀ a w, At C fr hp a w → wpAnyH C.P .any ops (OnlyN Q) (Mem C hpS) fuel listed a w
theorem At.drew (ha : At C fr hp a w) : At C fr hp a { w with drawn := w.drawn + 1 } :=
  ⟨ha.size, ha.defs, ha.slots, ⟨ha.below.os, ha.below.tape, ha.below.output, ha.below.size, ha.below.block⟩, ha.base, fun r hr => Res.keep (w := w) (ha.own r hr) (fun _ _ => rfl), ha.apart⟩
variable {hpS : List Res} {fuel : Nat} {listed listed' : Array Bool}
theorem any_start {id : Nat} {l : List Oper} (hm : C.P.follows .mixedOrders = true) (n : Nat) (hn : l.length = n) (lst : List Bool) (hl : Array.replicate n false = lst.toArray) (_hs : hpS.Sublist hp) (h : Any C l.toArray Q hpS n lst.toArray fr hp) :
    Cod C (.region id l.toArray true) Q fr hp := by
  intro a w ha
  refine wp_mono (Q := OnlyN Q) (wp_region_held (S := Mem C hpS) hm ?_) ?_
  · have h1 := h a _ ha.drew
    rw [← hl] at h1
    simpa [hn] using h1
  · intro e a' w' he
    cases e with
    | normal => exact he
    | _ => exact he.elim
theorem any_done {rs : List Nat} (hr : Region.ready .any ops listed = rs) (h0 : rs = []) (h : Ex C Q .normal fr hp) : Any C ops Q hpS fuel listed fr hp :=
  fun a w ha => wpAnyH_done (hr.trans h0) (show OnlyN Q .normal a w from h a w ha) fuel
theorem any_take {o : Oper} {v : Value} (i : Nat) (hi : ops[i]? = some o) (hdst : o.dst = some d) (hd : Nat.blt d C.N = true) (hns : Region.noSelect ops = true) (hf : Region.free .any ops listed i = true) (hr : (Region.ready .any ops listed).contains i = true)
    (hs : hpS.Sublist hp) (y : Yld C o fr hpS v) (hl : listed.setIfInBounds i true = listed') (k : Any C ops Q hpS fuel listed' ((d, v) :: fr) hp) : Any C ops Q hpS (fuel + 1) listed fr hp := by
  intro a w ha
  refine wpAnyH_take hi hns hf hr (fun c a w h => h.elim) (.inl ⟨?_, fun w' hw' => y.2 a w' (ha.ofMem hw')⟩) (ha.toMem hs) ?_
  · unfold Region.wanted; rw [y.1]
  · rw [hl, hdst]
    exact k _ _ (ha.put (lt_of_blt hd) v)
/-- .. an operation under a guard that says yes. -/
theorem any_take_on {dst : Option Tmp} {op : Op} {v : Value} {j t : Nat} {b : Bool} (i : Nat) (hi : ops[i]? = some ⟨dst, op, ty, pos, after, some (j, b)⟩) (hj : (ops[j]?).bind (·.dst) = some t) (hv : look fr t = some (.bool b)) (hdst : dst = some d) (hd : Nat.blt d C.N = true) (hns : Region.noSelect ops = true)
    (hf : Region.free .any ops listed i = true) (hr : (Region.ready .any ops listed).contains i = true) (hs : hpS.Sublist hp) (y : Yld C ⟨dst, op, ty, pos, after, none⟩ fr hpS v) (hl : listed.setIfInBounds i true = listed') (k : Any C ops Q hpS fuel listed' ((d, v) :: fr) hp) : Any C ops Q hpS (fuel + 1) listed fr hp := by
  intro a w ha
  refine wpAnyH_take hi hns hf hr (fun c a w h => h.elim) (.inl ⟨?_, fun w' hw' => y.2 a w' (ha.ofMem hw')⟩) (ha.toMem hs) ?_
  · simp [Region.wanted, yields_of ha hj hv]
  · rw [hl]
    show wpAnyH _ _ _ _ _ _ _ (a.put dst v) w
    rw [hdst]
    exact k _ _ (ha.put (lt_of_blt hd) v)
/-- .. under a guard that says no. -/
theorem any_take_off {dst : Option Tmp} {op : Op} {j t : Nat} {b : Bool} (i : Nat) (hi : ops[i]? = some ⟨dst, op, ty, pos, after, some (j, b)⟩) (hj : (ops[j]?).bind (·.dst) = some t) (hv : look fr t = some (.bool (!b))) (hdst : dst = some d) (hd : Nat.blt d C.N = true) (hns : Region.noSelect ops = true)
    (hf : Region.free .any ops listed i = true) (hr : (Region.ready .any ops listed).contains i = true) (hs : hpS.Sublist hp) (hl : listed.setIfInBounds i true = listed') (k : Any C ops Q hpS fuel listed' ((d, undef) :: fr) hp) : Any C ops Q hpS (fuel + 1) listed fr hp := by
  intro a w ha
  refine wpAnyH_take (v := undef) hi hns hf hr (fun c a w h => h.elim) (.inr ⟨?_, rfl⟩) (ha.toMem hs) ?_
  · cases b <;> simp [Region.wanted, yields_of ha hj hv]
  · rw [hl]
    show wpAnyH _ _ _ _ _ _ _ (a.put dst undef) w
    rw [hdst]
    exact k _ _ (ha.put (lt_of_blt hd) undef)
/-- What is asked behind an operation that is carried out. -/
def Nxt (C : Ctx) (ops : Array Oper) (Q : Exit → Act → World → Prop) (hpS : List Res) (fuel : Nat) (listed : Array Bool) (a : Act) (w : World) : Prop :=
  Mem C hpS w ∧ wpAnyH C.P .any ops (OnlyN Q) (Mem C hpS) fuel listed a w
theorem op_of_lst {i : Nat} {o : Oper} (hi : ops[i]? = some o) {K : Act → World → Prop} (h : Lst C ops (Exit.then K (OnlyN Q)) [o] fr hp) (ha : At C fr hp a w) : wpOp C.P ops (OnlyN Q) i K a w := by
  have h := h a w ha
  unfold wpOp
  simp only [hi]
  simp only [wpList] at h
  split at h
  · rename_i hw
    rw [if_pos hw]
    rcases h with h | ⟨h1, h2⟩
    · refine .inl ?_
      unfold Oper.wp at h ⊢
      generalize (execOp a.eval o).run C.P w = r at *
      cases r with
      | ok n w' =>
        cases n <;> simp only [Oper.upon] at h ⊢ <;> first
          | exact h
          | exact Calls.mono h (fun e w'' he => by cases e <;> exact he)
          | exact Rows.mono h (fun _ _ he => he)
      | halt x w' => cases x <;> simp only [Oper.upon] at h ⊢ <;> exact h
    · exact .inr ⟨h1, h2⟩
  · rename_i hw
    rw [if_neg hw]
    exact h
theorem any_one {o : Oper} (i : Nat) (hr : Region.ready .any ops listed = [i]) (hi : ops[i]? = some o) (hl : listed.setIfInBounds i true = listed') (h : Lst C ops (Exit.then (Nxt C ops Q hpS fuel listed') (OnlyN Q)) [o] fr hp) : Any C ops Q hpS (fuel + 1) listed fr hp := by
  intro a w ha
  refine wpAnyH_all hr (by simp) ?_
  intro k hk
  simp at hk
  subst hk
  rw [hl]
  exact op_of_lst hi h ha
theorem any_two {o o' : Oper} {l1 l2 : Array Bool} (i j : Nat) (hr : Region.ready .any ops listed = [i, j]) (hi : ops[i]? = some o) (hj : ops[j]? = some o') (hl : listed.setIfInBounds i true = l1) (hl' : listed.setIfInBounds j true = l2)
    (h : Lst C ops (Exit.then (Nxt C ops Q hpS fuel l1) (OnlyN Q)) [o] fr hp) (h' : Lst C ops (Exit.then (Nxt C ops Q hpS fuel l2) (OnlyN Q)) [o'] fr hp) : Any C ops Q hpS (fuel + 1) listed fr hp := by
  intro a w ha
  refine wpAnyH_all hr (by simp) ?_
  intro k hk
  simp at hk
  rcases hk with rfl | rfl
  · rw [hl]; exact op_of_lst hi h ha
  · rw [hl']; exact op_of_lst hj h' ha
theorem any_three {o o' o'' : Oper} {l1 l2 l3 : Array Bool} (i j m : Nat) (hr : Region.ready .any ops listed = [i, j, m]) (hi : ops[i]? = some o) (hj : ops[j]? = some o') (hm : ops[m]? = some o'') (hl : listed.setIfInBounds i true = l1) (hl' : listed.setIfInBounds j true = l2) (hl'' : listed.setIfInBounds m true = l3)
    (h : Lst C ops (Exit.then (Nxt C ops Q hpS fuel l1) (OnlyN Q)) [o] fr hp) (h' : Lst C ops (Exit.then (Nxt C ops Q hpS fuel l2) (OnlyN Q)) [o'] fr hp) (h'' : Lst C ops (Exit.then (Nxt C ops Q hpS fuel l3) (OnlyN Q)) [o''] fr hp) : Any C ops Q hpS (fuel + 1) listed fr hp := by
  intro a w ha
  refine wpAnyH_all hr (by simp) ?_
  intro k hk
  simp at hk
  rcases hk with rfl | rfl | rfl
  · rw [hl]; exact op_of_lst hi h ha
  · rw [hl']; exact op_of_lst hj h' ha
  · rw [hl'']; exact op_of_lst hm h'' ha
theorem any_next (hs : hpS.Sublist hp) (h : Any C ops Q hpS fuel listed fr hp) : Ex C (Exit.then (Nxt C ops Q hpS fuel listed) (OnlyN Q)) .normal fr hp :=
  fun a w ha => ⟨ha.toMem hs, h a w ha⟩
end
end Go.Proofs.YthkbagikmbcphaaDoor.N
namespace Go.Proofs.YthkbagikmbcphaaDoor.N
open Go Go.RowKit Go.Proofs

/-! Scopes. -/
section
variable {C : Ctx} {fr : List (Nat × Value)} {hp hp' : List Res} {a : Act} {w : World} {ops : Array Oper} {Q : Exit → Act → World → Prop} {rest : List Oper}
  {d : Nat} {ty : TypeId} {pos : String} {after : Array Edge}
/-- What holds behind a pass from a label: one of the states of the ghosts. -/
def Gho {G : Type} (C : Ctx) (p : G → Prop) (f : G → List (Nat × Value)) (h : G → List Res) (a : Act) (w : World) : Prop := ∃ g, p g ∧ At C (f g) (h g) a w
/-- A list with one thing taken out. -/
inductive Rem (r : Res) : List Res → List Res → Prop
  | here (l : List Res) : Rem r (r :: l) l
  | there (x : Res) {l l' : List Res} (h : Rem r l l') : Rem r (x :: l) (x :: l')
theorem Rem.perm {r : Res} {l l' : List Res} (h : Rem r l l') : l.Perm (r :: l') := by
  induction h with
  | here l => exact .refl _
  | there x _ ih => exact (ih.cons x).trans (.swap r x _)
/-- Some of a list's things, in whatever order. -/
inductive Pck : List Res → List Res → Prop
  | nil (l : List Res) : Pck [] l
  | refl (l : List Res) : Pck l l
  | cons {r : Res} {t l l' : List Res} (h : Rem r l l') (h' : Pck t l') : Pck (r :: t) l
  | perm {t l l' : List Res} (h : l.Perm l') (h' : Pck t l') : Pck t l
  | skip {t l : List Res} (x : Res) (h : Pck t l) : Pck t (x :: l)
theorem Pck.sub {t l : List Res} (h : Pck t l) : ∃ l', l.Perm l' ∧ t.Sublist l' := by
  induction h with
  | nil l => exact ⟨l, .refl _, List.nil_sublist _⟩
  | refl l => exact ⟨l, .refl _, List.Sublist.refl _⟩
  | @cons r t l l' h _ ih =>
    obtain ⟨l2, h1, h2⟩ := ih
    exact ⟨r :: l2, h.perm.trans (h1.cons r), h2.cons_cons r⟩
  | perm h _ ih =>
    obtain ⟨l2, h1, h2⟩ := ih
    exact ⟨l2, h.trans h1, h2⟩
  | skip x _ ih =>
    obtain ⟨l2, h1, h2⟩ := ih
    exact ⟨x :: l2, h1.cons x, h2.cons x⟩
theorem At.permed (ha : At C fr hp a w) (h : hp.Perm hp') : At C fr hp' a w :=
  ⟨ha.size, ha.defs, ha.slots, ha.below, ha.base, fun r hr => ha.own r (h.mem_iff.2 hr), (h.filterMap _).nodup_iff.1 ha.apart⟩
theorem At.pck (ha : At C fr hp a w) (h : Pck hp' hp) : At C fr hp' a w := by
  obtain ⟨l, h1, h2⟩ := h.sub
  exact (ha.permed h1).drop_res h2
theorem cod_ghost {c : Code} {G : Type} (p : G → Prop) (f : G → List (Nat × Value)) (h : G → List Res) (h1 : Cod C c (Exit.then (Gho C p f h) Q) fr hp) (h2 : ∀ g, p g → Ex C Q .normal (f g) (h g)) : Cod C c Q fr hp := by
  intro a w ha
  refine wp_mono (h1 a w ha) ?_
  intro e a' w' he
  cases e with
  | normal => obtain ⟨g, hg, ha'⟩ := he; exact h2 g hg _ _ ha'
  | _ => exact he
theorem ex_ghost {G : Type} {p : G → Prop} {f : G → List (Nat × Value)} {h : G → List Res} (g : G) (hg : p g) (hs : Sub (f g) fr) (hh : Pck (h g) hp) : Ex C (Exit.then (Gho C p f h) Q) .normal fr hp :=
  fun _ _ ha => ⟨g, hg, (ha.drop_slots hs).pck hh⟩
theorem ex_round' {G : Type} {p : G → Prop} {μ : G → Nat} {g : G} {f : G → List (Nat × Value)} {h : G → List Res} (g' : G) (h0 : p g') (hm : μ g' < μ g) (hs : Sub (f g') fr) (hh : Pck (h g') hp) :
    Ex C (Exit.then (Rnd C p μ f h g) Q) .normal fr hp := fun _ _ ha => ⟨g', h0, hm, (ha.drop_slots hs).pck hh⟩
theorem cod_loop' {G : Type} {c : Code} (p : G → Prop) (μ : G → Nat) (f : G → List (Nat × Value)) (h : G → List Res) (g0 : G) (h0 : p g0) (hs : Sub (f g0) fr) (hh : Pck (h g0) hp)
    (round : ∀ g, p g → Cod C c (Exit.then (Rnd C p μ f h g) Q) (f g) (h g)) : Cod C (.loop c) Q fr hp := fun a w ha =>
  cod_loop p μ f h g0 h0 hs (List.Sublist.refl _) round a w (ha.pck hh)
/-! A call that turns what its caller owns. -/
theorem enter_in {f : FuncId} {fn : Func} {c : Code} {vs : List Value} {fr0 : List (Nat × Value)} {a0 : Act} {R : Ending → World → Prop} {N : Nat} (fr : List (Nat × Value)) (ha : At C fr0 hp a0 w)
    (hf : C.P.funcs[f]? = some fn) (hb : fn.body = some c) (hN : fn.ntmps = N) (hle : Nat.ble vs.length N = true) (hfr : idx 0 vs = fr)
    (h : Cod ⟨C.P, C.B, C.w0, N, []⟩ c (bodyPost C.P fn R) fr hp) : Calls C.P f vs.toArray w R := by
  refine calls_of_wp hf hb (h _ _ ⟨?_, rfl, ?_, ha.below, ha.base, ha.own, ha.apart⟩)
  · have : vs.length ≤ N := by simpa [Nat.ble_eq] using hle
    simp [hN]; omega
  · intro t v ht
    rw [← hfr] at ht
    obtain ⟨j, rfl, hj⟩ := look_idx vs 0 t v ht
    have hjl : j < vs.length := by
      rcases Nat.lt_or_ge j vs.length with h1 | h1
      · exact h1
      · rw [List.getElem?_eq_none h1] at hj; cases hj
    simp only [Nat.zero_add, Array.getD_eq_getD_getElem?]
    rw [Array.getElem?_append_left (by simpa using hjl)]
    simp [hj]
theorem At.back {N' : Nat} {ds' : List Deferred} {fr0 : List (Nat × Value)} {hp0 : List Res} {a0 : Act} {w0 : World} (h0 : At C fr0 hp0 a0 w0) (h : At ⟨C.P, C.B, C.w0, N', ds'⟩ fr hp a w) : At C fr0 hp a0 w :=
  ⟨h0.size, h0.defs, h0.slots, h.below, h.base, h.own, h.apart⟩

/-! Queues. -/
/-- A queue, found by its slice's address. -/
class InQ (A : Option Addr) (e size n c : outParam Nat) (xs : outParam (List Value)) (hp : List Res) : Prop where
  mem : Res.que e size A n c xs ∈ hp
instance InQ.tail (A : Option Addr) (e size n c : Nat) (xs : List Value) (x : Res) (l : List Res) [h : InQ A e size n c xs l] : InQ A e size n c xs (x :: l) := ⟨List.mem_cons.2 (.inr h.mem)⟩
instance InQ.head (A : Option Addr) (e size n c : Nat) (xs : List Value) (l : List Res) : InQ A e size n c xs (.que e size A n c xs :: l) := ⟨List.mem_cons.2 (.inl rfl)⟩
class UpQ (A : Option Addr) (e size n c : outParam Nat) (xs : outParam (List Value)) (r' : Res) (hp : List Res) (hp' : outParam (List Res)) : Prop where
  upd : Upd (.que e size A n c xs) r' hp hp'
instance UpQ.tail (A : Option Addr) (e size n c : Nat) (xs : List Value) (r' x : Res) (l l' : List Res) [h : UpQ A e size n c xs r' l l'] : UpQ A e size n c xs r' (x :: l) (x :: l') := ⟨.tail x h.upd⟩
instance UpQ.head (A : Option Addr) (e size n c : Nat) (xs : List Value) (r' : Res) (l : List Res) : UpQ A e size n c xs r' (.que e size A n c xs :: l) (r' :: l) := ⟨.head l⟩
/-- The first h elements of an array. -/
theorem lst_slice_arr {x y : Operand} {t e : TypeId} {len h : Nat} {p : Addr} {kd : IntKind} {size bytes : Nat} {z : Value} (hd : Nat.blt d C.N = true) (hx : ev fr x = some (.pointer (some p))) (hy : ev fr y = some (.int kd (h : Int)))
    (ht : C.P.underlying t = some (.array len e)) (hi : TI C.P e z size bytes) (hh : h ≤ len) (k : Lst C ops Q rest ((d, .slice (some p) h len) :: fr) hp) : Lst C ops Q (⟨some d, .slice t x none (some y) none, ty, pos, after, none⟩ :: rest) fr hp := by
  obtain ⟨i, hi1, _⟩ := hi
  have h2 : ((h : Int) ≤ (len : Int)) := by omega
  have hp0 : p.add 0 = p := by unfold Addr.add; split <;> simp_all
  exact lst_value _ hd (fun a w ha => ⟨w, by
    have hs : (sizeOf e).run C.P w = .ok i.size w := by simp [sizeOf, typeInfo, hi1]
    simp only [execOp, Option.map, ha.eval hx, ha.eval hy, Instr.sliceAt, run_underlying ht, Sem.run_bind, Result.andThen_ok, Instr.sliceBounds, Instr.sliceBound, asIntOf, Sem.run_pure, Instr.sureAddr]
    simp [h2, hs, hp0], ha⟩) k
end
end Go.Proofs.YthkbagikmbcphaaDoor.N
namespace Go.Proofs.YthkbagikmbcphaaDoor.N
open Go Go.RowKit Go.Proofs

/-- Where the parts of a struct or an array lie, and how many cells each has. -/
def Places (P : Program) (t : TypeId) (pl : List (Nat × Nat)) : Prop :=
  (∃ fs, P.underlying t = some (.struct fs) ∧ fs.toList.mapM (fun f => (P.info? f.type).map fun i => (f.offset, i.size)) = some pl) ∨
  (∃ n e s, P.underlying t = some (.array n e) ∧ (P.info? e).map (·.size) = some s ∧ pl = (List.range n).map (fun j => (j * s, s)))
inductive Filled (pl : List (Nat × Nat)) : List Value → List (Nat × Value) → List Value → Prop
  | nil (z : List Value) : Filled pl z [] z
  | cons {i off : Nat} {v : Value} {z lv l : List Value} {ps : List (Nat × Value)} [h : Cells v lv] (hp : pl[i]? = some (off, lv.length)) (hb : Nat.ble (off + lv.length) z.length = true)
      (h' : Filled pl (z.take off ++ lv ++ z.drop (off + lv.length)) ps l) : Filled pl z ((i, v) :: ps) l
theorem fill_filled {pl : List (Nat × Nat)} {place : Nat → Option (Nat × Nat)} (hpl : ∀ i q, pl[i]? = some q → place i = some q) {z l : List Value} {ps : List (Nat × Value)} (h : Filled pl z ps l) : Instr.fill place z.toArray ps = some l.toArray := by
  induction h with
  | nil z => rfl
  | @cons i off v z lv l ps hc hp hb _ ih =>
    have hb' : off + lv.length ≤ z.length := by simpa [Nat.ble_eq] using hb
    unfold Instr.fill
    rw [hpl _ _ hp]
    simp only [hc.eq]
    rw [if_neg (by simp; omega)]
    have hfold := foldl_set lv z.toArray off 0 (by simp; omega)
    simp only [Nat.add_zero] at hfold
    have hz : lv.toArray.zipIdx.foldl (fun cs (q : Value × Nat) => cs.setIfInBounds (off + q.2) q.1) z.toArray = (z.take off ++ lv ++ z.drop (off + lv.length)).toArray := by
      apply Array.ext'
      rw [← Array.foldl_toList]
      simpa using hfold
    rw [show (fun (cs : Array Value) (x : Value × Nat) => match x with | (c, j) => cs.setIfInBounds (off + j) c) = (fun (cs : Array Value) (q : Value × Nat) => cs.setIfInBounds (off + q.2) q.1) from rfl, hz]
    exact ih
theorem run_built {P : Program} {t : TypeId} {z l : List Value} {n m : Nat} {pl : List (Nat × Nat)} {ps : List (Nat × Value)} (hi : TI P t (.agg z.toArray) n m) (hpl : Places P t pl) (h : Filled pl z ps l) (w : World) :
    (Instr.build t ps.toArray).run P w = .ok (.agg l.toArray) w := by
  obtain ⟨i, hi, hz, _⟩ := hi
  refine run_build w t _ _ ?_
  unfold Program.built
  rcases hpl with ⟨fs, hu, hfs⟩ | ⟨k, e, s, hu, hs, rfl⟩
  · have hf := fill_filled (place := fun i => pl.toArray[i]?) (fun i q hq => by simpa using hq) h
    simp only [hi, hu, hz, hfs]
    exact hf
  · obtain ⟨j, hj, hjs⟩ := Option.map_eq_some_iff.1 hs
    have hf := fill_filled (place := fun i => some (i * s, s)) (fun i q hq => by
      rw [List.getElem?_map] at hq
      obtain ⟨a, ha, hq⟩ := Option.map_eq_some_iff.1 hq
      have hai : a = i := by
        rcases Nat.lt_or_ge i k with h1 | h1
        · rw [List.getElem?_range h1] at ha; exact (Option.some.inj ha).symm
        · rw [List.getElem?_eq_none (by simpa using h1)] at ha; cases ha
      rw [← hq, hai]) h
    simp only [hi, hu, hz, hj, hjs]
    exact hf
section
variable {C : Ctx} {fr : List (Nat × Value)} {hp hp' : List Res} {a : Act} {w : World} {ops : Array Oper} {Q : Exit → Act → World → Prop} {rest : List Oper}
  {d : Nat} {ty : TypeId} {pos : String} {after : Array Edge}
/-- A struct's or an array's literal. -/
theorem lst_struct {t : TypeId} {parts : Array (Nat × Operand)} {vs : List (Nat × Value)} {z l l' : List Value} {n m : Nat} {pl : List (Nat × Nat)} (hd : Nat.blt d C.N = true)
    (hx : parts.toList.map (fun q => (q.1, ev fr q.2)) = vs.map (fun q => (q.1, some q.2))) (hi : TI C.P t (.agg z.toArray) n m) (hpl : Places C.P t pl) (h : Filled pl z vs l) (hl : l = l')
    (k : Lst C ops Q rest ((d, .agg l'.toArray) :: fr) hp) : Lst C ops Q (⟨some d, .build t parts, ty, pos, after, none⟩ :: rest) fr hp := by
  subst hl
  exact lst_build hd hx (run_built hi hpl h) k
theorem yld_struct {dst : Option Tmp} {t : TypeId} {parts : Array (Nat × Operand)} {vs : List (Nat × Value)} {z l l' : List Value} {n m : Nat} {pl : List (Nat × Nat)}
    (hx : parts.toList.map (fun q => (q.1, ev fr q.2)) = vs.map (fun q => (q.1, some q.2))) (hi : TI C.P t (.agg z.toArray) n m) (hpl : Places C.P t pl) (h : Filled pl z vs l) (hl : l = l') :
    Yld C ⟨dst, .build t parts, ty, pos, after, none⟩ fr hp (.agg l'.toArray) := by
  subst hl
  refine ⟨rfl, fun a w ha => ?_⟩
  have h' : parts.map (fun (i, x) => (i, a.eval x)) = vs.toArray := by
    have : ∀ (l : List (Nat × Operand)) (vs : List (Nat × Value)), l.map (fun q => (q.1, ev fr q.2)) = vs.map (fun q => (q.1, some q.2)) → l.map (fun (q : Nat × Operand) => (q.1, a.eval q.2)) = vs := by
      intro l
      induction l with
      | nil => intro vs h; cases vs with
        | nil => rfl
        | cons => simp at h
      | cons x l ih =>
        intro vs h
        cases vs with
        | nil => simp at h
        | cons v vs =>
          simp only [List.map_cons, List.cons.injEq, Prod.mk.injEq] at h
          rw [List.map_cons, ha.eval h.1.2, ih vs h.2, h.1.1]
    obtain ⟨l⟩ := parts
    simp only [List.map_toArray]
    rw [show (fun (x : Nat × Operand) => match x with | (i, x) => (i, a.eval x)) = (fun (q : Nat × Operand) => (q.1, a.eval q.2)) from rfl, this l vs hx]
  simp only [execOp, h', Sem.run_bind, run_built hi hpl h, Result.andThen_ok, Sem.run_pure]
theorem lst_index_lit {x y : Operand} {t e : TypeId} {b o j len n m off : Nat} {kd : IntKind} {z : Value} (hd : Nat.blt d C.N = true) (hx : ev fr x = some (.pointer (some ⟨b, o, none⟩))) (hy : ev fr y = some (.int kd (j : Int)))
    (ht : C.P.underlying t = some (.array len e)) (he : TI C.P e z n m) (hj : Nat.blt j len = true) (ho : o + j * n = off) (k : Lst C ops Q rest ((d, .pointer (some ⟨b, off, none⟩)) :: fr) hp) : Lst C ops Q (⟨some d, .indexAddr t x y, ty, pos, after, none⟩ :: rest) fr hp := by
  subst ho
  exact lst_index_arr hd hx hy ht he rfl (lt_of_blt hj) k
theorem yld_index_lit {dst : Option Tmp} {x y : Operand} {t e : TypeId} {b o j len n m off : Nat} {kd : IntKind} {z : Value} (hx : ev fr x = some (.pointer (some ⟨b, o, none⟩))) (hy : ev fr y = some (.int kd (j : Int)))
    (ht : C.P.underlying t = some (.array len e)) (he : TI C.P e z n m) (hj : Nat.blt j len = true) (ho : o + j * n = off) : Yld C ⟨dst, .indexAddr t x y, ty, pos, after, none⟩ fr hp (.pointer (some ⟨b, off, none⟩)) := by
  subst ho
  exact yld_index_arr hx hy ht he rfl (lt_of_blt hj)
theorem yld_shl {dst : Option Tmp} {x y : Operand} {t t' : TypeId} {kd ke : IntKind} {m n r : Int} (hx : ev fr x = some (.int kd m)) (hy : ev fr y = some (.int ke n)) (h0 : 0 ≤ n)
    (hr : kd.wrap (m * 2 ^ (min n.toNat kd.bits)) = r) : Yld C ⟨dst, .binOp .shl t x y t', ty, pos, after, none⟩ fr hp (.int kd r) := by
  refine ⟨rfl, fun a w ha => ?_⟩
  subst hr
  simp [execOp, ha.eval hx, ha.eval hy, eqGuard, binOp, Op.shift, Int.not_lt.2 h0]
/-- What is left when some things are taken out. -/
inductive Dk
  | b (n : Nat)
  | q (A : Option Addr)
  | r (A : Option Addr)
class Drp (bs : List Dk) (hp : List Res) (hp' : outParam (List Res)) : Prop where
  sub : hp'.Sublist hp
instance Drp.nil (hp : List Res) : Drp [] hp hp := ⟨List.Sublist.refl _⟩
class Drp1 (b : Dk) (hp : List Res) (hp' : outParam (List Res)) : Prop where
  sub : hp'.Sublist hp
instance Drp1.tail (b : Dk) (x : Res) (l l' : List Res) [h : Drp1 b l l'] : Drp1 b (x :: l) (x :: l') := ⟨h.sub.cons_cons x⟩
instance Drp1.b (b : Nat) (o : Obj) (l : List Res) : Drp1 (.b b) (.blk b o :: l) l := ⟨List.Sublist.cons _ (List.Sublist.refl _)⟩
instance Drp1.q (A : Option Addr) (e size n c : Nat) (xs : List Value) (l : List Res) : Drp1 (.q A) (.que e size A n c xs :: l) l := ⟨List.Sublist.cons _ (List.Sublist.refl _)⟩
instance Drp1.r (A : Option Addr) (e size n c : Nat) (xs : List Value) (l : List Res) : Drp1 (.r A) (.row e size A n c xs :: l) l := ⟨List.Sublist.cons _ (List.Sublist.refl _)⟩
instance Drp.cons (b : Dk) (bs : List Dk) (l l' l'' : List Res) [h : Drp1 b l l'] [h' : Drp bs l' l''] : Drp (b :: bs) l l'' := ⟨h'.sub.trans h.sub⟩
theorem any_begin {id : Nat} {l : List Oper} {hpS : List Res} (bs : List Dk) (hm : C.P.follows .mixedOrders = true) (n : Nat) (hn : l.length = n) (lst : List Bool) (hl : Array.replicate n false = lst.toArray) [hs : Drp bs hp hpS] (h : Any C l.toArray Q hpS n lst.toArray fr hp) :
    Cod C (.region id l.toArray true) Q fr hp := any_start hm n hn lst hl hs.sub h
end
end Go.Proofs.YthkbagikmbcphaaDoor.N
namespace Go.Proofs.YthkbagikmbcphaaDoor.N
/-- The code of a word over n letters: the shorter words first, those of one length in lexicographic order. -/
def code (n : Nat) (w : List Nat) : Nat := w.foldl (fun c i => c * n + i + 1) 0
theorem code_nil (n : Nat) : code n [] = 0 := rfl
theorem code_snoc (n : Nat) (w : List Nat) (i : Nat) : code n (w ++ [i]) = code n w * n + i + 1 := by
  simp [code, List.foldl_append]
/-- All letters are below n. -/
def Wd (n : Nat) (w : List Nat) : Prop := ∀ i ∈ w, i < n
theorem Wd.snoc {n : Nat} {w : List Nat} {i : Nat} : Wd n (w ++ [i]) ↔ Wd n w ∧ i < n := by
  unfold Wd
  constructor
  · intro h
    exact ⟨fun j hj => h j (by simp [hj]), h i (by simp)⟩
  · rintro ⟨h, hi⟩ j hj
    rcases List.mem_append.1 hj with hj | hj
    · exact h j hj
    · simp at hj; omega
theorem snoc_cases (w : List Nat) : w = [] ∨ ∃ u i, w = u ++ [i] := by
  rcases List.eq_nil_or_concat w with h | ⟨u, i, h⟩
  · exact .inl h
  · exact .inr ⟨u, i, by simpa using h⟩
theorem code_snoc_lt {n a b i j : Nat} (h : a < b) (hj : j < n) : a * n + j + 1 < b * n + i + 1 := by
  have h1 : (a + 1) * n ≤ b * n := Nat.mul_le_mul_right n h
  rw [Nat.succ_mul] at h1
  omega
theorem code_lt_of_len (n : Nat) : ∀ (k : Nat) (u w : List Nat), u.length = k → w.length < k → Wd n w → code n w < code n u := by
  intro k
  induction k with
  | zero => intro u w _ h; omega
  | succ k ih =>
    intro u w hu hw hwd
    rcases snoc_cases u with rfl | ⟨u', i, rfl⟩
    · simp at hu
    rcases snoc_cases w with rfl | ⟨w', j, rfl⟩
    · rw [code_nil, code_snoc]; omega
    · rw [code_snoc, code_snoc]
      rw [Wd.snoc] at hwd
      simp at hu hw
      exact code_snoc_lt (ih u' w' hu (by omega) hwd.1) hwd.2
theorem len_le_of_code {n : Nat} {u w : List Nat} (hu : Wd n u) (h : code n w ≤ code n u) : w.length ≤ u.length := by
  rcases Nat.lt_or_ge u.length w.length with hl | hl
  · have := code_lt_of_len n _ w u rfl hl hu
    omega
  · exact hl
theorem digit_inj {n a b i j : Nat} (hi : i < n) (hj : j < n) (h : a * n + i + 1 = b * n + j + 1) : a = b ∧ i = j := by
  rcases Nat.lt_trichotomy a b with hab | hab | hab
  · have := code_snoc_lt (n := n) (i := j) hab hi; omega
  · subst hab; exact ⟨rfl, by omega⟩
  · have := code_snoc_lt (n := n) (i := i) hab hj; omega
theorem code_inj (n : Nat) : ∀ (k : Nat) (u w : List Nat), u.length = k → Wd n u → Wd n w → code n u = code n w → u = w := by
  intro k
  induction k with
  | zero =>
    intro u w hu hwu hww h
    have hu' : u = [] := List.length_eq_zero_iff.1 hu
    subst hu'
    rcases snoc_cases w with rfl | ⟨w', j, rfl⟩
    · rfl
    · rw [code_nil, code_snoc] at h; omega
  | succ k ih =>
    intro u w hu hwu hww h
    rcases snoc_cases u with rfl | ⟨u', i, rfl⟩
    · simp at hu
    rcases snoc_cases w with rfl | ⟨w', j, rfl⟩
    · rw [code_nil, code_snoc] at h; omega
    · rw [code_snoc, code_snoc] at h
      rw [Wd.snoc] at hwu hww
      simp at hu
      obtain ⟨h1, h2⟩ := digit_inj hwu.2 hww.2 h
      rw [ih u' w' hu hwu.1 hww.1 h1, h2]
theorem code_mono_snoc {n : Nat} {u w : List Nat} {i : Nat} (h : code n w ≤ code n u) : code n (w ++ [i]) ≤ code n (u ++ [i]) := by
  rw [code_snoc, code_snoc]
  have := Nat.mul_le_mul_right n h
  omega

section
variable {S : Type} (step : S → Nat → Option S)
/-- Where a word leads from a state. -/
def run : S → List Nat → Option S
  | s, [] => some s
  | s, i :: w => (step s i).bind fun t => run t w
theorem run_append (s : S) (u v : List Nat) : run step s (u ++ v) = (run step s u).bind fun t => run step t v := by
  induction u generalizing s with
  | nil => rfl
  | cons i u ih =>
    show (step s i).bind _ = ((step s i).bind _).bind _
    cases step s i with
    | none => rfl
    | some t => exact ih t
theorem run_snoc (s : S) (u : List Nat) (i : Nat) : run step s (u ++ [i]) = (run step s u).bind fun t => step t i := by
  rw [run_append]
  cases run step s u with
  | none => rfl
  | some t =>
    show (step t i).bind _ = step t i
    cases step t i <;> rfl
theorem run_wd {n : Nat} (hn : ∀ s i, n ≤ i → step s i = none) : ∀ (w : List Nat) (s t : S), run step s w = some t → Wd n w := by
  intro w
  induction w with
  | nil => intro s t _ i hi; simp at hi
  | cons i w ih =>
    intro s t h j hj
    have h' : ((step s i).bind fun t => run step t w) = some t := h
    cases hs : step s i with
    | none => rw [hs] at h'; cases h'
    | some s' =>
      rw [hs] at h'
      rcases List.mem_cons.1 hj with rfl | hj
      · rcases Nat.lt_or_ge j n with h2 | h2
        · exact h2
        · rw [hn s j h2] at hs; cases hs
      · exact ih s' t h' j hj

/-- Words that are not too long. -/
def Fits (most : Int) (w : List Nat) : Prop := most < 0 ∨ (w.length : Int) ≤ most
theorem Fits.init {most : Int} {u : List Nat} {i : Nat} (h : Fits most (u ++ [i])) : Fits most u ∧ (u.length : Int) ≠ most := by
  unfold Fits at *
  simp at h
  omega

/-- The first word, the shorter ones first, that leads to a goal. -/
def IsFirst (n : Nat) (most : Int) (s₀ : S) (goal : S → Bool) (w : List Nat) : Prop :=
  (∃ s, run step s₀ w = some s ∧ goal s = true) ∧ Fits most w ∧ ∀ v t, run step s₀ v = some t → goal t = true → Fits most v → code n w ≤ code n v
def NoWord (most : Int) (s₀ : S) (goal : S → Bool) : Prop := ∀ v t, run step s₀ v = some t → Fits most v → goal t = false

/-- What is met: words and states; those before k are done; of the one at k the letters below i are done. -/
structure BIn (n : Nat) (most : Int) (s₀ : S) (goal : S → Bool) (full : List (List Nat × S)) (k i : Nat) : Prop where
  sorted : ∀ (a b : Nat) (e f : List Nat × S), a < b → full[a]? = some e → full[b]? = some f → code n e.1 < code n f.1
  leads : ∀ e : List Nat × S, e ∈ full → run step s₀ e.1 = some e.2
  fits : ∀ e : List Nat × S, e ∈ full → Fits most e.1
  first : full[0]? = some ([], s₀)
  closed : ∀ (j : Nat) (e : List Nat × S), j < k → full[j]? = some e → goal e.2 = false ∧ ((e.1.length : Int) ≠ most → ∀ l t, step e.2 l = some t → ∃ f, f ∈ full ∧ f.2 = t ∧ code n f.1 ≤ code n (e.1 ++ [l]))
  now : ∀ e : List Nat × S, full[k]? = some e → ∀ l t, l < i → step e.2 l = some t → ∃ f, f ∈ full ∧ f.2 = t ∧ code n f.1 ≤ code n (e.1 ++ [l])
  parents : ∀ f : List Nat × S, f ∈ full → f.1 = [] ∨ ∃ j l e, full[j]? = some e ∧ (j < k ∨ j = k ∧ l < i) ∧ l < n ∧ f.1 = e.1 ++ [l]
  nodup : (full.map (·.2)).Nodup

variable {step}
variable {n : Nat} {most : Int} {s₀ : S} {goal : S → Bool} {full : List (List Nat × S)} {k i : Nat}

theorem BIn.start : BIn step n most s₀ goal [([], s₀)] 0 0 := by
  constructor
  · intro a b e f hab h1 h2
    have : b = 0 := by
      rcases Nat.eq_zero_or_pos b with h | h
      · exact h
      · rw [List.getElem?_eq_none (by simp; omega)] at h2; cases h2
    omega
  · intro e he; simp at he; subst he; rfl
  · intro e he; simp at he; subst he; unfold Fits; simp; omega
  · rfl
  · intro j e hj; omega
  · intro e _ l t hl; omega
  · intro f hf; simp at hf; subst hf; exact .inl rfl
  · simp

/-- Whoever is met has a smaller code than the next word. -/
theorem BIn.below (h : BIn step n most s₀ goal full k i) {w : List Nat} {s : S} (hk : full[k]? = some (w, s)) {f : List Nat × S} (hf : f ∈ full) :
    code n f.1 < code n (w ++ [i]) := by
  rcases h.parents f hf with h0 | ⟨j, l, e, he, hj, hl, hfe⟩
  · rw [h0, code_nil, code_snoc]; omega
  · rw [hfe, code_snoc, code_snoc]
    rcases hj with hj | ⟨rfl, hli⟩
    · exact code_snoc_lt (h.sorted _ _ _ _ hj he hk) hl
    · rw [hk] at he
      cases he
      show code n w * n + l + 1 < code n w * n + i + 1
      omega

theorem BIn.skip_met (h : BIn step n most s₀ goal full k i) {w : List Nat} {s t : S} (hk : full[k]? = some (w, s)) (hs : step s i = some t) (hm : t ∈ full.map (·.2)) :
    BIn step n most s₀ goal full k (i + 1) := by
  refine ⟨h.sorted, h.leads, h.fits, h.first, h.closed, ?_, ?_, h.nodup⟩
  · intro e he l t' hl hst
    rcases Nat.lt_or_ge l i with h1 | h1
    · exact h.now e he l t' h1 hst
    · have : l = i := by omega
      subst this
      rw [hk] at he; cases he
      rw [hs] at hst; cases hst
      obtain ⟨f, hf, hft⟩ := List.mem_map.1 hm
      exact ⟨f, hf, hft, Nat.le_of_lt (h.below hk hf)⟩
  · intro f hf
    rcases h.parents f hf with h0 | ⟨j, l, e, he, hj, hl, hfe⟩
    · exact .inl h0
    · exact .inr ⟨j, l, e, he, by omega, hl, hfe⟩

theorem BIn.next (h : BIn step n most s₀ goal full k n) (hn : ∀ s i, n ≤ i → step s i = none) {w : List Nat} {s : S} (hk : full[k]? = some (w, s)) (hg : goal s = false) :
    BIn step n most s₀ goal full (k + 1) 0 := by
  refine ⟨h.sorted, h.leads, h.fits, h.first, ?_, fun e _ l t hl => by omega, ?_, h.nodup⟩
  · intro j e hj he
    rcases Nat.lt_or_ge j k with h1 | h1
    · exact h.closed j e h1 he
    · have : j = k := by omega
      subst this
      rw [hk] at he; cases he
      refine ⟨hg, fun _ l t hst => ?_⟩
      rcases Nat.lt_or_ge l n with h2 | h2
      · exact h.now _ hk l t h2 hst
      · have hst' : step s l = some t := hst
        rw [hn s l h2] at hst'; cases hst'
  · intro f hf
    rcases h.parents f hf with h0 | ⟨j, l, e, he, hj, hl, hfe⟩
    · exact .inl h0
    · exact .inr ⟨j, l, e, he, by omega, hl, hfe⟩

theorem BIn.next_long (h : BIn step n most s₀ goal full k 0) {w : List Nat} {s : S} (hk : full[k]? = some (w, s)) (hg : goal s = false) (hl : (w.length : Int) = most) :
    BIn step n most s₀ goal full (k + 1) 0 := by
  refine ⟨h.sorted, h.leads, h.fits, h.first, ?_, fun e _ l t hl => by omega, ?_, h.nodup⟩
  · intro j e hj he
    rcases Nat.lt_or_ge j k with h1 | h1
    · exact h.closed j e h1 he
    · have : j = k := by omega
      subst this
      rw [hk] at he; cases he
      exact ⟨hg, fun h2 => absurd hl h2⟩
  · intro f hf
    rcases h.parents f hf with h0 | ⟨j, l, e, he, hj, hl, hfe⟩
    · exact .inl h0
    · exact .inr ⟨j, l, e, he, by omega, hl, hfe⟩

/-- Each word is met by one that is no later, or has not been looked at yet. -/
theorem BIn.reached (h : BIn step n most s₀ goal full k 0) (hn : ∀ s i, n ≤ i → step s i = none) :
    ∀ (m : Nat) (v : List Nat) (t : S), v.length = m → run step s₀ v = some t → Fits most v →
      (∃ f, f ∈ full ∧ f.2 = t ∧ code n f.1 ≤ code n v) ∨ (∃ j f, k ≤ j ∧ full[j]? = some f ∧ code n f.1 ≤ code n v) := by
  intro m
  induction m with
  | zero =>
    intro v t hv hr _
    have : v = [] := List.length_eq_zero_iff.1 hv
    subst this
    have h0 : t = s₀ := by
      have : some s₀ = some t := hr
      cases this; rfl
    exact .inl ⟨([], s₀), List.mem_of_getElem? h.first, h0.symm, Nat.le_refl _⟩
  | succ m ih =>
    intro v t hv hr hfit
    rcases snoc_cases v with rfl | ⟨u, i, rfl⟩
    · simp at hv
    have hwd := run_wd step hn _ _ _ hr
    rw [Wd.snoc] at hwd
    obtain ⟨hfu, hlu⟩ := hfit.init
    simp at hv
    rw [run_snoc] at hr
    cases hu : run step s₀ u with
    | none => rw [hu] at hr; cases hr
    | some t' =>
      rw [hu] at hr
      have hr' : step t' i = some t := hr
      have hle : code n u ≤ code n (u ++ [i]) := Nat.le_of_lt (code_lt_of_len n _ (u ++ [i]) u rfl (by simp) hwd.1)
      rcases ih u t' hv hu hfu with ⟨f, hf, hft, hc⟩ | ⟨j, f, hj, hf, hc⟩
      · obtain ⟨j, hjl⟩ := List.mem_iff_getElem?.1 hf
        rcases Nat.lt_or_ge j k with hjk | hjk
        · obtain ⟨_, h2⟩ := h.closed j f hjk hjl
          have hlen := len_le_of_code hwd.1 hc
          have hne : (f.1.length : Int) ≠ most := by
            unfold Fits at hfit
            simp at hfit
            omega
          obtain ⟨g, hg, hgt, hgc⟩ := h2 hne i t (by rw [hft]; exact hr')
          exact .inl ⟨g, hg, hgt, Nat.le_trans hgc (code_mono_snoc hc)⟩
        · exact .inr ⟨j, f, hjk, hjl, Nat.le_trans hc hle⟩
      · exact .inr ⟨j, f, hj, hf, Nat.le_trans hc hle⟩

theorem BIn.found (h : BIn step n most s₀ goal full k 0) (hn : ∀ s i, n ≤ i → step s i = none) {w : List Nat} {s : S} (hk : full[k]? = some (w, s)) (hg : goal s = true) :
    IsFirst step n most s₀ goal w := by
  have hmem : (w, s) ∈ full := List.mem_of_getElem? hk
  have hrun := h.leads _ hmem
  have later : ∀ j f, k ≤ j → full[j]? = some f → code n w ≤ code n f.1 := by
    intro j f hj hf
    rcases Nat.lt_or_ge k j with h1 | h1
    · exact Nat.le_of_lt (h.sorted _ _ _ _ h1 hk hf)
    · have : j = k := by omega
      subst this
      rw [hk] at hf; cases hf
      exact Nat.le_refl _
  refine ⟨⟨s, hrun, hg⟩, h.fits _ hmem, ?_⟩
  intro v t hv hgt hfv
  rcases h.reached hn _ v t rfl hv hfv with ⟨f, hf, hft, hc⟩ | ⟨j, f, hj, hf, hc⟩
  · obtain ⟨j, hjl⟩ := List.mem_iff_getElem?.1 hf
    rcases Nat.lt_or_ge j k with hjk | hjk
    · have := (h.closed j f hjk hjl).1
      rw [hft, hgt] at this; cases this
    · exact Nat.le_trans (later j f hjk hjl) hc
  · exact Nat.le_trans (later j f hj hf) hc

end

/-- Numbers below N, none twice: there are no more than N. -/
theorem nodup_le (N : Nat) : ∀ (l : List Nat), l.Nodup → (∀ x ∈ l, x < N) → l.length ≤ N := by
  induction N with
  | zero =>
    intro l _ h
    cases l with
    | nil => simp
    | cons a l => have := h a (by simp); omega
  | succ N ih =>
    intro l hd h
    have h1 := ih (l.filter (· ≠ N)) (hd.filter _) (fun x hx => by
      rw [List.mem_filter] at hx
      have := h x hx.1
      have h3 : x ≠ N := by simpa using hx.2
      omega)
    have h2 : l.length ≤ (l.filter (· ≠ N)).length + 1 := by
      clear ih h1 h
      induction l with
      | nil => simp
      | cons a l ih =>
        rw [List.nodup_cons] at hd
        by_cases ha : a = N
        · subst ha
          have : l.filter (· ≠ a) = l := by
            rw [List.filter_eq_self]
            intro x hx
            simp only [ne_eq, decide_not, Bool.not_eq_true', decide_eq_false_iff_not]
            rintro rfl
            exact hd.1 hx
          rw [List.filter_cons_of_neg (by simp)]
          rw [this]
          simp
        · rw [List.filter_cons_of_pos (by simpa using ha)]
          have := ih hd.2
          simp only [List.length_cons]
          omega
    omega
end Go.Proofs.YthkbagikmbcphaaDoor.N
namespace Go.Proofs.YthkbagikmbcphaaDoor.N
open Go
/-- a without the bits of b. -/
def nn (a b : Nat) : Nat := a ^^^ (a &&& b)
theorem wrap_u64 (n : Nat) (h : n < 18446744073709551616) : IntKind.u64.wrap (n : Int) = n := by
  simp [IntKind.wrap, IntKind.bits, IntKind.signed]
  omega
theorem wrap_i64' (n : Int) (h : -9223372036854775808 ≤ n) (h' : n < 9223372036854775808) : IntKind.i64.wrap n = n := by
  rw [IntKind.wrap_i64]
  omega
theorem ofInt_u64 (a : Nat) (h : a < 18446744073709551616) : (BitVec.ofInt IntKind.u64.bits (a : Int)).toNat = a := by
  rw [BitVec.ofInt_natCast, BitVec.toNat_ofNat]; exact Nat.mod_eq_of_lt h
theorem and_lt {a n : Nat} (b : Nat) (h : a < 2 ^ n) : a &&& b < 2 ^ n := Nat.lt_of_le_of_lt Nat.and_le_left h
theorem nn_lt {a b n : Nat} (h : a < 2 ^ n) : nn a b < 2 ^ n := Nat.xor_lt_two_pow h (and_lt _ h)
theorem u64_and (a b : Nat) (ha : a < 18446744073709551616) (hb : b < 18446744073709551616) : IntKind.u64.wrap ((BitVec.ofInt IntKind.u64.bits (a : Int) &&& BitVec.ofInt IntKind.u64.bits (b : Int)).toNat : Int) = ((a &&& b : Nat) : Int) := by
  rw [BitVec.toNat_and, ofInt_u64 a ha, ofInt_u64 b hb]
  exact wrap_u64 _ (show _ < 2 ^ 64 from and_lt b ha)
theorem u64_or (a b : Nat) (ha : a < 18446744073709551616) (hb : b < 18446744073709551616) : IntKind.u64.wrap ((BitVec.ofInt IntKind.u64.bits (a : Int) ||| BitVec.ofInt IntKind.u64.bits (b : Int)).toNat : Int) = ((a ||| b : Nat) : Int) := by
  rw [BitVec.toNat_or, ofInt_u64 a ha, ofInt_u64 b hb]
  exact wrap_u64 _ (show _ < 2 ^ 64 from Nat.or_lt_two_pow ha hb)
theorem u64_xor (a b : Nat) (ha : a < 18446744073709551616) (hb : b < 18446744073709551616) : IntKind.u64.wrap ((BitVec.ofInt IntKind.u64.bits (a : Int) ^^^ BitVec.ofInt IntKind.u64.bits (b : Int)).toNat : Int) = ((a ^^^ b : Nat) : Int) := by
  rw [BitVec.toNat_xor, ofInt_u64 a ha, ofInt_u64 b hb]
  exact wrap_u64 _ (show _ < 2 ^ 64 from Nat.xor_lt_two_pow ha hb)
theorem fdiv_shr (a n k : Nat) : (a : Int).fdiv (2 ^ (min ((n : Int)).toNat k)) = ((a >>> (min n k) : Nat) : Int) := by
  rw [Int.toNat_natCast, Nat.shiftRight_eq_div_pow, Int.natCast_ediv, Int.fdiv_eq_ediv_of_nonneg]
  · simp
  · exact Int.pow_nonneg (by decide)
theorem shr_bit (s i k : Nat) (hs : s < 2 ^ k) : (s >>> (min i k)) &&& 1 = (if s.testBit i then 1 else 0) := by
  rcases Nat.lt_or_ge i k with h | h
  · rw [Nat.min_eq_left (Nat.le_of_lt h), Nat.and_one_is_mod, Nat.testBit_eq_decide_div_mod_eq, Nat.shiftRight_eq_div_pow]
    have : s / 2 ^ i % 2 < 2 := Nat.mod_lt _ (by decide)
    by_cases hb : s / 2 ^ i % 2 = 1 <;> simp [hb] <;> omega
  · rw [Nat.min_eq_right h, Nat.shiftRight_eq_div_pow, Nat.div_eq_of_lt hs, Nat.testBit_lt_two_pow (Nat.lt_of_lt_of_le hs (Nat.pow_le_pow_right (by decide) h))]
    rfl
theorem bit_test (s i k : Nat) (hs : s < 2 ^ k) : decide ((((s >>> (min i k)) &&& 1 : Nat) : Int) = 1) = s.testBit i := by
  rw [shr_bit s i k hs]
  cases s.testBit i <;> simp
end Go.Proofs.YthkbagikmbcphaaDoor.N
namespace Go.Proofs.YthkbagikmbcphaaDoor.N
open Go
/-- An agent. -/
structure Ag where
  needs : Nat
  no : Nat
  takes : Nat
  leaves : Nat
  cost : Nat
  deriving DecidableEq, Inhabited
def Ag.cells (a : Ag) : List Value := [.int .i64 a.needs, .int .i64 a.no, .int .i64 a.takes, .int .i64 a.leaves, .int .i64 a.cost]
structure Ag.ok (a : Ag) : Prop where
  needs : a.needs < 64
  no : a.no < 64
  takes : a.takes < 64
  leaves : a.leaves < 64
  apart : a.needs &&& a.no = 0
  cost : 1 ≤ a.cost ∧ a.cost ≤ 9
def Oks (l : List Ag) : Prop := l.length ≤ 4 ∧ ∀ a ∈ l, a.ok
def mayN (a : Ag) (f : Nat) : Bool := decide (nn a.needs f = 0) && decide (a.no &&& f = 0)
def putN (a : Ag) (f : Nat) : Nat := nn f a.takes ||| a.leaves
theorem putN_lt {a : Ag} {f : Nat} (ha : a.ok) (hf : f < 64) : putN a f < 64 := show _ < 2 ^ 6 from Nat.or_lt_two_pow (nn_lt hf) ha.leaves
/-- Which agents that are used may be put. -/
def canTo (l : List Ag) (used f : Nat) (k : Nat) : List Nat := (List.range k).filter fun i => used.testBit i && mayN (l.getD i default) f
theorem canTo_len (l : List Ag) (used f k : Nat) : (canTo l used f k).length ≤ k := by
  unfold canTo
  exact Nat.le_trans (List.length_filter_le _ _) (by simp)
/-- Numbers as cells. -/
def ints (l : List Nat) : List Value := l.map fun (n : Nat) => Value.int .i64 (n : Int)
theorem ints_len (l : List Nat) : (ints l).length = l.length := by simp [ints]
/-! Raw agents. -/
structure RA where
  needs : Int
  no : Int
  takes : Int
  leaves : Int
  cost : Int
  deriving DecidableEq, Inhabited
def RA.cells (a : RA) : List Value := [.int .i64 a.needs, .int .i64 a.no, .int .i64 a.takes, .int .i64 a.leaves, .int .i64 a.cost]
def inB (n lo hi : Int) : Bool := decide (lo ≤ n) && decide (n ≤ hi)
theorem inB_true {n lo hi : Int} : inB n lo hi = true ↔ lo ≤ n ∧ n ≤ hi := by simp [inB]
def RA.four (a : RA) : List Int := [a.needs, a.no, a.takes, a.leaves]
def allB (l : List Int) : Bool := l.all (inB · 0 63)
def RA.bad (a : RA) : Nat := if allB a.four = false then 1 else if a.needs.toNat &&& a.no.toNat ≠ 0 then 9 else if inB a.cost 1 9 = false then 1 else 0
def icell (n : Int) : List Value := [.int .i64 n]
def usedAll (n : Nat) : Nat := 2 ^ n - 1
theorem usedAll_bit {n i : Nat} : (usedAll n).testBit i = decide (i < n) := by
  unfold usedAll
  exact Nat.testBit_two_pow_sub_one n i
end Go.Proofs.YthkbagikmbcphaaDoor.N
