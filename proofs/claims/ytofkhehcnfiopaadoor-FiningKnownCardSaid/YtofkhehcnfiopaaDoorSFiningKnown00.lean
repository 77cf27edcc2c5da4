/- Parts of the walks of the laws on fining, those that FiningKnown needs: V1, V1b, V2, V3, V4, V5, V6, V7, V8, V9, V10. -/
import Derived.Conc.Beside
import Derived.OrdersHeld
import Derived.ScopeJumps
import Derived.Recover
import Derived.AtR
import Derived.Conc.CompanyDraw
namespace Go.Proofs.YtofkhehcnfiopaaDoor.N
open Go Go.RowKit Go.Conc
set_option linter.unusedSectionVars false
set_option autoImplicit false

/-! Views: what a goroutine is shown of a world. -/
def notView : Obj → Prop
  | .view _ _ => False
  | _ => True
def softMark : Mark → Prop
  | .noRoom => True
  | .extern _ => True
  | _ => False
/-- A tree all of whose ways end badly. -/
def Dead {α : Type} : Sem α → Prop
  | .pure _ => False
  | .load _ _ k => ∀ v, Dead (k v)
  | .store _ _ _ k => Dead k
  | .new _ k => ∀ r, Dead (k r)
  | .shape _ k => ∀ x, Dead (k x)
  | .freeze _ _ k => Dead k
  | .frozen _ k => ∀ x, Dead (k x)
  | .getObj _ k => ∀ o, Dead (k o)
  | .setObj _ _ k => Dead k
  | .choose _ k => ∀ n, Dead (k n)
  | .sys _ k => ∀ r, Dead (k r)
  | .program k => ∀ p, Dead (k p)
  | .mark _ k => Dead k
  | .halt (.panic _) => False
  | .halt _ => True
theorem Dead.left {α β : Type} {s : Sem α} (h : Dead s) (f : α → Sem β) : Dead (s >>= f) := by
  show Dead (s.bind f)
  induction s with
  | pure a => exact h.elim
  | load m a k ih => exact fun v => ih v (h v)
  | store m a v k ih => exact ih h
  | new o k ih => exact fun r => ih r (h r)
  | shape r k ih => exact fun x => ih x (h x)
  | freeze a n k ih => exact ih h
  | frozen a k ih => exact fun x => ih x (h x)
  | getObj r k ih => exact fun o => ih o (h o)
  | setObj r o k ih => exact ih h
  | choose q k ih => exact fun n => ih n (h n)
  | sys c k ih => exact fun r => ih r (h r)
  | program k ih => exact fun p => ih p (h p)
  | mark m k ih => exact ih h
  | halt x => cases x <;> exact h
/-- A tree that looks at memory through cells and objects alone. -/
def Tame {α : Type} (P : Program) : Sem α → Prop
  | .pure _ => True
  | .load _ _ k => ∀ v, Tame P (k v)
  | .store _ _ _ k => Tame P k
  | .new o k => notView o ∧ ∀ r, Tame P (k r)
  | .shape _ k => ∀ x, Dead (k x)
  | .freeze _ _ _ => False
  | .frozen _ k => ∀ x, Dead (k x)
  | .getObj _ k => ∀ o, Tame P (k o)
  | .setObj _ o k => notView o ∧ Tame P k
  | .choose _ k => ∀ n, Tame P (k n)
  | .sys _ _ => False
  | .program k => Tame P (k P)
  | .mark m k => softMark m ∧ Tame P k
  | .halt _ => True
theorem Tame.bind {α β : Type} {P : Program} {s : Sem α} {f : α → Sem β} (hs : Tame P s) (hf : ∀ a, Tame P (f a)) : Tame P (s >>= f) := by
  show Tame P (s.bind f)
  induction s with
  | pure a => exact hf a
  | load m a k ih => exact fun v => ih v (hs v)
  | store m a v k ih => exact ih hs
  | new o k ih => exact ⟨hs.1, fun r => ih r (hs.2 r)⟩
  | shape r k ih => exact fun x => (hs x).left f
  | freeze a n k ih => exact hs.elim
  | frozen a k ih => exact fun x => (hs x).left f
  | getObj r k ih => exact fun o => ih o (hs o)
  | setObj r o k ih => exact ⟨hs.1, ih hs.2⟩
  | choose q k ih => exact fun n => ih n (hs n)
  | sys c k ih => exact hs.elim
  | program k ih => exact ih P hs
  | mark m k ih => exact ⟨hs.1, ih hs.2⟩
  | halt h => trivial

/-- v shows w: the blocks of F are hidden (a row of no cells), those of S are frozen. What v says was put out is no matter. -/
structure Hid (F S : Nat → Prop) (w v : World) : Prop where
  tape : v.tape = w.tape
  drawn : v.drawn = w.drawn
  os : v.os = w.os
  size : v.heap.size = w.heap.size
  fitF : ∀ b, F b → b < w.heap.size
  fitS : ∀ b, S b → b < w.heap.size
  away : ∀ b, F b → ∃ t fz, v.heap[b]? = some (.cells #[] t fz)
  still : ∀ b, S b → ¬ F b → ∃ c t fz, w.heap[b]? = some (.cells c t fz) ∧ v.heap[b]? = some (.cells c t (0, c.size))
  same : ∀ b, ¬ F b → ¬ S b → v.heap[b]? = w.heap[b]?
  plain : ∀ (b : Nat) (o : Obj), v.heap[b]? = some o → notView o

/-- What a step lists: reads of what is not hidden, writes of what is neither hidden nor frozen. -/
def EvOk (F S : Nat → Prop) (B : Nat) (e : Event) : Prop :=
  match e.loc with
  | .cell a => ¬ F a.block ∧ (e.write = true → ¬ S a.block) ∧ a.block < B
  | .obj r => ¬ F r ∧ ¬ S r ∧ r < B
  | .mark m => softMark m
  | _ => False
theorem EvOk.mono {F S : Nat → Prop} {B B' : Nat} {e : Event} (h : EvOk F S B e) (hB : B ≤ B') : EvOk F S B' e := by
  unfold EvOk at *
  cases hl : e.loc with
  | cell a => rw [hl] at h; exact ⟨h.1, h.2.1, Nat.lt_of_lt_of_le h.2.2 hB⟩
  | obj r => rw [hl] at h; exact ⟨h.1, h.2.1, Nat.lt_of_lt_of_le h.2.2 hB⟩
  | mark m => rw [hl] at h; exact h
  | output => rw [hl] at h; exact h
  | goroutines => rw [hl] at h; exact h

section
variable {F S : Nat → Prop} {w v : World}
theorem Hid.cell (h : Hid F S w v) {a : Addr} {x : Value} (hx : v.cell? a = some x) : w.cell? a = some x ∧ ¬ F a.block ∧ a.block < v.heap.size := by
  unfold World.cell? at hx
  cases hb : v.heap[a.block]? with
  | none => rw [hb] at hx; cases hx
  | some o =>
    have hlt : a.block < v.heap.size := (Array.getElem?_eq_some_iff.1 hb).1
    cases o with
    | cells c t fz =>
      rw [hb] at hx
      have hF : ¬ F a.block := fun hf => by
        obtain ⟨t', fz', h1⟩ := h.away _ hf
        rw [hb] at h1
        cases h1
        dsimp only at hx
        split at hx
        · cases hx
        · simp at hx
      refine ⟨?_, hF, hlt⟩
      unfold World.cell?
      by_cases hS : S a.block
      · obtain ⟨c', t', fz', h1, h2⟩ := h.still _ hS hF
        rw [hb] at h2
        cases h2
        rw [h1]
        exact hx
      · rw [← h.same _ hF hS, hb]
        exact hx
    | _ => rw [hb] at hx; cases hx
theorem Hid.unfrozen (h : Hid F S w v) {a : Addr} {x : Value} (hx : v.cell? a = some x) (hz : v.frozen? a = false) : ¬ S a.block ∧ w.frozen? a = false := by
  have hF := (h.cell hx).2.1
  have hS : ¬ S a.block := fun hS => by
    obtain ⟨c, t, fz, h1, h2⟩ := h.still _ hS hF
    unfold World.cell? at hx
    unfold World.frozen? at hz
    rw [h2] at hx hz
    dsimp only at hx hz
    split at hx
    · cases hx
    · have := (Array.getElem?_eq_some_iff.1 hx).1
      simp at hz
      omega
  refine ⟨hS, ?_⟩
  unfold World.frozen? at hz ⊢
  rw [← h.same _ hF hS]
  exact hz
theorem Hid.setCell (h : Hid F S w v) {a : Addr} (hF : ¬ F a.block) (hS : ¬ S a.block) (x : Value) : Hid F S (w.setCell a x) (v.setCell a x) := by
  have hm : ∀ (u : World) (b : Nat), b ≠ a.block → (u.setCell a x).heap[b]? = u.heap[b]? := fun u b hb => Below.heap_setCell u a x b (fun e => hb e)
  refine ⟨h.tape, h.drawn, h.os, by simp [World.setCell, h.size], fun b hb => by simpa [World.setCell] using h.fitF b hb, fun b hb => by simpa [World.setCell] using h.fitS b hb, fun b hb => ?_, fun b hb hf => ?_, fun b hf hs => ?_, fun b o ho => ?_⟩
  · rw [hm _ _ (fun e => hF (e ▸ hb))]; exact h.away b hb
  · have hne : b ≠ a.block := fun e => hS (e ▸ hb)
    obtain ⟨c, t, fz, h1, h2⟩ := h.still b hb hf
    exact ⟨c, t, fz, by rw [hm _ _ hne]; exact h1, by rw [hm _ _ hne]; exact h2⟩
  · by_cases e : b = a.block
    · subst e
      have := h.same _ hF hS
      simp only [World.setCell, Array.getElem?_modify, if_true, this]
    · rw [hm _ _ e, hm _ _ e]; exact h.same b hf hs
  · by_cases e : b = a.block
    · subst e
      simp only [World.setCell, Array.getElem?_modify, if_true] at ho
      cases hb : v.heap[a.block]? with
      | none => rw [hb] at ho; cases ho
      | some o' =>
        rw [hb] at ho
        have h1 := h.plain _ _ hb
        simp only [Option.map_some, Option.some.injEq] at ho
        subst ho
        cases o' <;> first | exact h1 | trivial
    · rw [hm _ _ e] at ho; exact h.plain b o ho
theorem Hid.push (h : Hid F S w v) {o : Obj} (ho : notView o) : Hid F S { w with heap := w.heap.push o } { v with heap := v.heap.push o } := by
  refine ⟨h.tape, h.drawn, h.os, by simp [h.size], fun b hb => by have := h.fitF b hb; simp; omega, fun b hb => by have := h.fitS b hb; simp; omega, fun b hb => ?_, fun b hb hf => ?_, fun b hf hs => ?_, fun b o' ho' => ?_⟩
  · have hlt := h.fitF b hb
    dsimp only
    rw [Array.getElem?_push_lt (by rw [h.size]; exact hlt), ← Array.getElem?_eq_getElem (by rw [h.size]; exact hlt)]
    exact h.away b hb
  · have hlt := h.fitS b hb
    obtain ⟨c, t, fz, h1, h2⟩ := h.still b hb hf
    refine ⟨c, t, fz, ?_, ?_⟩
    · dsimp only
      rw [Array.getElem?_push_lt hlt, ← Array.getElem?_eq_getElem hlt]; exact h1
    · dsimp only
      rw [Array.getElem?_push_lt (by rw [h.size]; exact hlt), ← Array.getElem?_eq_getElem (by rw [h.size]; exact hlt)]; exact h2
  · dsimp only
    rw [Array.getElem?_push, Array.getElem?_push, h.size, h.same b hf hs]
  · dsimp only at ho'
    rw [Array.getElem?_push] at ho'
    split at ho'
    · cases ho'; exact ho
    · exact h.plain b o' ho'
theorem Hid.obj (h : Hid F S w v) {r : Nat} {o : Obj} (ho : v.heap[r]? = some o) (hc : ∀ c t fz, o ≠ .cells c t fz) : ¬ F r ∧ ¬ S r ∧ w.heap[r]? = some o ∧ r < v.heap.size := by
  have hF : ¬ F r := fun hf => by
    obtain ⟨t, fz, h1⟩ := h.away _ hf
    rw [ho] at h1
    exact hc _ _ _ (Option.some.inj h1)
  have hS : ¬ S r := fun hs => by
    obtain ⟨c, t, fz, h1, h2⟩ := h.still _ hs hF
    rw [ho] at h2
    exact hc _ _ _ (Option.some.inj h2)
  exact ⟨hF, hS, by rw [← h.same _ hF hS]; exact ho, (Array.getElem?_eq_some_iff.1 ho).1⟩
theorem Hid.setObj (h : Hid F S w v) {r : Nat} (hF : ¬ F r) (hS : ¬ S r) {o : Obj} (ho : notView o) : Hid F S { w with heap := w.heap.setIfInBounds r o } { v with heap := v.heap.setIfInBounds r o } := by
  have hm : ∀ (u : World) (b : Nat), b ≠ r → ({ u with heap := u.heap.setIfInBounds r o } : World).heap[b]? = u.heap[b]? := fun u b hb => by
    dsimp only
    rw [Array.getElem?_setIfInBounds_ne (Ne.symm hb)]
  refine ⟨h.tape, h.drawn, h.os, by simp [h.size], fun b hb => by simpa using h.fitF b hb, fun b hb => by simpa using h.fitS b hb, fun b hb => ?_, fun b hb hf => ?_, fun b hf hs => ?_, fun b o' ho' => ?_⟩
  · rw [hm _ _ (fun e => hF (e ▸ hb))]; exact h.away b hb
  · have hne : b ≠ r := fun e => hS (e ▸ hb)
    obtain ⟨c, t, fz, h1, h2⟩ := h.still b hb hf
    exact ⟨c, t, fz, by rw [hm _ _ hne]; exact h1, by rw [hm _ _ hne]; exact h2⟩
  · by_cases e : b = r
    · subst e
      simp only [Array.getElem?_setIfInBounds, if_true, h.size]
    · rw [hm _ _ e, hm _ _ e]; exact h.same b hf hs
  · by_cases e : b = r
    · subst e
      simp only [Array.getElem?_setIfInBounds, if_true] at ho'
      split at ho'
      · cases ho'; exact ho
      · cases ho'
    · rw [hm _ _ e] at ho'; exact h.plain b o' ho'
theorem Hid.draw (h : Hid F S w v) : Hid F S { w with drawn := w.drawn + 1 } { v with drawn := v.drawn + 1 } :=
  ⟨h.tape, by show v.drawn + 1 = w.drawn + 1; rw [h.drawn], h.os, h.size, h.fitF, h.fitS, h.away, h.still, h.same, h.plain⟩
end

/-- What a step of one that is shown so leaves as it was. -/
structure Kept (F S : Nat → Prop) (w w' : World) : Prop where
  os : w'.os = w.os
  tape : w'.tape = w.tape
  output : w'.output = w.output
  size : w.heap.size ≤ w'.heap.size
  block : ∀ b, b < w.heap.size → F b ∨ S b → w'.heap[b]? = w.heap[b]?
theorem Kept.refl (F S : Nat → Prop) (w : World) : Kept F S w w := ⟨rfl, rfl, rfl, Nat.le_refl _, fun _ _ _ => rfl⟩
theorem Kept.trans {F S : Nat → Prop} {w w' w'' : World} (h : Kept F S w w') (h' : Kept F S w' w'') : Kept F S w w'' :=
  ⟨h'.os.trans h.os, h'.tape.trans h.tape, h'.output.trans h.output, Nat.le_trans h.size h'.size, fun b hb hF => (h'.block b (Nat.lt_of_lt_of_le hb h.size) hF).trans (h.block b hb hF)⟩
theorem Kept.setCell {F S : Nat → Prop} {w : World} {a : Addr} (hF : ¬ F a.block) (hS : ¬ S a.block) (x : Value) : Kept F S w (w.setCell a x) :=
  ⟨rfl, rfl, rfl, by simp [World.setCell], fun b _ h => Below.heap_setCell w a x b (fun e => by subst e; exact h.elim hF hS)⟩
theorem Kept.push {F S : Nat → Prop} {w : World} (o : Obj) : Kept F S w { w with heap := w.heap.push o } :=
  ⟨rfl, rfl, rfl, by simp, fun b hb _ => by dsimp only; rw [Array.getElem?_push_lt hb, ← Array.getElem?_eq_getElem hb]⟩
theorem Kept.setObj {F S : Nat → Prop} {w : World} {r : Nat} (hF : ¬ F r) (hS : ¬ S r) (o : Obj) : Kept F S w { w with heap := w.heap.setIfInBounds r o } :=
  ⟨rfl, rfl, rfl, by simp, fun b _ h => by dsimp only; rw [Array.getElem?_setIfInBounds_ne (fun e => by subst e; exact h.elim hF hS)]⟩
theorem Kept.draw {F S : Nat → Prop} {w : World} (d : Nat) : Kept F S w { w with drawn := d } := ⟨rfl, rfl, rfl, Nat.le_refl _, fun _ _ _ => rfl⟩
/-- The same outcome, in a world and in its view. -/
inductive Shown {α : Type} (F S : Nat → Prop) : Result α → Result α → Prop
  | ok (a : α) {w v : World} (h : Hid F S w v) : Shown F S (.ok a w) (.ok a v)
  | panic (x : Value) {w v : World} (h : Hid F S w v) : Shown F S (.halt (.panic x) w) (.halt (.panic x) v)
def Fine {α : Type} : Result α → Prop
  | .ok _ _ => True
  | .halt (.panic _) _ => True
  | _ => False
def Result.at_ {α : Type} : Result α → World
  | .ok _ w => w
  | .halt _ w => w

section
variable {α : Type} {P : Program} {m : Mode} {a : Addr} {x y : Value} {u : World}
theorem store_step (k : Sem α) (es : Array Event) (h1 : ∀ l, x ≠ .agg l) (h2 : ∀ l, x ≠ .tuple l) (hy : u.cell? a = some y) (hz : u.frozen? a = false) :
    (Sem.store m a x k).runT P u es = k.runT P (u.setCell a x) (es.push ⟨.cell a, true, m == .atomic⟩) := by
  cases x <;> first | exact absurd rfl (h1 _) | exact absurd rfl (h2 _) | (simp only [Sem.runT, hy, hz]; rfl)
theorem store_frozen (k : Sem α) (es : Array Event) (h1 : ∀ l, x ≠ .agg l) (h2 : ∀ l, x ≠ .tuple l) (hy : u.cell? a = some y) (hz : u.frozen? a = true) :
    (Sem.store m a x k).runT P u es = (.halt (.unsupported (.unsafePointer "a write to bytes that a string shares")) u, es) := by
  cases x <;> first | exact absurd rfl (h1 _) | exact absurd rfl (h2 _) | (simp only [Sem.runT, hy, hz]; rfl)
theorem store_any (k : Sem α) (es : Array Event) (h1 : ∀ l, x ≠ .agg l) (h2 : ∀ l, x ≠ .tuple l) (hy : u.cell? a = none) :
    (Sem.store m a x k).runT P u es = match u.farStore P a x (m == .atomic) with
      | .ok (u, touched) => k.runT P u (es ++ touched.toArray.map (⟨.cell ·, true, m == .atomic⟩))
      | .error h => (.halt h u, es) := by
  cases x <;> first | exact absurd rfl (h1 _) | exact absurd rfl (h2 _) | (simp only [Sem.runT, hy]; rfl)
theorem noCell_bad {β : Type} {what : String} {u' : World} (h : Fine (.halt (u.noCell a what) u' : Result β)) : False := by
  unfold World.noCell at h
  cases hb : u.heap[a.block]? with
  | none => rw [hb] at h; exact h
  | some o => rw [hb] at h; cases o <;> exact h
theorem far_bad {β : Type} {b : Bool} {e : Halt} {u' : World} (hl : u.farLoad P a b = .error e) (h : Fine (.halt e u' : Result β)) : False := by
  unfold World.farLoad at hl
  split at hl
  · split at hl
    · cases hl
    · cases hl; exact h
  · cases hl; exact noCell_bad h
theorem far_bad' {β : Type} {b : Bool} {e : Halt} {u' : World} (hl : u.farStore P a x b = .error e) (h : Fine (.halt e u' : Result β)) : False := by
  unfold World.farStore at hl
  split at hl
  · split at hl
    · cases hl
    · cases hl; exact h
  · cases hl; exact noCell_bad h
theorem store_far (k : Sem α) (es : Array Event) (h1 : ∀ l, x ≠ .agg l) (h2 : ∀ l, x ≠ .tuple l) (hy : u.cell? a = none) (hp : ∀ (b : Nat) (o : Obj), u.heap[b]? = some o → notView o) :
    (Sem.store m a x k).runT P u es = (.halt (u.noCell a "store: no such cell") u, es) := by
  have e : u.farStore P a x (m == .atomic) = .error (u.noCell a "store: no such cell") := by
    unfold World.farStore
    cases hb : u.heap[a.block]? with
    | none => rfl
    | some o => cases o <;> first | rfl | exact (hp _ _ hb).elim
  cases x <;> first | exact absurd rfl (h1 _) | exact absurd rfl (h2 _) | (simp only [Sem.runT, hy, e])
end
theorem Dead.not {α : Type} {P : Program} : ∀ (s : Sem α), Dead s → ∀ (v : World) (es : Array Event), ¬ Fine (s.runT P v es).1 := by
  intro s
  induction s with
  | pure a => intro h; exact h.elim
  | halt x => intro h v es hf; cases x <;> first | exact h.elim | exact hf.elim
  | load m a k ih =>
    intro h v es hf
    simp only [Sem.runT] at hf
    cases hx : v.cell? a with
    | some x => rw [hx] at hf; exact ih x (h x) v _ hf
    | none =>
      rw [hx] at hf
      dsimp only at hf
      cases hl : v.farLoad P a (m == .atomic) with
      | ok r => rw [hl] at hf; exact ih _ (h _) v _ hf
      | error e => rw [hl] at hf; exact far_bad hl hf
  | store m a x k ih =>
    intro h v es hf
    by_cases hone : (∀ l, x ≠ .agg l) ∧ (∀ l, x ≠ .tuple l)
    · cases hx : v.cell? a with
      | some y =>
        cases hz : v.frozen? a with
        | true => rw [store_frozen k es hone.1 hone.2 hx hz] at hf; exact hf.elim
        | false => rw [store_step k es hone.1 hone.2 hx hz] at hf; exact ih h _ _ hf
      | none =>
        rw [store_any k es hone.1 hone.2 hx] at hf
        cases hl : v.farStore P a x (m == .atomic) with
        | ok r => rw [hl] at hf; exact ih h _ _ hf
        | error e => rw [hl] at hf; exact far_bad' hl hf
    · cases x <;> first | exact hf | (exact hone ⟨by simp, by simp⟩)
  | new o k ih => intro h v es hf; exact ih _ (h _) _ _ hf
  | shape r k ih => intro h v es hf; exact ih _ (h _) _ _ hf
  | freeze a n k ih => intro h v es hf; exact ih h _ _ hf
  | frozen a k ih => intro h v es hf; exact ih _ (h _) _ _ hf
  | getObj r k ih =>
    intro h v es hf
    simp only [Sem.runT] at hf
    cases hb : v.heap[r]? with
    | none => rw [hb] at hf; exact hf.elim
    | some o => rw [hb] at hf; cases o <;> first | exact hf.elim | exact ih _ (h _) _ _ hf
  | setObj r o' k ih =>
    intro h v es hf
    simp only [Sem.runT] at hf
    cases hb : v.heap[r]? with
    | none => rw [hb] at hf; exact hf.elim
    | some o => rw [hb] at hf; cases o <;> first | exact hf.elim | exact ih h _ _ hf
  | choose q k ih =>
    intro h v es hf
    simp only [Sem.runT] at hf
    split at hf
    · exact ih _ (h _) _ _ hf
    · exact ih _ (h _) _ _ hf
  | sys c k ih => intro h v es hf; exact ih _ (h _) _ _ hf
  | program k ih => intro h v es hf; exact ih _ (h _) _ _ hf
  | mark m k ih => intro h v es hf; exact ih h _ _ hf
/-- What goes well on the view goes so in the world that it shows. -/
theorem Tame.shown {α : Type} {P : Program} {F S : Nat → Prop} : ∀ (s : Sem α), Tame P s → ∀ (w v : World) (es : Array Event), Hid F S w v → Fine (s.runT P v es).1 →
    Shown F S (s.runT P w es).1 (s.runT P v es).1 ∧ (s.runT P w es).2 = (s.runT P v es).2 ∧ v.heap.size ≤ (Result.at_ (s.runT P v es).1).heap.size ∧
      (∀ e ∈ (s.runT P v es).2, e ∈ es ∨ EvOk F S (Result.at_ (s.runT P v es).1).heap.size e) ∧ Kept F S w (Result.at_ (s.runT P w es).1) := by
  intro s
  induction s with
  | pure a => intro _ w v es h _; exact ⟨.ok a h, rfl, Nat.le_refl _, fun e he => .inl he, .refl ..⟩
  | halt x =>
    intro _ w v es h hf
    cases x <;> first | exact ⟨Shown.panic _ h, rfl, Nat.le_refl _, fun e he => .inl he, .refl ..⟩ | exact hf.elim
  | shape r k ih => intro ht w v es h hf; exact (Dead.not _ (ht _) _ _ hf).elim
  | freeze a n k ih => intro ht; exact ht.elim
  | frozen a k ih => intro ht w v es h hf; exact (Dead.not _ (ht _) _ _ hf).elim
  | sys c k ih => intro ht; exact ht.elim
  | program k ih => intro ht w v es h hf; exact ih P ht w v es h hf
  | mark m k ih =>
    intro ht w v es h hf
    obtain ⟨h1, h2, h3, h4, h5'⟩ := ih ht.2 w v (es.push ⟨.mark m, false, true⟩) h hf
    refine ⟨h1, h2, h3, fun e he => ?_, h5'⟩
    rcases h4 e he with h5 | h5
    · rcases Array.mem_push.1 h5 with h6 | rfl
      · exact .inl h6
      · exact .inr ht.1
    · exact .inr h5
  | choose q k ih =>
    intro ht w v es h hf
    simp only [Sem.runT] at hf ⊢
    by_cases hq : q.forced
    · simp only [hq, if_true] at hf ⊢
      exact ih 0 (ht 0) w v es h hf
    · simp only [hq, Bool.false_eq_true, if_false] at hf ⊢
      have e : v.tape v.drawn q = w.tape w.drawn q := by rw [h.tape, h.drawn]
      rw [e] at hf ⊢
      obtain ⟨h1, h2, h3, h4, h5'⟩ := ih _ (ht _) _ _ es h.draw hf
      exact ⟨h1, h2, h3, h4, (Kept.draw _).trans h5'⟩
  | new o k ih =>
    intro ht w v es h hf
    simp only [Sem.runT] at hf ⊢
    rw [h.size] at *
    obtain ⟨h1, h2, h3, h4, h5'⟩ := ih _ (ht.2 _) _ _ es (h.push ht.1) hf
    refine ⟨h1, h2, ?_, h4, (Kept.push o).trans h5'⟩
    refine Nat.le_trans ?_ h3
    simp
    rw [h.size]
    omega
  | load m a k ih =>
    intro ht w v es h hf
    simp only [Sem.runT] at hf ⊢
    cases hx : v.cell? a with
    | some x =>
      rw [hx] at hf
      obtain ⟨hw, hF, hlt⟩ := h.cell hx
      rw [hw]
      dsimp only at hf ⊢
      obtain ⟨h1, h2, h3, h4, h5'⟩ := ih x (ht x) w v _ h hf
      refine ⟨h1, h2, h3, fun e he => ?_, h5'⟩
      rcases h4 e he with h5 | h5
      · rcases Array.mem_push.1 h5 with h6 | rfl
        · exact .inl h6
        · exact .inr ⟨hF, (fun hh => by cases hh), Nat.lt_of_lt_of_le hlt h3⟩
      · exact .inr h5
    | none =>
      rw [hx] at hf
      exfalso
      unfold World.farLoad at hf
      cases hb : v.heap[a.block]? with
      | none => rw [hb] at hf; dsimp only at hf; unfold World.noCell at hf; rw [hb] at hf; exact hf
      | some o =>
        rw [hb] at hf
        have := h.plain _ _ hb
        cases o <;> first | exact this.elim | (dsimp only at hf; unfold World.noCell at hf; rw [hb] at hf; exact hf)
  | store m a x k ih =>
    intro ht w v es h hf
    by_cases hone : (∀ l, x ≠ .agg l) ∧ (∀ l, x ≠ .tuple l)
    · cases hx : v.cell? a with
      | some y =>
        obtain ⟨hw, hF, hlt⟩ := h.cell hx
        cases hz : v.frozen? a with
        | true => rw [store_frozen k es hone.1 hone.2 hx hz] at hf; exact hf.elim
        | false =>
          obtain ⟨hS, hzw⟩ := h.unfrozen hx hz
          rw [store_step k es hone.1 hone.2 hx hz] at hf ⊢
          rw [store_step k es hone.1 hone.2 hw hzw]
          obtain ⟨h1, h2, h3, h4, h5'⟩ := ih ht _ _ (es.push ⟨.cell a, true, m == .atomic⟩) (h.setCell hF hS x) hf
          have hsz : (v.setCell a x).heap.size = v.heap.size := by simp [World.setCell]
          rw [hsz] at h3
          refine ⟨h1, h2, h3, fun e he => ?_, (Kept.setCell hF hS x).trans h5'⟩
          rcases h4 e he with h5 | h5
          · rcases Array.mem_push.1 h5 with h6 | rfl
            · exact .inl h6
            · exact .inr ⟨hF, fun _ => hS, Nat.lt_of_lt_of_le hlt h3⟩
          · exact .inr h5
      | none =>
        exfalso
        rw [store_far k es hone.1 hone.2 hx h.plain] at hf
        unfold World.noCell at hf
        cases hb : v.heap[a.block]? with
        | none => rw [hb] at hf; exact hf
        | some o => rw [hb] at hf; cases o <;> exact hf
    · exfalso
      cases x <;> first | exact hf | (exact hone ⟨by simp, by simp⟩)
  | getObj r k ih =>
    intro ht w v es h hf
    simp only [Sem.runT] at hf ⊢
    cases hb : v.heap[r]? with
    | none => rw [hb] at hf; exact hf.elim
    | some o =>
      rw [hb] at hf
      by_cases hc : ∃ c t fz, o = .cells c t fz
      · obtain ⟨c, t, fz, rfl⟩ := hc; exact hf.elim
      · obtain ⟨hF, hS, hw, hlt⟩ := h.obj hb (fun c t fz e => hc ⟨c, t, fz, e⟩)
        rw [hw]
        have key : ∀ (u : World), (match o with
          | .cells .. => ((.halt (.stuck "getObj: a row of cells") u, es) : Result _ × Array Event)
          | o => (k o).runT P u (es.push ⟨.obj r, false, o.isChan⟩)) = (k o).runT P u (es.push ⟨.obj r, false, o.isChan⟩) := by
          intro u
          cases o <;> first | rfl | exact absurd ⟨_, _, _, rfl⟩ hc
        cases o <;> first
          | exact absurd ⟨_, _, _, rfl⟩ hc
          | (dsimp only at hf ⊢
             obtain ⟨h1, h2, h3, h4, h5'⟩ := ih _ (ht _) w v _ h hf
             refine ⟨h1, h2, h3, fun e he => ?_, h5'⟩
             rcases h4 e he with h5 | h5
             · rcases Array.mem_push.1 h5 with h6 | rfl
               · exact .inl h6
               · exact .inr ⟨hF, hS, Nat.lt_of_lt_of_le hlt h3⟩
             · exact .inr h5)
  | setObj r o' k ih =>
    intro ht w v es h hf
    simp only [Sem.runT] at hf ⊢
    cases hb : v.heap[r]? with
    | none => rw [hb] at hf; exact hf.elim
    | some o =>
      rw [hb] at hf
      by_cases hc : ∃ c t fz, o = .cells c t fz
      · obtain ⟨c, t, fz, rfl⟩ := hc; exact hf.elim
      · obtain ⟨hF, hS, hw, hlt⟩ := h.obj hb (fun c t fz e => hc ⟨c, t, fz, e⟩)
        rw [hw]
        cases o <;> first
          | exact absurd ⟨_, _, _, rfl⟩ hc
          | (dsimp only at hf ⊢
             obtain ⟨h1, h2, h3, h4, h5'⟩ := ih ht.2 _ _ (es.push ⟨.obj r, true, o'.isChan⟩) (h.setObj hF hS ht.1) hf
             have hsz : ({ v with heap := v.heap.setIfInBounds r o' } : World).heap.size = v.heap.size := by simp
             rw [hsz] at h3
             refine ⟨h1, h2, h3, fun e he => ?_, (Kept.setObj hF hS o').trans h5'⟩
             rcases h4 e he with h5 | h5
             · rcases Array.mem_push.1 h5 with h6 | rfl
               · exact .inl h6
               · exact .inr ⟨hF, hS, Nat.lt_of_lt_of_le hlt h3⟩
             · exact .inr h5)
section
variable {α : Type} {P : Program} {s : Sem α} {v v' : World}
theorem Tame.ok (ht : Tame P s) {x : α} (h : s.run P v = .ok x v') {F S : Nat → Prop} {w : World} (hw : Hid F S w v) :
    ∃ w', s.run P w = .ok x w' ∧ s.events P w #[] = s.events P v #[] ∧ Hid F S w' v' ∧ Kept F S w w' ∧ ∀ e ∈ s.events P v #[], EvOk F S v'.heap.size e := by
  have hf : Fine (s.runT P v #[]).1 := by rw [Sem.runT_eq, h]; trivial
  obtain ⟨h1, h2, h3, h4, h5⟩ := Tame.shown s ht w v #[] hw hf
  rw [Sem.runT_eq, Sem.runT_eq] at h1 h2
  rw [Sem.runT_eq] at h4 h5
  dsimp only at h1 h2 h4 h5
  rw [h] at h1 h4
  generalize hr : s.run P w = r at h1 h5
  cases h1 with
  | ok _ hh => exact ⟨_, rfl, h2, hh, h5, fun e he => (h4 e he).resolve_left (by simp)⟩
theorem Tame.panic (ht : Tame P s) {x : Value} (h : s.run P v = .halt (.panic x) v') {F S : Nat → Prop} {w : World} (hw : Hid F S w v) :
    ∃ w', s.run P w = .halt (.panic x) w' ∧ s.events P w #[] = s.events P v #[] ∧ Hid F S w' v' ∧ Kept F S w w' ∧ ∀ e ∈ s.events P v #[], EvOk F S v'.heap.size e := by
  have hf : Fine (s.runT P v #[]).1 := by rw [Sem.runT_eq, h]; trivial
  obtain ⟨h1, h2, h3, h4, h5⟩ := Tame.shown s ht w v #[] hw hf
  rw [Sem.runT_eq, Sem.runT_eq] at h1 h2
  rw [Sem.runT_eq] at h4 h5
  dsimp only at h1 h2 h4 h5
  rw [h] at h1 h4
  generalize hr : s.run P w = r at h1 h5
  cases h1 with
  | panic _ hh => exact ⟨_, rfl, h2, hh, h5, fun e he => (h4 e he).resolve_left (by simp)⟩
end
end Go.Proofs.YtofkhehcnfiopaaDoor.N
namespace Go.Proofs.YtofkhehcnfiopaaDoor.N
open Go Go.RowKit Go.Conc
set_option linter.unusedSectionVars false
set_option autoImplicit false
/-! Frames of functions and of rounds. -/
def noDefer (o : Oper) : Bool := match o.op with | .defer _ => false | _ => true
/-- Code that a round may hold as it stands. -/
def fits : Code → Bool
  | .region _ ops _ => ops.all noDefer
  | .seq x y => fits x && fits y
  | .cond _ x y => fits x && fits y
  | .block _ c => fits c
  | .loop c => fits c
  | .scope c => fits c
  | .rangeFunc _ _ _ _ => false
  | _ => true
def Ok (b : Frame) (c : Code) : Prop := b.kind ≠ .early ∧ (b.roundOf = none ∨ fits c = true)
def OkOps (b : Frame) (ops : Array Oper) : Prop := b.kind ≠ .early ∧ (b.roundOf = none ∨ ops.all noDefer = true)
def OkOp (b : Frame) (o : Oper) : Prop := b.roundOf = none ∨ noDefer o = true
section
variable {b : Frame} {x y c : Code} {ops : Array Oper}
theorem Ok.seq1 (h : Ok b (x.seq y)) : Ok b x := ⟨h.1, h.2.imp id fun h => by simp [fits] at h; exact h.1⟩
theorem Ok.seq2 (h : Ok b (x.seq y)) : Ok b y := ⟨h.1, h.2.imp id fun h => by simp [fits] at h; exact h.2⟩
theorem Ok.ite {o : Operand} (h : Ok b (.cond o x y)) (t : Bool) : Ok b (if t then x else y) := ⟨h.1, h.2.imp id fun h => by simp [fits] at h; cases t; exact h.2; exact h.1⟩
theorem Ok.block {i : Nat} (h : Ok b (.block i c)) : Ok b c := h
theorem Ok.loop (h : Ok b (.loop c)) : Ok b c := h
theorem Ok.scope (h : Ok b (.scope c)) : Ok b c := h
theorem Ok.region {i : Nat} {d : Bool} (h : Ok b (.region i ops d)) : OkOps b ops := h
theorem OkOps.op (h : OkOps b ops) {i : Nat} {o : Oper} (ho : ops[i]? = some o) : OkOp b o := h.2.imp id fun h => by
  obtain ⟨hi, he⟩ := Array.getElem?_eq_some_iff.1 ho
  have := Array.all_eq_true.1 h i hi
  rw [he] at this
  exact this
end
section moves
variable {P : Program} {main : Bool} {b : Frame} {a : Act} {k : List Item} {cs : List Frame} {w w' : World} {ops : Array Oper}
theorem stepX_skip : stepG P main (G (b.atR a (.code .skip :: k)) cs) w = .go (G (b.atR a k) cs) w := by simp [G, stepG, stepG.exec, Frame.atR]
theorem stepX_label {l : Nat} : stepG P main (G (b.atR a (.code (.label l) :: k)) cs) w = .go (G (b.atR a k) cs) w := by simp [G, stepG, stepG.exec, Frame.atR]
theorem stepX_inBlock {id : Nat} : stepG P main (G (b.atR a (.inBlock id :: k)) cs) w = .go (G (b.atR a k) cs) w := by simp [G, stepG, stepG.exec, Frame.atR]
theorem stepX_seq {x y : Code} : stepG P main (G (b.atR a (.code (.seq x y) :: k)) cs) w = .go (G (b.atR a (.code x :: .code y :: k)) cs) w := by simp [G, stepG, stepG.exec, Frame.atR]
theorem stepX_cond {c : Operand} {x y : Code} {t : Bool} (h : a.eval c = .bool t) :
    stepG P main (G (b.atR a (.code (.cond c x y) :: k)) cs) w = .go (G (b.atR a (.code (if t then x else y) :: k)) cs) w := by
  have h' : (b.atR a (.code (.cond c x y) :: k)).eval c = .bool t := by rw [Frame.eval_atR]; exact h
  simp only [Frame.atR] at h'
  simp [G, stepG, stepG.exec, Frame.atR, h']
theorem stepX_block {id : Nat} {c : Code} : stepG P main (G (b.atR a (.code (.block id c) :: k)) cs) w = .go (G (b.atR a (.code c :: .inBlock id :: k)) cs) w := by simp [G, stepG, stepG.exec, Frame.atR]
theorem stepX_loop {c : Code} : stepG P main (G (b.atR a (.code (.loop c) :: k)) cs) w = .go (G (b.atR a (.code c :: .inLoop c :: k)) cs) w := by simp [G, stepG, stepG.exec, Frame.atR]
theorem stepX_inLoop {c : Code} : stepG P main (G (b.atR a (.inLoop c :: k)) cs) w = .go (G (b.atR a (.code c :: .inLoop c :: k)) cs) w := by simp [G, stepG, stepG.exec, Frame.atR]
theorem stepX_exit {id : Nat} {k' : List Item} (h : exitTo id k = some k') : stepG P main (G (b.atR a (.code (.exit id) :: k)) cs) w = .go (G (b.atR a k') cs) w := by simp [G, stepG, stepG.exec, Frame.atR, h]
theorem stepX_goto {l : Nat} {k' : List Item} (h : gotoIn l k = some k') : stepG P main (G (b.atR a (.code (.goto l) :: k)) cs) w = .go (G (b.atR a k') cs) w := by simp [G, stepG, stepG.exec, Frame.atR, h]
theorem stepX_scope {c : Code} : stepG P main (G (b.atR a (.code (.scope c) :: k)) cs) w = .go (G (b.atR a (.code c :: .inScope c :: k)) cs) w := by simp [G, stepG, stepG.exec, Frame.atR]
theorem stepX_inScope {c : Code} : stepG P main (G (b.atR a (.inScope c :: k)) cs) w = .go (G (b.atR a k) cs) w := by simp [G, stepG, stepG.exec, Frame.atR]
theorem stepX_region {id : Nat} : stepG P main (G (b.atR a (.code (.region id ops false) :: k)) cs) w = .go (G (b.atR a (.inRegion ops (List.range ops.size) :: k)) cs) w := by simp [G, stepG, stepG.exec, Frame.atR]
theorem stepX_region_draw {id : Nat} : stepG P main (G (b.atR a (.code (.region id ops true) :: k)) cs) w = .go (G (b.atR a (.inRegion ops (Region.schedule (P.follows .mixedOrders) ops (w.tape w.drawn (.order b.fn id))) :: k)) cs) { w with drawn := w.drawn + 1 } := by
  simp [G, stepG, stepG.exec, Frame.atR, choose, Sem.run, Question.forced, Question.cut]
theorem stepX_region_end : stepG P main (G (b.atR a (.inRegion ops [] :: k)) cs) w = .go (G (b.atR a k) cs) w := by simp [G, stepG, stepG.exec, Frame.atR]
theorem stepX_end (hb : b.roundOf = none) : stepG P main (G (b.atR a []) cs) w = .go (G { b.atR a [] with mode := .returning } cs) w := by simp [G, stepG, stepG.exec, Frame.atR, hb]
theorem stepX_ret (hb : b.roundOf = none) : stepG P main (G (b.atR a (.code .ret :: k)) cs) w = .go (G { b.atR a (.code .ret :: k) with mode := .returning } cs) w := by simp [G, stepG, stepG.exec, Frame.atR, hb]
theorem stepX_oper {i : Nat} {rest : List Nat} {o : Oper} (ho : ops[i]? = some o) (hw : Region.wanted o (yielded ops a.tmps) = true) (hd : OkOp b o) :
    stepG P main (G (b.atR a (.inRegion ops (i :: rest) :: k)) cs) w = stepG.apply P true (b.atR a (.inRegion ops (i :: rest) :: k)) cs none (execOp a.eval o) w := by
  have he := Frame.eval_atR b a (.inRegion ops (i :: rest) :: k)
  simp only [Frame.atR] at he
  rcases hd with hd | hd
  · rw [hd] at he
    simp [G, stepG, stepG.exec, stepG.oper, Frame.oper?, Frame.atR, ho, hw, he, hd]
  · unfold noDefer at hd
    simp only [G, stepG, stepG.exec, stepG.oper, Frame.oper?, Frame.atR, ho, hw, he, Option.map_some, Option.getD_some, if_true]
    split <;> simp_all
theorem fin_atR {i : Nat} {rest : List Nat} {o : Oper} (ho : ops[i]? = some o) (x : Value) : (b.atR a (.inRegion ops (i :: rest) :: k)).finish x = b.atR (a.put o.dst x) (.inRegion ops rest :: k) := by rw [Frame.finish_atR, ho]; rfl
theorem stepX_value {i : Nat} {rest : List Nat} {o : Oper} {v : Value} (ho : ops[i]? = some o) (hw : Region.wanted o (yielded ops a.tmps) = true) (hd : OkOp b o)
    (hk : b.kind ≠ .early) (hr : (execOp a.eval o).run P w = .ok (.value v) w') :
    stepG P main (G (b.atR a (.inRegion ops (i :: rest) :: k)) cs) w = .go (G (b.atR (a.put o.dst v) (.inRegion ops rest :: k)) cs) w' (listed P b.fn a o w) := by
  have hk' : (b.kind == CallKind.early) = false := by simpa using hk
  rw [stepX_oper ho hw hd, ← fin_atR ho]
  simp [stepG.apply, hr, G, Frame.atR, hk', GStep.after, listed]
theorem stepX_none {i : Nat} {rest : List Nat} {o : Oper} (ho : ops[i]? = some o) (hw : Region.wanted o (yielded ops a.tmps) = true) (hd : OkOp b o)
    (hk : b.kind ≠ .early) (hr : (execOp a.eval o).run P w = .ok .skip w') :
    stepG P main (G (b.atR a (.inRegion ops (i :: rest) :: k)) cs) w = .go (G (b.atR (a.put o.dst undef) (.inRegion ops rest :: k)) cs) w' (listed P b.fn a o w) := by
  have hk' : (b.kind == CallKind.early) = false := by simpa using hk
  rw [stepX_oper ho hw hd, ← fin_atR ho]
  simp [stepG.apply, hr, G, Frame.atR, hk', GStep.after, listed]
theorem stepX_enters {i : Nat} {rest : List Nat} {o : Oper} {f : FuncId} {args : Array Value} (ho : ops[i]? = some o) (hw : Region.wanted o (yielded ops a.tmps) = true) (hd : OkOp b o)
    (hk : b.kind ≠ .early) (hr : (execOp a.eval o).run P w = .ok (.enter f args) w') :
    stepG P main (G (b.atR a (.inRegion ops (i :: rest) :: k)) cs) w = .go (G (Frame.enter P f args .normal) (b.atR a (.inRegion ops (i :: rest) :: k) :: cs)) w' (listed P b.fn a o w) := by
  have hk' : (b.kind == CallKind.early) = false := by simpa using hk
  rw [stepX_oper ho hw hd]
  simp [stepG.apply, hr, G, Frame.atR, hk', GStep.after, listed]
theorem stepX_rounds {i : Nat} {rest : List Nat} {o : Oper} {l : Nat} {f : FuncId} {tmps : Array Value} {assign body : Code} (ho : ops[i]? = some o) (hw : Region.wanted o (yielded ops a.tmps) = true) (hd : OkOp b o)
    (hk : b.kind ≠ .early) (hr : (execOp a.eval o).run P w = .ok (.round l f tmps assign body) w') :
    stepG P main (G (b.atR a (.inRegion ops (i :: rest) :: k)) cs) w = .go (G (Frame.round l f tmps assign body .normal) (b.atR a (.inRegion ops (i :: rest) :: k) :: cs)) w' (listed P b.fn a o w) := by
  have hk' : (b.kind == CallKind.early) = false := by simpa using hk
  rw [stepX_oper ho hw hd]
  simp [stepG.apply, hr, G, Frame.atR, hk', GStep.after, listed]
theorem stepX_defers {i : Nat} {rest : List Nat} {o : Oper} {df : Deferred} (ho : ops[i]? = some o) (hw : Region.wanted o (yielded ops a.tmps) = true) (hd : OkOp b o)
    (hk : b.kind ≠ .early) (hr : (execOp a.eval o).run P w = .ok (.defer df) w') :
    stepG P main (G (b.atR a (.inRegion ops (i :: rest) :: k)) cs) w = .go (G (b.atR ({ a with defers := df :: a.defers }.put o.dst undef) (.inRegion ops rest :: k)) cs) w' (listed P b.fn a o w) := by
  have hk' : (b.kind == CallKind.early) = false := by simpa using hk
  have hfin : (b.atR { a with defers := df :: a.defers } (.inRegion ops (i :: rest) :: k)).finish undef = b.atR ({ a with defers := df :: a.defers }.put o.dst undef) (.inRegion ops rest :: k) := fin_atR ho _
  rw [stepX_oper ho hw hd, ← hfin]
  simp [stepG.apply, hr, G, Frame.atR, hk', GStep.after, listed]
theorem stepX_panics {i : Nat} {rest : List Nat} {o : Oper} {v : Value} (ho : ops[i]? = some o) (hw : Region.wanted o (yielded ops a.tmps) = true) (hd : OkOp b o)
    (hk : b.kind ≠ .early) (hr : (execOp a.eval o).run P w = .halt (.panic v) w') :
    stepG P main (G (b.atR a (.inRegion ops (i :: rest) :: k)) cs) w = .go (G { b.atR a (.inRegion ops (i :: rest) :: k) with mode := .panicking [{ v, recovered := false }] } cs) w' (listed P b.fn a o w) := by
  have hk' : (b.kind == CallKind.early) = false := by simpa using hk
  rw [stepX_oper ho hw hd]
  simp [stepG.apply, hr, G, Frame.atR, Frame.raise, hk', GStep.after, listed]
theorem stepX_nothing {i : Nat} {rest : List Nat} {o : Oper} (ho : ops[i]? = some o) (hw : Region.wanted o (yielded ops a.tmps) = false) :
    stepG P main (G (b.atR a (.inRegion ops (i :: rest) :: k)) cs) w = .go (G (b.atR (a.put o.dst undef) (.inRegion ops rest :: k)) cs) w := by
  rw [← fin_atR ho undef]
  simp [G, stepG, stepG.exec, Frame.atR, ho, hw]
theorem stepX_comm {i : Nat} {rest : List Nat} {o : Oper} {cases : Array CommCase} {blocking : Bool} {shape : CommShape} (ho : ops[i]? = some o) (hw : Region.wanted o (yielded ops a.tmps) = true) (hd : OkOp b o)
    (hk : b.kind ≠ .early) (hr : (execOp a.eval o).run P w = .ok (.comm cases blocking shape) w') :
    stepG P main (G (b.atR a (.inRegion ops (i :: rest) :: k)) cs) w = .comm (G (b.atR a (.inRegion ops (i :: rest) :: k)) cs) cases blocking shape w' (listed P b.fn a o w) := by
  have hk' : (b.kind == CallKind.early) = false := by simpa using hk
  rw [stepX_oper ho hw hd]
  simp [stepG.apply, hr, G, Frame.atR, hk', GStep.after, listed]
/-! The ends of rounds. -/
end moves
end Go.Proofs.YtofkhehcnfiopaaDoor.N
namespace Go.Proofs.YtofkhehcnfiopaaDoor.N
open Go Go.RowKit Go.Conc
set_option linter.unusedSectionVars false
set_option autoImplicit false

/-- What the others may do to a view: they add to it. -/
def Rl (v v₁ : World) : Prop := Below v.heap.size v v₁
theorem Rl.refl (v : World) : Rl v v := Below.refl _ _
theorem Rl.trans {a b c : World} (h : Rl a b) (k : Rl b c) : Rl a c := Below.trans h (k.mono h.size)
theorem Hid.self {F S : Nat → Prop} {w v : World} (h : Hid F S w v) : Hid (fun _ => False) (fun _ => False) v v := ⟨rfl, rfl, rfl, rfl, fun _ x => x.elim, fun _ x => x.elim, fun _ x => x.elim, fun _ x => x.elim, fun _ _ _ => rfl, h.plain⟩
/-- One own step, on the view and in whatever world it shows. -/
structure Stp (P : Program) (main : Bool) (g : Goroutine) (v : World) (g' : Goroutine) (v' : World) (es : Array Event) : Prop where
  real : ∀ F S w, Hid F S w v → ∃ w', stepG P main g w = .go g' w' es ∧ Hid F S w' v' ∧ Kept F S w w' ∧ ∀ e ∈ es, EvOk F S v'.heap.size e
  out : ∀ F S w, Hid F S w v → v'.output = v.output
/-- What a goroutine may ask of the others. -/
class Sys where
  main : Bool
  sy : Goroutine → World → (Goroutine → World → Prop) → Prop

/-- On its way to a stop, whatever the others do meanwhile. -/
inductive Gs (P : Program) [I : Sys] (Stop : Goroutine → World → Prop) : Goroutine → World → Prop
  | stop {g : Goroutine} {v : World} (h : ∀ v₁, Rl v v₁ → Stop g v₁) : Gs P Stop g v
  | step {g : Goroutine} {v : World} (hr : g.status = .running) (nx : World → Goroutine × World × Array Event)
      (h : ∀ v₁, Rl v v₁ → Stp P I.main g v₁ (nx v₁).1 (nx v₁).2.1 (nx v₁).2.2) (k : ∀ v₁, Rl v v₁ → Gs P Stop (nx v₁).1 (nx v₁).2.1) : Gs P Stop g v
  | sync {g : Goroutine} {v : World} (nx : World → Goroutine → World → Prop)
      (h : ∀ v₁, Rl v v₁ → I.sy g v₁ (nx v₁)) (k : ∀ v₁, Rl v v₁ → ∀ g' v', nx v₁ g' v' → Gs P Stop g' v') : Gs P Stop g v

section
variable {P : Program} [I : Sys] {Stop Stop' : Goroutine → World → Prop} {g : Goroutine} {v v' : World}
theorem Gs.rely (h : Gs P Stop g v) (hr : Rl v v') : Gs P Stop g v' := by
  cases h with
  | stop h => exact .stop fun v₁ h1 => h v₁ (hr.trans h1)
  | step hs nx h k => exact .step hs nx (fun v₁ h1 => h v₁ (hr.trans h1)) (fun v₁ h1 => k v₁ (hr.trans h1))
  | sync nx h k => exact .sync nx (fun v₁ h1 => h v₁ (hr.trans h1)) (fun v₁ h1 => k v₁ (hr.trans h1))
theorem Gs.bind (h : Gs P Stop g v) (k : ∀ g v, Stop g v → Gs P Stop' g v) : Gs P Stop' g v := by
  have key : ∀ {g v}, Gs P Stop g v → ∀ {v'}, Rl v v' → Gs P Stop' g v' := by
    intro g v h
    induction h with
    | stop h => exact fun hr => k _ _ (h _ hr)
    | step hs nx h _ ih => exact fun hr => .step hs nx (fun v₁ h1 => h v₁ (hr.trans h1)) (fun v₁ h1 => ih v₁ (hr.trans h1) (Rl.refl _))
    | sync nx h _ ih => exact fun hr => .sync nx (fun v₁ h1 => h v₁ (hr.trans h1)) (fun v₁ h1 g' v' hn => ih v₁ (hr.trans h1) g' v' hn (Rl.refl _))
  exact key h (Rl.refl _)
theorem Gs.mono (h : Gs P Stop g v) (k : ∀ g v, Stop g v → Stop' g v) : Gs P Stop' g v := by
  induction h with
  | stop h => exact .stop fun v₁ h1 => k _ _ (h v₁ h1)
  | step hs nx h _ ih => exact .step hs nx h ih
  | sync nx h _ ih => exact .sync nx h ih
theorem Stp.still {main : Bool} {g' : Goroutine} (h : ∀ w : World, stepG P main g w = .go g' w) : Stp P main g v g' v #[] :=
  ⟨fun _ _ w hw => ⟨w, h w, hw, .refl .., fun e he => by simp at he⟩, fun _ _ _ _ => rfl⟩
/-- One step, the same in whatever world. -/
theorem Gs.one {g' : Goroutine} (hr : g.status = .running) (h : ∀ w : World, stepG P I.main g w = .go g' w) (k : Gs P Stop g' v) : Gs P Stop g v :=
  .step hr (fun v₁ => (g', v₁, #[])) (fun _ _ => Stp.still h) (fun _ h1 => k.rely h1)
theorem Gs.step' (hr : g.status = .running) (h : ∀ v₁, Rl v v₁ → ∃ g' v' es, Stp P I.main g v₁ g' v' es ∧ Gs P Stop g' v') : Gs P Stop g v := by
  have h1 : ∀ v₁, ∃ x : Goroutine × World × Array Event, Rl v v₁ → Stp P I.main g v₁ x.1 x.2.1 x.2.2 ∧ Gs P Stop x.1 x.2.1 := fun v₁ => by
    by_cases hv : Rl v v₁
    · obtain ⟨g', v', es, h⟩ := h v₁ hv
      exact ⟨(g', v', es), fun _ => h⟩
    · exact ⟨(g, v, #[]), fun x => absurd x hv⟩
  exact .step hr (fun v₁ => (h1 v₁).choose) (fun v₁ hv => ((h1 v₁).choose_spec hv).1) (fun v₁ hv => ((h1 v₁).choose_spec hv).2)
theorem Gs.sync' (h : ∀ v₁, Rl v v₁ → I.sy g v₁ (fun g' v' => Gs P Stop g' v')) : Gs P Stop g v :=
  .sync (fun _ g' v' => Gs P Stop g' v') h (fun _ _ _ _ h => h)
end

/-! A piece of code. -/
/-- Where a piece of code is left. -/
def ArrG (b : Frame) (k : List Item) (cs : List Frame) (e : Exit) (a : Act) (g : Goroutine) : Prop :=
  match e with
  | .normal => g = G (b.atR a k) cs
  | .exit id => ∃ k₁, exitTo id k₁ = exitTo id k ∧ g = G (b.atR a (.code (.exit id) :: k₁)) cs
  | .goto l => ∃ k₁, gotoIn l k₁ = gotoIn l k ∧ g = G (b.atR a (.code (.goto l) :: k₁)) cs
  | .ret => ∃ todo, g = G (b.atR a (.code .ret :: todo)) cs
  | .panic ch => ∃ todo, g = G { b.atR a todo with mode := .panicking ch } cs
  | .outgrown => False
/-- .. in a way and a state that satisfy Q, before the others went on. -/
def Out (Q : Exit → Act → World → Prop) (b : Frame) (k : List Item) (cs : List Frame) (g : Goroutine) (v : World) : Prop := ∃ e a v₀, Q e a v₀ ∧ Rl v₀ v ∧ ArrG b k cs e a g
def wp (P : Program) [Sys] (c : Code) (Q : Exit → Act → World → Prop) (a : Act) (v : World) : Prop :=
  ∀ (b : Frame) (k : List Item) (cs : List Frame), Ok b c → Gs P (Out Q b k cs) (G (b.atR a (.code c :: k)) cs) v

section
variable {P : Program} [I : Sys] {Q Q' : Exit → Act → World → Prop} {a : Act} {v v₀ : World}
theorem Out.now {b : Frame} {k : List Item} {cs : List Frame} {e : Exit} {g : Goroutine} (h : Q e a v) (harr : ArrG b k cs e a g) : Gs P (Out Q b k cs) g v := .stop fun _ h1 => ⟨e, a, v, h, h1, harr⟩
theorem Out.late {b : Frame} {k : List Item} {cs : List Frame} {e : Exit} {g : Goroutine} (h : Q e a v₀) (hr : Rl v₀ v) (harr : ArrG b k cs e a g) : Gs P (Out Q b k cs) g v := .stop fun _ h1 => ⟨e, a, v₀, h, hr.trans h1, harr⟩
theorem wp_mono {c : Code} (h : wp P c Q a v) (hq : ∀ e a v, Q e a v → Q' e a v) : wp P c Q' a v :=
  fun b k cs hb => (h b k cs hb).mono fun _ _ ⟨e, a', v0, h1, h2⟩ => ⟨e, a', v0, hq _ _ _ h1, h2⟩
theorem wp_skip (h : Q .normal a v) : wp P .skip Q a v := fun _ _ _ _ => .one rfl (fun _ => stepX_skip) (Out.now h rfl)
theorem wp_label {l : Nat} (h : Q .normal a v) : wp P (.label l) Q a v := fun _ _ _ _ => .one rfl (fun _ => stepX_label) (Out.now h rfl)
theorem wp_exit {id : Nat} (h : Q (.exit id) a v) : wp P (.exit id) Q a v := fun _ k _ _ => Out.now h ⟨k, rfl, rfl⟩
theorem wp_goto {l : Nat} (h : Q (.goto l) a v) : wp P (.goto l) Q a v := fun _ k _ _ => Out.now h ⟨k, rfl, rfl⟩
theorem wp_ret (h : Q .ret a v) : wp P .ret Q a v := fun _ k _ _ => Out.now h ⟨k, rfl⟩

theorem exitTo_plain' {x : Item} (hx : x.plain = true) (id : Nat) (k : List Item) : exitTo id (x :: k) = exitTo id k := by cases x <;> simp_all [exitTo, Item.plain]
theorem gotoIn_plain' {x : Item} (hx : x.plain = true) (l : Nat) (k : List Item) : gotoIn l (x :: k) = gotoIn l k := by cases x <;> simp_all [gotoIn, Item.plain]
/-- Past an item that catches nothing. -/
theorem ArrG.pass {b : Frame} {x : Item} {k : List Item} {cs : List Frame} {e : Exit} {a : Act} {g : Goroutine} (hx : x.plain = true) (he : e ≠ .normal) (h : ArrG b (x :: k) cs e a g) : ArrG b k cs e a g := by
  cases e with
  | normal => exact absurd rfl he
  | exit id => obtain ⟨k₁, h1, h2⟩ := h; exact ⟨k₁, h1.trans (exitTo_plain' hx id k), h2⟩
  | goto l => obtain ⟨k₁, h1, h2⟩ := h; exact ⟨k₁, h1.trans (gotoIn_plain' hx l k), h2⟩
  | ret => exact h
  | panic ch => exact h
  | outgrown => exact h
theorem wp_seq {x y : Code} (h : wp P x (Exit.then (wp P y Q) Q) a v) : wp P (x.seq y) Q a v := by
  intro b k cs hb
  refine .one rfl (fun _ => stepX_seq) ((h b (.code y :: k) cs hb.seq1).bind ?_)
  rintro g w' ⟨e, a', v0, hq, hr, harr⟩
  cases e with
  | normal =>
    obtain rfl := harr
    exact (hq b k cs hb.seq2).rely hr
  | exit id => exact Out.late hq hr (harr.pass rfl (by simp))
  | goto l => exact Out.late hq hr (harr.pass rfl (by simp))
  | ret => exact Out.late hq hr (harr.pass rfl (by simp))
  | panic ch => exact Out.late hq hr (harr.pass rfl (by simp))
  | outgrown => exact harr.elim
theorem wp_cond {c : Operand} {x y : Code} {t : Bool} (hc : a.eval c = .bool t) (h : wp P (if t then x else y) Q a v) : wp P (.cond c x y) Q a v :=
  fun b k cs hb => .one rfl (fun _ => stepX_cond hc) (h b k cs (hb.ite t))
theorem wp_cond_true {c : Operand} {x y : Code} (hc : a.eval c = .bool true) (h : wp P x Q a v) : wp P (.cond c x y) Q a v := wp_cond hc h
theorem wp_cond_false {c : Operand} {x y : Code} (hc : a.eval c = .bool false) (h : wp P y Q a v) : wp P (.cond c x y) Q a v := wp_cond hc h
theorem wp_block {id : Nat} {c : Code} (h : wp P c (Exit.inBlock id Q) a v) : wp P (.block id c) Q a v := by
  intro b k cs hb
  refine .one rfl (fun _ => stepX_block) ((h b (.inBlock id :: k) cs hb.block).bind ?_)
  rintro g w' ⟨e, a', v0, hq, hr, harr⟩
  cases e with
  | normal =>
    obtain rfl := harr
    exact .one rfl (fun _ => stepX_inBlock) (Out.late (e := .normal) hq hr rfl)
  | exit id' =>
    obtain ⟨k₁, h1, rfl⟩ := harr
    by_cases hid : id' = id
    · simp only [Exit.inBlock, hid, if_true] at hq
      subst hid
      have hk : exitTo id' k₁ = some k := by rw [h1]; simp [exitTo]
      exact .one rfl (fun _ => stepX_exit hk) (Out.late (e := .normal) hq hr rfl)
    · simp only [Exit.inBlock, hid, if_false] at hq
      have hne : (id == id') = false := by simp; exact fun h => hid h.symm
      exact Out.late hq hr ⟨k₁, by rw [h1]; simp [exitTo, hne], rfl⟩
  | goto l =>
    obtain ⟨k₁, h1, rfl⟩ := harr
    exact Out.late (e := .goto l) hq hr ⟨k₁, by rw [h1]; simp [gotoIn], rfl⟩
  | ret => exact Out.late (e := .ret) hq hr harr
  | panic ch => exact Out.late (e := .panic ch) hq hr harr
  | outgrown => exact harr.elim
theorem wp_loop_ghost {c : Code} (I : Nat → Act → World → Prop) (n : Nat) (h0 : I n a v)
    (round : ∀ n a w, I n a w → wp P c (Exit.then (fun a' w' => ∃ m, m < n ∧ I m a' w') Q) a w) : wp P (.loop c) Q a v := by
  intro b k cs hb
  have key : ∀ n a w, I n a w → Gs P (Out Q b k cs) (G (b.atR a (.code c :: .inLoop c :: k)) cs) w := by
    intro n
    induction n using Nat.strongRecOn with
    | _ n ih =>
      intro a w h
      refine (round n a w h b (.inLoop c :: k) cs hb.loop).bind ?_
      rintro g w' ⟨e, a', v0, hq, hr, harr⟩
      cases e with
      | normal =>
        obtain rfl := harr
        obtain ⟨m, hm, hi⟩ := hq
        exact .one rfl (fun _ => stepX_inLoop) ((ih m hm a' _ hi).rely hr)
      | exit id => exact Out.late hq hr (harr.pass rfl (by simp))
      | goto l => exact Out.late hq hr (harr.pass rfl (by simp))
      | ret => exact Out.late hq hr (harr.pass rfl (by simp))
      | panic ch => exact Out.late hq hr (harr.pass rfl (by simp))
      | outgrown => exact harr.elim
  exact .one rfl (fun _ => stepX_loop) (key n a v h0)
end
end Go.Proofs.YtofkhehcnfiopaaDoor.N
namespace Go.Proofs.YtofkhehcnfiopaaDoor.N
open Go Go.RowKit Go.Conc
set_option linter.unusedSectionVars false
set_option autoImplicit false

/-- The results read this, whatever the others did. -/
def ResV (P : Program) (fn : Func) (tmps : Array Value) (x : Value) (v : World) : Prop := Tame P (results fn tmps) ∧ ∀ v₁, Rl v v₁ → (results fn tmps).run P v₁ = .ok x v₁
theorem ResV.rely {P : Program} {fn : Func} {tmps : Array Value} {x : Value} {v v' : World} (h : ResV P fn tmps x v) (hr : Rl v v') : ResV P fn tmps x v' := ⟨h.1, fun v₁ h1 => h.2 v₁ (hr.trans h1)⟩
/-- A frame on its way out. -/
def Leaving (P : Program) (fr : Frame) (v : World) : Ending → Prop
  | .returned x => fr.mode = .returning ∧ fr.defers = [] ∧ fr.kind = .normal ∧ ∃ fn, P.funcs[fr.fn]? = some fn ∧ ResV P fn fr.tmps x v
  | .panicked chain => fr.mode = .panicking chain ∧ fr.defers = [] ∧ ∃ fn, P.funcs[fr.fn]? = some fn
  | .outgrown => False
theorem Leaving.rely {P : Program} {fr : Frame} {v v' : World} {e : Ending} (h : Leaving P fr v e) (hr : Rl v v') : Leaving P fr v' e := by
  cases e with
  | returned x => obtain ⟨h1, h2, h3, fn, h4, h5⟩ := h; exact ⟨h1, h2, h3, fn, h4, h5.rely hr⟩
  | panicked ch => exact h
  | outgrown => exact h
/-- A contract in company. -/
def Calls (P : Program) [Sys] (f : FuncId) (args : Array Value) (v : World) (R : Ending → World → Prop) : Prop :=
  ∀ cs, Gs P (fun g v' => ∃ e fr v₀, R e v₀ ∧ Rl v₀ v' ∧ g = G fr cs ∧ fr.fn = f ∧ Leaving P fr v' e) (G (Frame.enter P f args .normal) cs) v
section
variable {P : Program} [I : Sys] {f : FuncId} {args : Array Value} {v v' : World} {R R' : Ending → World → Prop}
theorem Calls.mono (h : Calls P f args v R) (hr : ∀ e v', R e v' → R' e v') : Calls P f args v R' :=
  fun cs => (h cs).mono fun _ _ ⟨e, fr, v0, h1, h2⟩ => ⟨e, fr, v0, hr _ _ h1, h2⟩
theorem Calls.rely (h : Calls P f args v R) (hr : Rl v v') : Calls P f args v' R := fun cs => (h cs).rely hr
theorem mem_seen' {fn : FuncId} {es : Array Event} {Q : Event → Prop} (h : ∀ e ∈ es, Q e) : ∀ e ∈ seen P fn es, Q e := fun _ he => h _ (mem_seen he)
theorem Stp.leaving {main : Bool} {fr c : Frame} {cs : List Frame} {x : Value} (h : Leaving P fr v (.returned x)) :
    ∃ es, Stp P main (G fr (c :: cs)) v (G (c.finish x) cs) v es := by
  obtain ⟨hm, hd, hk, fn, hf, ht, hr⟩ := h
  refine ⟨seen P fr.fn ((results fn fr.tmps).events P v #[]), ⟨fun F S w hw => ?_, fun _ _ _ _ => rfl⟩⟩
  obtain ⟨w', h1, h2, h3, h4, h5⟩ := ht.ok (hr v (Rl.refl v)) hw
  refine ⟨w', ?_, h3, h4, mem_seen' h5⟩
  rw [← h2]
  simp [G, stepG, unwind, doReturn, hm, hd, hk, hf, h1, GStep.after]
theorem Stp.raising {main : Bool} {fr c : Frame} {cs : List Frame} {ch : List PanicEntry} (h : Leaving P fr v (.panicked ch)) : Stp P main (G fr (c :: cs)) v (G (c.raise ch) cs) v #[] := by
  obtain ⟨hm, hd, fn, hf⟩ := h
  exact .still fun w => by simp [G, stepG, unwind, Frame.catches, hm, hd, hf]
end

/-! Rounds of a range over a function. -/
/-- A round on its way back to yield's caller. -/
def RLeaving (P : Program) (l : Nat) (fr : Frame) (R : Ending → World → Prop) (v : World) : Prop :=
  ∃ (b : Frame) (a : Act) (k : List Item) (jump : Option Code), fr = b.atR a k ∧ b.roundOf = some l ∧ b.kind = .normal ∧
    ((k = [] ∧ jump = none) ∨ (∃ k', k = .code .ret :: k' ∧ jump = some .ret) ∨ ∃ id k', k = .code (.exit id) :: k' ∧ exitTo id k' = none ∧ jump = some (.exit id)) ∧
    ∀ v₁, Rl v v₁ → ∃ x v', (Instr.endRound l jump).run P v₁ = .ok x v' ∧ R (.returned x) v'
theorem RLeaving.mono {P : Program} {l : Nat} {fr : Frame} {R R' : Ending → World → Prop} {v : World} (h : RLeaving P l fr R v) (hr : ∀ e v', R e v' → R' e v') : RLeaving P l fr R' v := by
  obtain ⟨b, a, k, jump, h1, h2, h3, h4, h5⟩ := h
  exact ⟨b, a, k, jump, h1, h2, h3, h4, fun v₁ hv => let ⟨x, v', h6, h7⟩ := h5 v₁ hv; ⟨x, v', h6, hr _ _ h7⟩⟩
theorem RLeaving.rely {P : Program} {l : Nat} {fr : Frame} {R : Ending → World → Prop} {v v' : World} (h : RLeaving P l fr R v) (hr : Rl v v') : RLeaving P l fr R v' := by
  obtain ⟨b, a, k, jump, h1, h2, h3, h4, h5⟩ := h
  exact ⟨b, a, k, jump, h1, h2, h3, h4, fun v₁ hv => h5 v₁ (hr.trans hv)⟩
def Rounds (P : Program) [Sys] (l : Nat) (f : FuncId) (tmps : Array Value) (assign body : Code) (v : World) (R : Ending → World → Prop) : Prop :=
  ∀ cs, Gs P (fun g v' => ∃ fr, g = G fr cs ∧ RLeaving P l fr R v') (G (Frame.round l f tmps assign body .normal) cs) v
section
variable {P : Program} [I : Sys] {l : Nat} {v v' : World} {R R' : Ending → World → Prop}
theorem Rounds.mono {f : FuncId} {tmps : Array Value} {assign body : Code} (h : Rounds P l f tmps assign body v R) (hr : ∀ e v', R e v' → R' e v') : Rounds P l f tmps assign body v R' :=
  fun cs => (h cs).mono fun _ _ ⟨fr, h1, h2⟩ => ⟨fr, h1, h2.mono hr⟩
theorem Rounds.rely {f : FuncId} {tmps : Array Value} {assign body : Code} (h : Rounds P l f tmps assign body v R) (hr : Rl v v') : Rounds P l f tmps assign body v' R := fun cs => (h cs).rely hr
theorem tame_getLoop (l : Nat) : Tame P (Instr.getLoop l) := Tame.bind (fun _ => trivial) fun o => by split <;> trivial
theorem tame_endRound (l : Nat) (jump : Option Code) : Tame P (Instr.endRound l jump) := Tame.bind (tame_getLoop l) fun r => Tame.bind ⟨trivial, trivial⟩ fun _ => trivial
theorem Stp.round {main : Bool} {fr c : Frame} {cs : List Frame} (h : RLeaving P l fr R v) : ∃ x v' es, Stp P main (G fr (c :: cs)) v (G (c.finish x) cs) v' es ∧ R (.returned x) v' := by
  obtain ⟨b, a, k, jump, rfl, hb, hk, hj, h5⟩ := h
  obtain ⟨x, v', hr, hR⟩ := h5 v (Rl.refl v)
  refine ⟨x, v', seen P b.fn ((Instr.endRound l jump).events P v #[]), ⟨fun F S w hw => ?_, fun _ _ w hw => ?_⟩, hR⟩
  · obtain ⟨w', h1, h2, h3, h4, h5⟩ := (tame_endRound l jump).ok hr hw
    refine ⟨w', ?_, h3, h4, mem_seen' h5⟩
    rw [← h2]
    rcases hj with ⟨rfl, rfl⟩ | ⟨k', rfl, rfl⟩ | ⟨id, k', rfl, hx, rfl⟩
    · simp [G, stepG, stepG.exec, Frame.atR, hb, hk, h1, doReturn, GStep.after, Sem.runT_eq]
    · simp [G, stepG, stepG.exec, Frame.atR, hb, hk, h1, doReturn, GStep.after, Sem.runT_eq]
    · simp [G, stepG, stepG.exec, Frame.atR, hb, hk, hx, h1, doReturn, GStep.after, Sem.runT_eq]
  · obtain ⟨w', h1, _, _, h4, _⟩ := (tame_endRound l jump).ok hr hw.self
    rw [hr] at h1
    cases h1
    exact h4.output
end
/-! Operations. -/
def upon (P : Program) [Sys] (o : Oper) (a : Act) (next : Act → World → Prop) (Q : Exit → Act → World → Prop) : Result Next → Prop
  | .ok (.value x) v' => next (a.put o.dst x) v'
  | .ok .skip v' => next (a.put o.dst undef) v'
  | .ok (.defer d) v' => next ({ a with defers := d :: a.defers }.put o.dst undef) v'
  | .ok (.enter f args) v' => Calls P f args v' fun
      | .returned x, v'' => next (a.put o.dst x) v''
      | .panicked chain, v'' => Q (.panic chain) a v''
      | .outgrown, _ => False
  | .ok (.round l f tmps assign body) v' => Rounds P l f tmps assign body v' fun
      | .returned x, v'' => next (a.put o.dst x) v''
      | _, _ => False
  | .halt (.panic x) v' => Q (.panic [{ v := x, recovered := false }]) a v'
  | _ => False
/-- What an operation does in this very world. -/
def OpNow (P : Program) [Sys] (o : Oper) (a : Act) (v : World) (K : Act → World → Prop) (Q : Exit → Act → World → Prop) : Prop :=
  Tame P (execOp a.eval o) ∧ upon P o a K Q ((execOp a.eval o).run P v)
/-- An operation that the others take part in. -/
def SyOp (P : Program) [I : Sys] (o : Oper) (a : Act) (v : World) (K : Value → World → Prop) : Prop :=
  ∀ (a₁ : Act) (o₁ : Oper), execOp a₁.eval o₁ = execOp a.eval o → o₁.dst = o.dst → o₁.op = o.op → ∀ (ops : Array Oper) (i : Nat) (rest : List Nat) (b : Frame) (k : List Item) (cs : List Frame),
    ops[i]? = some o₁ → Region.wanted o₁ (yielded ops a₁.tmps) = true → OkOp b o₁ → b.kind ≠ .early →
    I.sy (G (b.atR a₁ (.inRegion ops (i :: rest) :: k)) cs) v fun g' v' => ∃ x, g' = G (b.atR (a₁.put o.dst x) (.inRegion ops rest :: k)) cs ∧ K x v'
theorem SyOp.same {P : Program} [I : Sys] {o o' : Oper} {a a' : Act} {v : World} {K : Value → World → Prop} (h : SyOp P o a v K) (he : execOp a'.eval o' = execOp a.eval o) (hd : o'.dst = o.dst) (hp : o'.op = o.op) : SyOp P o' a' v K := by
  intro a₁ o₁ h1 h2 h7 ops i rest b k cs h3 h4 h5 h6
  have := h a₁ o₁ (h1.trans he) (h2.trans hd) (h7.trans hp) ops i rest b k cs h3 h4 h5 h6
  rw [← hd] at this
  exact this
theorem upon_mono {P : Program} [Sys] {o : Oper} {a : Act} {K K' : Act → World → Prop} {Q Q' : Exit → Act → World → Prop} (h : ∀ a w, K a w → K' a w) (hQ : ∀ ch a w, Q (.panic ch) a w → Q' (.panic ch) a w) {r : Result Next} (hh : upon P o a K Q r) : upon P o a K' Q' r := by
  cases r with
  | ok n w' =>
    cases n <;> simp only [upon] at hh ⊢
    case value v => exact h _ _ hh
    case skip => exact h _ _ hh
    case defer d => exact h _ _ hh
    case enter f args =>
      refine hh.mono fun e w'' he => ?_
      cases e with
      | returned v => exact h _ _ he
      | panicked ch => exact hQ _ _ _ he
      | outgrown => exact he
    case round l f tmps assign body =>
      refine hh.mono fun e w'' he => ?_
      cases e with
      | returned v => exact h _ _ he
      | panicked ch => exact he
      | outgrown => exact he
  | halt x w' =>
    cases x <;> simp only [upon] at hh ⊢
    exact hQ _ _ _ hh
theorem OpNow.mono {P : Program} [Sys] {o : Oper} {a : Act} {w : World} {K K' : Act → World → Prop} {Q Q' : Exit → Act → World → Prop} (h : ∀ a w, K a w → K' a w) (hQ : ∀ ch a w, Q (.panic ch) a w → Q' (.panic ch) a w) (hh : OpNow P o a w K Q) : OpNow P o a w K' Q' := ⟨hh.1, upon_mono h hQ hh.2⟩
/-- .. whatever the others did ahead of it. -/
def wpO (P : Program) [Sys] (o : Oper) (a : Act) (v : World) (K : Act → World → Prop) (Q : Exit → Act → World → Prop) : Prop :=
  (∀ v₁, Rl v v₁ → OpNow P o a v₁ K Q) ∨ (∃ K', (∀ x v, K' x v → K (a.put o.dst x) v) ∧ ∀ v₁, Rl v v₁ → SyOp P o a v₁ K')
theorem wpO.mono {P : Program} [Sys] {o : Oper} {a : Act} {w : World} {K K' : Act → World → Prop} {Q Q' : Exit → Act → World → Prop} (h : ∀ a w, K a w → K' a w) (hQ : ∀ ch a w, Q (.panic ch) a w → Q' (.panic ch) a w) (hh : wpO P o a w K Q) : wpO P o a w K' Q' := by
  rcases hh with hh | ⟨K0, h0, hh⟩
  · exact .inl fun v₁ h1 => (hh v₁ h1).mono h hQ
  · exact .inr ⟨K0, fun a v hk => h _ _ (h0 a v hk), hh⟩
theorem wpO.same {P : Program} [Sys] {o o' : Oper} {a : Act} {w : World} {K : Act → World → Prop} {Q : Exit → Act → World → Prop} (hh : wpO P o a w K Q) (he : execOp a.eval o' = execOp a.eval o) (hd : o'.dst = o.dst) (hp : o'.op = o.op) : wpO P o' a w K Q := by
  rcases hh with hh | ⟨K0, h0, hh⟩
  · refine .inl fun v₁ h1 => ?_
    have := hh v₁ h1
    unfold OpNow upon at *
    rw [he, hd]
    exact this
  · exact .inr ⟨K0, fun x v hk => by rw [hd]; exact h0 x v hk, fun v₁ h1 => (hh v₁ h1).same he hd hp⟩
theorem wpO.rely {P : Program} [Sys] {o : Oper} {a : Act} {w w' : World} {K : Act → World → Prop} {Q : Exit → Act → World → Prop} (hh : wpO P o a w K Q) (hr : Rl w w') : wpO P o a w' K Q := by
  rcases hh with hh | ⟨K0, h0, hh⟩
  · exact .inl fun v₁ h1 => hh v₁ (hr.trans h1)
  · exact .inr ⟨K0, h0, fun v₁ h1 => hh v₁ (hr.trans h1)⟩
def wpOps (P : Program) [Sys] (ops : Array Oper) (Q : Exit → Act → World → Prop) : List Nat → Act → World → Prop
  | [], a, w => Q .normal a w
  | i :: rest, a, w =>
    match ops[i]? with
    | none => False
    | some o => if Region.wanted o (yielded ops a.tmps) then wpO P o a w (wpOps P ops Q rest) Q else wpOps P ops Q rest (a.put o.dst undef) w

section
variable {P : Program} [I : Sys] {ops : Array Oper} {Q : Exit → Act → World → Prop}
/-- An operation's step, off what it does on the view. -/
theorem Stp.oper {main : Bool} {b : Frame} {a : Act} {k : List Item} {cs : List Frame} {v v' : World} {i : Nat} {rest : List Nat} {o : Oper} {n : Next} {g' : Goroutine} (ht : Tame P (execOp a.eval o)) (hr : (execOp a.eval o).run P v = .ok n v')
    (hs : ∀ w w', (execOp a.eval o).run P w = .ok n w' → stepG P main (G (b.atR a (.inRegion ops (i :: rest) :: k)) cs) w = .go g' w' (listed P b.fn a o w)) :
    Stp P main (G (b.atR a (.inRegion ops (i :: rest) :: k)) cs) v g' v' (listed P b.fn a o v) := by
  refine ⟨fun F S w hw => ?_, fun _ _ _ hw => by obtain ⟨w', h1, _, _, h4, _⟩ := ht.ok hr hw.self; rw [hr] at h1; cases h1; exact h4.output⟩
  obtain ⟨w', h1, h2, h3, h4, h5⟩ := ht.ok hr hw
  refine ⟨w', ?_, h3, h4, mem_seen' h5⟩
  rw [hs w w' h1]
  unfold listed
  rw [h2]
theorem Stp.panics {main : Bool} {b : Frame} {a : Act} {k : List Item} {cs : List Frame} {v v' : World} {i : Nat} {rest : List Nat} {o : Oper} {x : Value} (ho : ops[i]? = some o) (hw : Region.wanted o (yielded ops a.tmps) = true)
    (hd : OkOp b o) (hk : b.kind ≠ .early) (ht : Tame P (execOp a.eval o)) (hr : (execOp a.eval o).run P v = .halt (.panic x) v') :
    Stp P main (G (b.atR a (.inRegion ops (i :: rest) :: k)) cs) v (G { b.atR a (.inRegion ops (i :: rest) :: k) with mode := .panicking [{ v := x, recovered := false }] } cs) v' (listed P b.fn a o v) := by
  refine ⟨fun F S w hw' => ?_, fun _ _ _ hw => by obtain ⟨w', h1, _, _, h4, _⟩ := ht.panic hr hw.self; rw [hr] at h1; cases h1; exact h4.output⟩
  obtain ⟨w', h1, h2, h3, h4, h5⟩ := ht.panic hr hw'
  refine ⟨w', ?_, h3, h4, mem_seen' h5⟩
  rw [stepX_panics ho hw hd hk h1]
  unfold listed
  rw [h2]
theorem wpOps_sound : ∀ (l : List Nat) (a : Act) (w : World), wpOps P ops Q l a w → ∀ (b : Frame) (k : List Item) (cs : List Frame), OkOps b ops → Gs P (Out Q b k cs) (G (b.atR a (.inRegion ops l :: k)) cs) w
  | [], a, w, h, b, k, cs, _ => .one rfl (fun _ => stepX_region_end) (Out.now (e := .normal) h rfl)
  | i :: rest, a, w, h, b, k, cs, hb => by
    simp only [wpOps] at h
    cases ho : ops[i]? with
    | none => rw [ho] at h; exact h.elim
    | some o =>
      rw [ho] at h
      simp only at h
      have hfin : ∀ x, (b.atR a (.inRegion ops (i :: rest) :: k)).finish x = b.atR (a.put o.dst x) (.inRegion ops rest :: k) := fun x => fin_atR ho x
      have hd := hb.op ho
      by_cases hw : Region.wanted o (yielded ops a.tmps) = true
      · rw [if_pos hw] at h
        rcases h with h | ⟨K', hK', h⟩
        · refine Gs.step' rfl fun v₁ h1 => ?_
          obtain ⟨ht, hu⟩ := h v₁ h1
          generalize hr : (execOp a.eval o).run P v₁ = r at hu
          match r, hu with
          | .ok (.value x) w', hu => exact ⟨_, _, _, .oper ht hr (fun _ _ hr => stepX_value ho hw hd hb.1 hr), wpOps_sound rest _ _ hu b k cs hb⟩
          | .ok .skip w', hu => exact ⟨_, _, _, .oper ht hr (fun _ _ hr => stepX_none ho hw hd hb.1 hr), wpOps_sound rest _ _ hu b k cs hb⟩
          | .ok (.defer df) w', hu => exact ⟨_, _, _, .oper ht hr (fun _ _ hr => stepX_defers ho hw hd hb.1 hr), wpOps_sound rest _ _ hu b k cs hb⟩
          | .ok (.enter f args) w', hu =>
            refine ⟨_, _, _, .oper ht hr (fun _ _ hr => stepX_enters ho hw hd hb.1 hr), (hu _).bind ?_⟩
            rintro g w'' ⟨e, fr, v0, hR, hr0, rfl, _, hle⟩
            cases e with
            | returned x =>
              refine Gs.step' rfl fun v2 h2 => ?_
              obtain ⟨es, h3⟩ := Stp.leaving (main := I.main) (c := b.atR a (.inRegion ops (i :: rest) :: k)) (cs := cs) (hle.rely h2)
              rw [hfin] at h3
              exact ⟨_, _, _, h3, (wpOps_sound rest _ _ hR b k cs hb).rely (hr0.trans h2)⟩
            | panicked ch =>
              exact Gs.step' rfl fun v2 h2 => ⟨_, _, _, Stp.raising (hle.rely h2), Out.late (e := .panic ch) hR (hr0.trans h2) ⟨.inRegion ops (i :: rest) :: k, rfl⟩⟩
            | outgrown => exact hle.elim
          | .ok (.round l f tmps assign body) w', hu =>
            refine ⟨_, _, _, .oper ht hr (fun _ _ hr => stepX_rounds ho hw hd hb.1 hr), (hu _).bind ?_⟩
            rintro g w'' ⟨fr, rfl, hle⟩
            refine Gs.step' rfl fun v2 h2 => ?_
            obtain ⟨x, v3, es, h3, hR⟩ := Stp.round (main := I.main) (c := b.atR a (.inRegion ops (i :: rest) :: k)) (cs := cs) (hle.rely h2)
            rw [hfin] at h3
            exact ⟨_, _, _, h3, wpOps_sound rest _ _ hR b k cs hb⟩
          | .halt (.panic x) w', hu => exact ⟨_, _, _, .panics ho hw hd hb.1 ht hr, Out.now (e := .panic _) hu ⟨_, rfl⟩⟩
        · refine .sync _ (fun v₁ h1 => h v₁ h1 a o rfl rfl rfl ops i rest b k cs ho hw hd hb.1) fun v₁ h1 g' v' hn => ?_
          obtain ⟨x, rfl, hk⟩ := hn
          exact wpOps_sound rest _ _ (hK' _ _ hk) b k cs hb
      · rw [if_neg hw] at h
        exact .one rfl (fun _ => stepX_nothing ho (by simpa using hw)) (wpOps_sound rest _ _ h b k cs hb)
theorem wp_region {id : Nat} {a : Act} {w : World} (h : wpOps P ops Q (List.range ops.size) a w) : wp P (.region id ops false) Q a w :=
  fun b k cs hb => .one rfl (fun _ => stepX_region) (wpOps_sound _ a w h b k cs hb.region)
end

def bodyPost (P : Program) (fn : Func) (R : Ending → World → Prop) : Exit → Act → World → Prop
  | .normal, a, w | .ret, a, w => a.defers = [] ∧ ∃ x, ResV P fn a.tmps x w ∧ R (.returned x) w
  | .panic chain, a, w => a.defers = [] ∧ R (.panicked chain) w
  | _, _, _ => False
section
variable {P : Program} [I : Sys] {f : FuncId} {fn : Func} {c : Code} {args : Array Value} {w : World} {R : Ending → World → Prop}
theorem calls_of_wp (hf : P.funcs[f]? = some fn) (hb : fn.body = some c)
    (h : wp P c (bodyPost P fn R) { tmps := args ++ Array.replicate (fn.ntmps - args.size) undef, defers := [] } w) : Calls P f args w R := by
  intro cs
  rw [enter_at args hf hb, ← Frame.atR_of_none (b := base f) rfl]
  refine (h (base f) [] cs ⟨by simp [base], .inl rfl⟩).bind ?_
  rintro g w' ⟨e, a', v0, hq, hr0, harr⟩
  cases e with
  | normal =>
    obtain rfl := harr
    obtain ⟨hd, x, hr, hR⟩ := hq
    exact .one rfl (fun _ => stepX_end rfl) (.stop fun v₁ h1 => ⟨.returned x, _, v0, hR, hr0.trans h1, rfl, rfl, rfl, hd, rfl, fn, hf, hr.rely (hr0.trans h1)⟩)
  | ret =>
    obtain ⟨todo, rfl⟩ := harr
    obtain ⟨hd, x, hr, hR⟩ := hq
    exact .one rfl (fun _ => stepX_ret rfl) (.stop fun v₁ h1 => ⟨.returned x, _, v0, hR, hr0.trans h1, rfl, rfl, rfl, hd, rfl, fn, hf, hr.rely (hr0.trans h1)⟩)
  | panic ch =>
    obtain ⟨todo, rfl⟩ := harr
    obtain ⟨hd, hR⟩ := hq
    exact .stop fun v₁ h1 => ⟨.panicked ch, _, v0, hR, hr0.trans h1, rfl, rfl, rfl, hd, fn, hf⟩
  | exit id => exact hq.elim
  | goto l => exact hq.elim
  | outgrown => exact hq.elim
end
end Go.Proofs.YtofkhehcnfiopaaDoor.N
namespace Go.Proofs.YtofkhehcnfiopaaDoor.N
open Go Go.RowKit Go.Conc
set_option linter.unusedSectionVars false
set_option autoImplicit false

section
variable {P : Program} [I : Sys] {ops : Array Oper} {Q : Exit → Act → World → Prop} {md : Region.Mode} {S : World → Prop}
/-- Operation number i comes up. -/
def wpOp (P : Program) [Sys] (ops : Array Oper) (Q : Exit → Act → World → Prop) (i : Nat) (K : Act → World → Prop) (a : Act) (w : World) : Prop :=
  match ops[i]? with
  | none => False
  | some o => if Region.wanted o (yielded ops a.tmps) then wpO P o a w K Q else K (a.put o.dst undef) w
theorem wpOp_mono {i : Nat} {a : Act} {w : World} {K K' : Act → World → Prop} (h : ∀ a w, K a w → K' a w) (hh : wpOp P ops Q i K a w) : wpOp P ops Q i K' a w := by
  unfold wpOp at *
  cases ho : ops[i]? with
  | none => rw [ho] at hh; exact hh
  | some o =>
    rw [ho] at hh
    dsimp only at hh ⊢
    split
    · rename_i hw; rw [if_pos hw] at hh; exact hh.mono h (fun _ _ _ x => x)
    · rename_i hw; rw [if_neg hw] at hh; exact h _ _ hh
theorem wpOps_cons (i : Nat) (rest : List Nat) (a : Act) (w : World) : wpOps P ops Q (i :: rest) a w = wpOp P ops Q i (wpOps P ops Q rest) a w := by
  cases h : ops[i]? <;> simp [wpOps, wpOp, h]
/-- Whatever order is picked from here on, S holds behind every operation. -/
def wpAnyH (P : Program) [Sys] (md : Region.Mode) (ops : Array Oper) (Q : Exit → Act → World → Prop) (S : World → Prop) : Nat → Array Bool → Act → World → Prop
  | 0, listed, a, w => Region.ready md ops listed = [] ∧ Q .normal a w
  | fuel + 1, listed, a, w =>
    (Region.ready md ops listed = [] → Q .normal a w) ∧
    ∀ i ∈ Region.ready md ops listed, wpOp P ops Q i (fun a' w' => S w' ∧ wpAnyH P md ops Q S fuel (listed.setIfInBounds i true) a' w') a w
theorem wpAnyH_sound : ∀ (fuel t : Nat) (listed : Array Bool) (a : Act) (w : World), wpAnyH P md ops Q S fuel listed a w → wpOps P ops Q (Region.linearise.go md ops fuel t listed []) a w := by
  intro fuel
  induction fuel with
  | zero => intro t listed a w h; simpa [Region.linearise.go, wpOps] using h.2
  | succ fuel ih =>
    intro t listed a w h
    obtain ⟨h0, h1⟩ := h
    simp only [Region.linearise.go]
    change wpOps P ops Q (match (Region.ready md ops listed)[t % (Region.ready md ops listed).length]? with
      | some i => Region.linearise.go md ops fuel (t / (Region.ready md ops listed).length) (listed.setIfInBounds i true) [i]
      | none => [].reverse) a w
    cases hi : (Region.ready md ops listed)[t % (Region.ready md ops listed).length]? with
    | none =>
      have hnil : Region.ready md ops listed = [] := by
        cases hr : Region.ready md ops listed with
        | nil => rfl
        | cons x xs =>
          rw [hr] at hi
          have hlt : t % (x :: xs).length < (x :: xs).length := Nat.mod_lt _ (by simp)
          rw [List.getElem?_eq_getElem hlt] at hi
          cases hi
      simpa [wpOps] using h0 hnil
    | some i =>
      dsimp only
      rw [linearise_go_acc, List.reverse_singleton, List.singleton_append, wpOps_cons]
      exact wpOp_mono (fun a w hk => ih _ _ a w hk.2) (h1 i (List.mem_of_getElem? hi))
/-- .. or what it was before the others went on. -/
def Lax (Q : Exit → Act → World → Prop) (e : Exit) (a : Act) (w : World) : Prop := ∃ w₀, Q e a w₀ ∧ Rl w₀ w
theorem Lax.of {Q : Exit → Act → World → Prop} {e : Exit} {a : Act} {w : World} (h : Q e a w) : Lax Q e a w := ⟨w, h, Rl.refl _⟩
theorem Lax.rely {Q : Exit → Act → World → Prop} {e : Exit} {a : Act} {w w' : World} (h : Lax Q e a w) (hr : Rl w w') : Lax Q e a w' := by
  obtain ⟨w0, h1, h2⟩ := h
  exact ⟨w0, h1, h2.trans hr⟩
theorem wp_lax {c : Code} {a : Act} {w : World} (h : wp P c (Lax Q) a w) : wp P c Q a w :=
  fun b k cs hb => (h b k cs hb).mono fun _ _ ⟨e, a', v0, ⟨w0, h1, h2⟩, h3, h4⟩ => ⟨e, a', w0, h1, h2.trans h3, h4⟩
theorem wp_region_held {id : Nat} {a : Act} {w : World} (hm : P.follows .mixedOrders = true)
    (h : wpAnyH P .any ops Q S ops.size (Array.replicate ops.size false) a w) : wp P (.region id ops true) Q a w := by
  intro b k cs hb
  have h1 : ∀ t, wpOps P ops Q (Region.schedule (P.follows .mixedOrders) ops t) a w := fun t => by
    simp only [Region.schedule, hm, Bool.true_or, if_true]
    exact wpAnyH_sound ops.size t _ a _ h
  refine Gs.step' rfl fun v₁ hv => ?_
  refine ⟨G (b.atR a (.inRegion ops (Region.schedule (P.follows .mixedOrders) ops (v₁.tape v₁.drawn (.order b.fn id))) :: k)) cs, { v₁ with drawn := v₁.drawn + 1 }, #[], ⟨fun F T u hu => ?_, fun _ _ _ _ => rfl⟩, ?_⟩
  · refine ⟨{ u with drawn := u.drawn + 1 }, ?_, hu.draw, .draw _, fun e he => by simp at he⟩
    rw [stepX_region_draw, ← hu.tape, ← hu.drawn]
  · exact (wpOps_sound _ a w (h1 _) b k cs hb.region).rely (hv.trans ⟨rfl, rfl, rfl, Nat.le_refl _, fun _ _ => rfl⟩)

/-- In every world that meets S the operation leaves v in its temporary and does nothing else. -/
def YieldsIf (P : Program) (ops : Array Oper) (S : World → Prop) (o : Oper) (v : Value) (a : Act) : Prop :=
  (Region.wanted o (yielded ops a.tmps) = true ∧ Tame P (execOp a.eval o) ∧ ∀ w, S w → (execOp a.eval o).run P w = .ok (.value v) w) ∨
  (Region.wanted o (yielded ops a.tmps) = false ∧ v = undef)
theorem YieldsIf.of_same {o : Oper} {v : Value} {a a' : Act} (hy : YieldsIf P ops S o v a) (he : execOp a'.eval o = execOp a.eval o) (hw : Region.wanted o (yielded ops a'.tmps) = Region.wanted o (yielded ops a.tmps)) : YieldsIf P ops S o v a' := by
  unfold YieldsIf at *
  rw [he, hw]
  exact hy
/-- What is asked bears the others' doing. -/
def Bears (K : Act → World → Prop) : Prop := ∀ a w w', K a w → Rl w w' → K a w'
theorem YieldsIf.wpOp {i : Nat} {o : Oper} {v : Value} {a : Act} (hSa : ∀ w w', S w → Rl w w' → S w') (hi : ops[i]? = some o) (hy : YieldsIf P ops S o v a) {K : Act → World → Prop} (hK : Bears K) {w : World} (hS : S w) (h : K (a.put o.dst v) w) : wpOp P ops Q i K a w := by
  unfold Go.Proofs.YtofkhehcnfiopaaDoor.N.wpOp
  rw [hi]
  dsimp only
  rcases hy with ⟨hw, ht, hv⟩ | ⟨hw, rfl⟩
  · rw [if_pos hw]
    refine .inl fun v₁ h1 => ⟨ht, ?_⟩
    rw [hv _ (hSa _ _ hS h1)]
    exact hK _ _ _ h h1
  · rw [if_neg (by rw [hw]; simp)]
    exact h
theorem wpOp_put {j : Nat} {oi oj : Oper} {v : Value} (hj : ops[j]? = some oj) (hap : oi.apart ops oj = true) (hsi : ∀ cs b, oi.op ≠ .select cs b) (hsj : ∀ cs b, oj.op ≠ .select cs b)
    (hQ : ∀ c a w, Q (.panic c) (a.put oi.dst v) w → Q (.panic c) a w) {K : Act → World → Prop} {a : Act} {w : World} (hy : YieldsIf P ops S oi v a) (h : wpOp P ops Q j K (a.put oi.dst v) w) :
    wpOp P ops Q j (fun a' w' => YieldsIf P ops S oi v a' ∧ K (a'.put oi.dst v) w') a w := by
  obtain ⟨h1, h2, h3⟩ := Oper.apart_spec hap
  have keep : ∀ (a : Act), YieldsIf P ops S oi v a → ∀ u, YieldsIf P ops S oi v (a.put oj.dst u) := fun a hy u => hy.of_same (execOp_put oi hsi a oj.dst u h3) (wanted_put oi a oj.dst u h3)
  have keepD : ∀ d, YieldsIf P ops S oi v { a with defers := d :: a.defers } := fun d => hy.of_same rfl rfl
  unfold wpOp at *
  rw [hj] at h ⊢
  dsimp only at h ⊢
  rw [wanted_put oj a oi.dst v h1] at h
  split
  · rename_i hw
    rw [if_pos hw] at h
    rcases h with hnow | ⟨K', hK', hsy⟩
    rotate_left
    · refine .inr ⟨K', fun x v' hx => ⟨keep a hy x, ?_⟩, fun v₁ hv => (hsy v₁ hv).same (execOp_put oj hsj a oi.dst v h1).symm rfl rfl⟩
      rw [← Act.put_comm a v x h2]
      exact hK' x v' hx
    refine .inl fun v₁ hv₁ => ?_
    have hd := hnow v₁ hv₁
    unfold OpNow at hd ⊢
    rw [execOp_put oj hsj a oi.dst v h1] at hd
    refine ⟨hd.1, ?_⟩
    have hu := hd.2
    generalize (execOp a.eval oj).run P v₁ = r at hu ⊢
    cases r with
    | ok n w' =>
      cases n <;> simp only [upon] at hu ⊢
      case value u => exact ⟨keep a hy u, by rw [← Act.put_comm a v u h2]; exact hu⟩
      case skip => exact ⟨keep a hy _, by rw [← Act.put_comm a v undef h2]; exact hu⟩
      case defer df =>
        refine ⟨keep _ (keepD df) _, ?_⟩
        rw [← Act.put_comm _ v undef h2, ← Act.put_defers]
        exact hu
      case enter f args =>
        refine hu.mono fun e w'' he => ?_
        cases e with
        | returned u => exact ⟨keep a hy u, by rw [← Act.put_comm a v u h2]; exact he⟩
        | panicked c => exact hQ _ _ _ he
        | outgrown => exact he
      case round l f tmps assign body =>
        refine hu.mono fun e w'' he => ?_
        cases e with
        | returned u => exact ⟨keep a hy u, by rw [← Act.put_comm a v u h2]; exact he⟩
        | panicked c => exact he
        | outgrown => exact he
    | halt x w' =>
      cases x <;> simp only [upon] at hu ⊢
      case panic u => exact hQ _ _ _ hu
  · rename_i hw
    rw [if_neg hw] at h
    exact ⟨keep a hy _, by rw [← Act.put_comm a v undef h2]; exact h⟩
theorem wpAnyH_bears (hSa : ∀ w w', S w → Rl w w' → S w') (hQa : ∀ a w w', Q .normal a w → Rl w w' → Q .normal a w') : ∀ (fuel : Nat) (listed : Array Bool), Bears (fun a w => S w ∧ wpAnyH P md ops Q S fuel listed a w)
  | 0, listed, a, w, w', h, hr => ⟨hSa _ _ h.1 hr, h.2.1, hQa _ _ _ h.2.2 hr⟩
  | fuel + 1, listed, a, w, w', h, hr => by
    refine ⟨hSa _ _ h.1 hr, fun h0 => hQa _ _ _ (h.2.1 h0) hr, fun i hi => ?_⟩
    have h1 := h.2.2 i hi
    unfold wpOp at h1 ⊢
    cases ho : ops[i]? with
    | none => rw [ho] at h1; exact h1
    | some o =>
      rw [ho] at h1
      dsimp only at h1 ⊢
      split
      · rename_i hw; rw [if_pos hw] at h1; exact h1.rely hr
      · rename_i hw; rw [if_neg hw] at h1; exact wpAnyH_bears hSa hQa fuel _ _ _ _ h1 hr
theorem wpAnyH_first (hSa : ∀ w w', S w → Rl w w' → S w') (hQa : ∀ a w w', Q .normal a w → Rl w w' → Q .normal a w') {i : Nat} {oi : Oper} {v : Value} (hi : ops[i]? = some oi) (hsel : ∀ (j : Nat) (o : Oper) cs b, ops[j]? = some o → o.op ≠ .select cs b)
    (hQ : ∀ c a w, Q (.panic c) (a.put oi.dst v) w → Q (.panic c) a w) :
    ∀ (fuel : Nat) (listed : Array Bool) (a : Act) (w : World),
      (∀ j oj, ops[j]? = some oj → j ≠ i → listed.getD j true = false → (∀ e ∈ oj.after, Region.binds md e = true → e.on ≠ i) → oi.apart ops oj = true) →
      i ∈ Region.ready md ops listed → YieldsIf P ops S oi v a → S w →
      wpAnyH P md ops Q S fuel (listed.setIfInBounds i true) (a.put oi.dst v) w → wpAnyH P md ops Q S (fuel + 1) listed a w := by
  intro fuel
  induction fuel with
  | zero =>
    intro listed a w _ hr hy hS H
    refine ⟨fun h => (by rw [h] at hr; cases hr), fun j hj => ?_⟩
    by_cases hji : j = i
    · subst hji; exact hy.wpOp hSa hi (wpAnyH_bears hSa hQa _ _) hS ⟨hS, H⟩
    · have := ready_mono hj hji
      rw [H.1] at this
      cases this
  | succ fuel ih =>
    intro listed a w hfree hr hy hS H
    refine ⟨fun h => (by rw [h] at hr; cases hr), fun j hj => ?_⟩
    by_cases hji : j = i
    · subst hji; exact hy.wpOp hSa hi (wpAnyH_bears hSa hQa _ _) hS ⟨hS, H⟩
    · have h1 := H.2 j (ready_mono hj hji)
      obtain ⟨hjun, oj, hoj, hall⟩ := mem_ready.1 hj
      have hnot : ∀ e ∈ oj.after, Region.binds md e = true → e.on ≠ i := fun e he hb heq => by
        have h1 := hall e he hb
        have h0 := (mem_ready.1 hr).1
        rw [heq] at h1
        rcases Nat.lt_or_ge i listed.size with h' | h'
        · simp [h'] at h0 h1; rw [h0] at h1; cases h1
        · simp [Array.getElem?_eq_none h'] at h1
      have h2 := wpOp_put hoj (hfree j oj hoj hji hjun hnot) (fun cs b => hsel i oi cs b hi) (fun cs b => hsel j oj cs b hoj) hQ hy h1
      have hfree' : ∀ k ok, ops[k]? = some ok → k ≠ i → (listed.setIfInBounds j true).getD k true = false →
          (∀ e ∈ ok.after, Region.binds md e = true → e.on ≠ i) → oi.apart ops ok = true := fun k ok hk hki hun hno => by
        refine hfree k ok hk hki ?_ hno
        by_cases hjk : j = k
        · subst hjk; exact hjun
        · rw [getD_set_ne true hjk] at hun; exact hun
      refine wpOp_mono (fun a' w' h3 => ⟨h3.2.1, ih (listed.setIfInBounds j true) a' w' hfree' (ready_mono hr (Ne.symm hji)) h3.1 h3.2.1 ?_⟩) h2
      rw [Array.setIfInBounds_comm _ _ hji]
      exact h3.2.2
theorem wpAnyH_take (hSa : ∀ w w', S w → Rl w w' → S w') (hQa : ∀ a w w', Q .normal a w → Rl w w' → Q .normal a w') {i : Nat} {oi : Oper} {v : Value} {fuel : Nat} {listed : Array Bool} {a : Act} {w : World} (hi : ops[i]? = some oi)
    (hs : Region.noSelect ops = true) (hf : Region.free md ops listed i = true) (hr : (Region.ready md ops listed).contains i = true)
    (hQ : ∀ c a w, Q (.panic c) (a.put oi.dst v) w → Q (.panic c) a w) (hy : YieldsIf P ops S oi v a) (hS : S w)
    (h : wpAnyH P md ops Q S fuel (listed.setIfInBounds i true) (a.put oi.dst v) w) : wpAnyH P md ops Q S (fuel + 1) listed a w :=
  wpAnyH_first hSa hQa hi (Region.noSelect_spec hs) hQ fuel listed a w (Region.free_spec hi hf) (by simpa using hr) hy hS h
theorem wpAnyH_all {rs : List Nat} {fuel : Nat} {listed : Array Bool} {a : Act} {w : World} (hr : Region.ready md ops listed = rs) (hne : rs ≠ [])
    (h : ∀ i ∈ rs, wpOp P ops Q i (fun a' w' => S w' ∧ wpAnyH P md ops Q S fuel (listed.setIfInBounds i true) a' w') a w) : wpAnyH P md ops Q S (fuel + 1) listed a w :=
  ⟨fun h0 => absurd (hr ▸ h0) hne, hr ▸ h⟩
theorem wpAnyH_done {listed : Array Bool} {a : Act} {w : World} (hr : Region.ready md ops listed = []) (h : Q .normal a w) : ∀ fuel, wpAnyH P md ops Q S fuel listed a w
  | 0 => ⟨hr, h⟩
  | _ + 1 => ⟨fun _ => h, by rw [hr]; simp⟩
end
end Go.Proofs.YtofkhehcnfiopaaDoor.N
namespace Go.Proofs.YtofkhehcnfiopaaDoor.N
open Go Go.RowKit Go.Conc
set_option linter.unusedSectionVars false
set_option autoImplicit false

/-! Deferred calls. -/
def Going (P : Program) (fr : Frame) (v : World) : Ending → Prop
  | .returned x => fr.mode = .returning ∧ fr.defers = [] ∧ ∃ fn, P.funcs[fr.fn]? = some fn ∧ ResV P fn fr.tmps x v
  | .panicked chain => fr.mode = .panicking chain ∧ fr.defers = [] ∧ ∃ fn, P.funcs[fr.fn]? = some fn
  | .outgrown => False
theorem Going.rely {P : Program} {fr : Frame} {v v' : World} {e : Ending} (h : Going P fr v e) (hr : Rl v v') : Going P fr v' e := by
  cases e with
  | returned x => obtain ⟨h1, h2, fn, h4, h5⟩ := h; exact ⟨h1, h2, fn, h4, h5.rely hr⟩
  | panicked ch => exact h
  | outgrown => exact h
def CallsD (P : Program) [Sys] (f : FuncId) (args : Array Value) (u : FrameMode) (v : World) (R : Ending → FrameMode → World → Prop) : Prop :=
  ∀ (c : Frame) (cs : List Frame), c.mode = u → Gs P (fun g v' => ∃ e u' fr v₀, R e u' v₀ ∧ Rl v₀ v' ∧ g = G fr ({ c with mode := u' } :: cs) ∧ fr.kind = .deferred ∧ Going P fr v' e) (G (Frame.enter P f args .deferred) (c :: cs)) v
section
variable {P : Program} [I : Sys]
theorem CallsD.mono {f : FuncId} {args : Array Value} {u : FrameMode} {v : World} {R R' : Ending → FrameMode → World → Prop} (h : CallsD P f args u v R) (hr : ∀ e u v', R e u v' → R' e u v') : CallsD P f args u v R' :=
  fun c cs hc => (h c cs hc).mono fun _ _ ⟨e, u', fr, v0, h1, h2⟩ => ⟨e, u', fr, v0, hr _ _ _ h1, h2⟩
theorem CallsD.rely {f : FuncId} {args : Array Value} {u : FrameMode} {v v' : World} {R : Ending → FrameMode → World → Prop} (h : CallsD P f args u v R) (hr : Rl v v') : CallsD P f args u v' R := fun c cs hc => (h c cs hc).rely hr
end
def Invokes (P : Program) (fv : Fn) (cap dargs : Array Value) (f : FuncId) (args : Array Value) : Prop := Tame P (invoke (.fn fv cap) dargs) ∧ ∀ w : World, (invoke (.fn fv cap) dargs).run P w = .ok (.enter f args) w
def Leaves (P : Program) [Sys] (fn : Func) (tmps : Array Value) (R : Ending → World → Prop) : List Deferred → FrameMode → World → Prop
  | [], .returning, v => ∃ x, ResV P fn tmps x v ∧ R (.returned x) v
  | [], .panicking chain, v => R (.panicked chain) v
  | [], .run, _ => False
  | d :: ds, u, v => u ≠ .run ∧ ((∃ fv cap f args, d.target = .fn fv cap ∧ Invokes P fv cap d.args f args ∧
      CallsD P f args u v fun
        | .returned _, u', v' => Leaves P fn tmps R ds (settle u') v'
        | .panicked chain, u', v' => Leaves P fn tmps R ds (raised u' chain) v'
        | .outgrown, _, _ => False) ∨
      ∃ r, d.target = .collected r ∧ ∀ v₁, Rl v v₁ → ∃ v', (Instr.takeDeferred r).run P v₁ = .ok [] v' ∧ Leaves P fn tmps R ds u v')
section
variable {P : Program} [I : Sys]
theorem Stp.deferred {main : Bool} {fr : Frame} {cs : List Frame} {v : World} {d : Deferred} {ds : List Deferred} {fv : Fn} {cap : Array Value} {f : FuncId} {args : Array Value} (hm : fr.mode ≠ .run) (hd : fr.defers = d :: ds) (ht : d.target = .fn fv cap)
    (hi : Invokes P fv cap d.args f args) : ∃ es, Stp P main (G fr cs) v (G (Frame.enter P f args .deferred) ({ fr with defers := ds } :: cs)) v es := by
  obtain ⟨t, a⟩ := d
  simp only at ht hi
  subst ht
  refine ⟨seen P fr.fn ((invoke (.fn fv cap) a).events P v #[]), ⟨fun F S w hw => ?_, fun _ _ _ _ => rfl⟩⟩
  obtain ⟨w', h1, h2, h3, h4, h5⟩ := hi.1.ok (hi.2 v) hw
  rw [hi.2 w] at h1
  cases h1
  refine ⟨w, ?_, h3, h4, mem_seen' h5⟩
  rw [← h2]
  cases hmode : fr.mode with
  | run => exact absurd hmode hm
  | returning => simp [G, stepG, unwind, callDeferred, hmode, hd, hi.2 w, GStep.after]
  | panicking chain => simp [G, stepG, unwind, callDeferred, hmode, hd, hi.2 w, GStep.after]
theorem tame_takeDeferred (r : Nat) : Tame P (Instr.takeDeferred r) := Tame.bind (fun _ => trivial) fun o => by
  split
  · exact Tame.bind ⟨trivial, trivial⟩ fun _ => trivial
  · trivial
theorem Stp.taken {main : Bool} {fr : Frame} {cs : List Frame} {v v' : World} {d : Deferred} {ds : List Deferred} {r : Nat} (hm : fr.mode ≠ .run) (hd : fr.defers = d :: ds) (ht : d.target = .collected r)
    (hr : (Instr.takeDeferred r).run P v = .ok [] v') : ∃ es, Stp P main (G fr cs) v (G { fr with defers := ds } cs) v' es := by
  obtain ⟨t, a⟩ := d
  simp only at ht
  subst ht
  refine ⟨seen P fr.fn ((Instr.takeDeferred r).events P v #[]), ⟨fun F S w hw => ?_, fun _ _ w hw => ?_⟩⟩
  · obtain ⟨w', h1, h2, h3, h4, h5⟩ := (tame_takeDeferred r).ok hr hw
    refine ⟨w', ?_, h3, h4, mem_seen' h5⟩
    rw [← h2]
    cases hmode : fr.mode with
    | run => exact absurd hmode hm
    | returning => simp [G, stepG, unwind, hmode, hd, h1, Sem.runT_eq, GStep.after]
    | panicking chain => simp [G, stepG, unwind, hmode, hd, h1, Sem.runT_eq, GStep.after]
  · obtain ⟨w', h1, _, _, h4, _⟩ := (tame_takeDeferred r).ok hr hw.self
    rw [hr] at h1
    cases h1
    exact h4.output
theorem Stp.going_returned {main : Bool} {fr c : Frame} {cs : List Frame} {v : World} {x : Value} (hk : fr.kind = .deferred) (h : Going P fr v (.returned x)) :
    ∃ es, Stp P main (G fr (c :: cs)) v (G { c with mode := settle c.mode } cs) v es := by
  obtain ⟨hm, hd, fn, hf, ht, hr⟩ := h
  refine ⟨seen P fr.fn ((results fn fr.tmps).events P v #[]), ⟨fun F S w hw => ?_, fun _ _ _ _ => rfl⟩⟩
  obtain ⟨w', h1, h2, h3, h4, h5⟩ := ht.ok (hr v (Rl.refl v)) hw
  refine ⟨w', ?_, h3, h4, mem_seen' h5⟩
  rw [← h2]
  simp only [G, stepG, unwind, doReturn, hm, hd, hk, hf, Sem.runT_eq, h1, GStep.after]
  unfold settle
  split <;> (try split) <;> simp_all
theorem Stp.going_panicked {main : Bool} {fr c : Frame} {cs : List Frame} {v : World} {chain : List PanicEntry} (h : Going P fr v (.panicked chain)) :
    Stp P main (G fr (c :: cs)) v (G { c with mode := raised c.mode chain } cs) v #[] := by
  obtain ⟨hm, hd, fn, hf⟩ := h
  refine .still fun w => ?_
  rw [← Frame.raise_mode]
  simp [G, stepG, unwind, Frame.catches, hm, hd, hf]
theorem leaves_sound {fn : Func} {tmps : Array Value} {R : Ending → World → Prop} : ∀ (ds : List Deferred) (u : FrameMode) (v : World) (fr : Frame) (cs : List Frame), fr.mode = u → fr.defers = ds → fr.tmps = tmps → P.funcs[fr.fn]? = some fn → fr.kind = .normal → Leaves P fn tmps R ds u v →
    Gs P (fun g v' => ∃ e fr' v₀, R e v₀ ∧ Rl v₀ v' ∧ g = G fr' cs ∧ fr'.fn = fr.fn ∧ Leaving P fr' v' e) (G fr cs) v
  | [], u, v, fr, cs, hu, hd, ht, hf, hk, h => by
    cases u with
    | run => exact h.elim
    | returning =>
      obtain ⟨x, hr, hR⟩ := h
      exact .stop fun v₁ h1 => ⟨.returned x, fr, v, hR, h1, rfl, rfl, hu, hd, hk, fn, hf, ht ▸ hr.rely h1⟩
    | panicking chain => exact .stop fun v₁ h1 => ⟨.panicked chain, fr, v, h, h1, rfl, rfl, hu, hd, fn, hf⟩
  | d :: ds, u, v, fr, cs, hu, hd, ht, hf, hk, h => by
    obtain ⟨hrun, ⟨fv, cap, f, args, htar, hinv, hcall⟩ | ⟨r, htar, htake⟩⟩ := h
    rotate_left
    · refine Gs.step' rfl fun v₁ h1 => ?_
      obtain ⟨v', h2, h3⟩ := htake v₁ h1
      obtain ⟨es, h4⟩ := Stp.taken (main := I.main) (cs := cs) (hu ▸ hrun) hd htar h2
      exact ⟨_, _, _, h4, leaves_sound ds u v' { fr with defers := ds } cs hu rfl ht hf hk h3⟩
    refine Gs.step' rfl fun v₁ h1 => ?_
    obtain ⟨es, h2⟩ := Stp.deferred (main := I.main) (cs := cs) (v := v₁) (hu ▸ hrun) hd htar hinv
    refine ⟨_, _, _, h2, Gs.rely ((hcall { fr with defers := ds } cs hu).bind ?_) h1⟩
    rintro g w' ⟨e, u', frX, v0, hR, hr0, rfl, hkX, hgo⟩
    cases e with
    | returned x =>
      refine Gs.step' rfl fun v2 h3 => ?_
      obtain ⟨es, h4⟩ := Stp.going_returned (main := I.main) (c := { { fr with defers := ds } with mode := u' }) (cs := cs) hkX (hgo.rely h3)
      exact ⟨_, _, _, h4, (leaves_sound ds (settle u') _ { { { fr with defers := ds } with mode := u' } with mode := settle u' } cs rfl rfl ht hf hk hR).rely (hr0.trans h3)⟩
    | panicked chain =>
      exact Gs.step' rfl fun v2 h3 => ⟨_, _, _, Stp.going_panicked (c := { { fr with defers := ds } with mode := u' }) (hgo.rely h3),
        (leaves_sound ds (raised u' chain) _ { { { fr with defers := ds } with mode := u' } with mode := raised u' chain } cs rfl rfl ht hf hk hR).rely (hr0.trans h3)⟩
    | outgrown => exact hgo.elim
def bodyPostD (P : Program) [Sys] (fn : Func) (R : Ending → World → Prop) : Exit → Act → World → Prop
  | .normal, a, v | .ret, a, v => Leaves P fn a.tmps R a.defers .returning v
  | .panic chain, a, v => Leaves P fn a.tmps R a.defers (.panicking chain) v
  | _, _, _ => False
theorem calls_of_wp_defers {f : FuncId} {fn : Func} {c : Code} {args : Array Value} {v : World} {R : Ending → World → Prop} (hf : P.funcs[f]? = some fn) (hb : fn.body = some c)
    (h : wp P c (bodyPostD P fn R) { tmps := args ++ Array.replicate (fn.ntmps - args.size) undef, defers := [] } v) : Calls P f args v R := by
  intro cs
  rw [enter_at args hf hb, ← Frame.atR_of_none (b := base f) rfl]
  refine (h (base f) [] cs ⟨by simp [base], .inl rfl⟩).bind ?_
  rintro g w' ⟨e, a', v0, hq, hr0, harr⟩
  cases e with
  | normal =>
    obtain rfl := harr
    exact .one rfl (fun _ => stepX_end rfl) ((leaves_sound a'.defers .returning _ { (base f).atR a' [] with mode := .returning } cs rfl rfl rfl hf rfl hq).rely hr0)
  | ret =>
    obtain ⟨todo, rfl⟩ := harr
    exact .one rfl (fun _ => stepX_ret rfl) ((leaves_sound a'.defers .returning _ { (base f).atR a' (.code .ret :: todo) with mode := .returning } cs rfl rfl rfl hf rfl hq).rely hr0)
  | panic ch =>
    obtain ⟨todo, rfl⟩ := harr
    exact (leaves_sound a'.defers (.panicking ch) _ { (base f).atR a' todo with mode := .panicking ch } cs rfl rfl rfl hf rfl hq).rely hr0
  | exit id => exact hq.elim
  | goto l => exact hq.elim
  | outgrown => exact hq.elim
theorem leaves_cons {fn : Func} {tmps : Array Value} {R : Ending → World → Prop} {fv : Fn} {cap dargs : Array Value} {ds : List Deferred} {u : FrameMode} {v : World} {f : FuncId} {args : Array Value} (hu : u ≠ .run) (hi : Invokes P fv cap dargs f args)
    (h : CallsD P f args u v fun
      | .returned _, u', v' => Leaves P fn tmps R ds (settle u') v'
      | .panicked chain, u', v' => Leaves P fn tmps R ds (raised u' chain) v'
      | .outgrown, _, _ => False) : Leaves P fn tmps R ({ target := .fn fv cap, args := dargs } :: ds) u v := ⟨hu, .inl ⟨fv, cap, f, args, rfl, hi, h⟩⟩
theorem leaves_take {fn : Func} {tmps : Array Value} {R : Ending → World → Prop} {ds : List Deferred} {u : FrameMode} {v : World} {r : Nat} (hu : u ≠ .run)
    (h : ∀ v₁, Rl v v₁ → ∃ v', (Instr.takeDeferred r).run P v₁ = .ok [] v' ∧ Leaves P fn tmps R ds u v') : Leaves P fn tmps R ({ target := .collected r, args := #[] } :: ds) u v := ⟨hu, .inr ⟨r, rfl, h⟩⟩
end

/-! A deferred function that recovers. -/
def DkF (b : Frame) : Prop := b.kind = .deferred ∧ b.roundOf = none
def OutS (Q : Exit → Act → List Frame → World → Prop) (b : Frame) (k : List Item) (g : Goroutine) (v : World) : Prop := ∃ e a cs v₀, Q e a cs v₀ ∧ Rl v₀ v ∧ ArrG b k cs e a g
def wpS (P : Program) [Sys] (c : Code) (Q : Exit → Act → List Frame → World → Prop) (a : Act) (cs : List Frame) (v : World) : Prop :=
  ∀ (b : Frame) (k : List Item), DkF b → Gs P (OutS Q b k) (G (b.atR a (.code c :: k)) cs) v
section
variable {P : Program} [I : Sys] {Q : Exit → Act → List Frame → World → Prop} {a : Act} {cs : List Frame} {v v₀ : World} {ops : Array Oper}
theorem wpS_of_wp {c : Code} (h : wp P c (fun e a' v' => Q e a' cs v') a v) : wpS P c Q a cs v :=
  fun b k hb => (h b k cs ⟨by rw [hb.1]; simp, .inl hb.2⟩).mono fun _ _ ⟨e, a', v0, q, r⟩ => ⟨e, a', cs, v0, q, r⟩
theorem OutS.late {b : Frame} {k : List Item} {e : Exit} {g : Goroutine} (h : Q e a cs v₀) (hr : Rl v₀ v) (harr : ArrG b k cs e a g) : Gs P (OutS Q b k) g v := .stop fun _ h1 => ⟨e, a, cs, v₀, h, hr.trans h1, harr⟩
theorem wpS_seq {x y : Code} (h : wpS P x (Exit.thenS (wpS P y Q) Q) a cs v) : wpS P (x.seq y) Q a cs v := by
  intro b k hb
  refine .one rfl (fun _ => stepX_seq) ((h b (.code y :: k) hb).bind ?_)
  rintro g w' ⟨e, a', cs', v0, hq, hr, harr⟩
  cases e with
  | normal =>
    obtain rfl := harr
    exact (hq b k hb).rely hr
  | exit id => exact OutS.late hq hr (harr.pass rfl (by simp))
  | goto l => exact OutS.late hq hr (harr.pass rfl (by simp))
  | ret => exact OutS.late hq hr (harr.pass rfl (by simp))
  | panic ch => exact OutS.late hq hr (harr.pass rfl (by simp))
  | outgrown => exact harr.elim
def bodyPostS (P : Program) (fn : Func) (c₀ : Frame) (cs : List Frame) (R : Ending → FrameMode → World → Prop) : Exit → Act → List Frame → World → Prop
  | .normal, a, cs', v | .ret, a, cs', v => a.defers = [] ∧ ∃ u', cs' = { c₀ with mode := u' } :: cs ∧ ∃ x, ResV P fn a.tmps x v ∧ R (.returned x) u' v
  | .panic chain, a, cs', v => a.defers = [] ∧ ∃ u', cs' = { c₀ with mode := u' } :: cs ∧ R (.panicked chain) u' v
  | _, _, _, _ => False
theorem callsD_of_wpS {f : FuncId} {fn : Func} {c : Code} {args : Array Value} {u : FrameMode} {v : World} {R : Ending → FrameMode → World → Prop} (hf : P.funcs[f]? = some fn) (hb : fn.body = some c)
    (h : ∀ (c₀ : Frame) (cs : List Frame), c₀.mode = u → wpS P c (bodyPostS P fn c₀ cs R) { tmps := args ++ Array.replicate (fn.ntmps - args.size) undef, defers := [] } (c₀ :: cs) v) : CallsD P f args u v R := by
  intro c₀ cs hu
  let b : Frame := { (default : Frame) with fn := f, kind := .deferred }
  have henter : Frame.enter P f args .deferred = b.atR { tmps := args ++ Array.replicate (fn.ntmps - args.size) undef, defers := [] } [.code c] := by
    simp [Frame.enter, Frame.atR, hf, hb, b]
    rfl
  rw [henter]
  refine (h c₀ cs hu b [] ⟨rfl, rfl⟩).bind ?_
  rintro g w' ⟨e, a', cs', v0, hq, hr0, harr⟩
  cases e with
  | normal =>
    obtain rfl := harr
    obtain ⟨hd, u', rfl, x, hr, hR⟩ := hq
    exact .one rfl (fun _ => stepX_end rfl) (.stop fun _ h1 => ⟨.returned x, u', _, v0, hR, hr0.trans h1, rfl, rfl, rfl, hd, fn, hf, hr.rely (hr0.trans h1)⟩)
  | ret =>
    obtain ⟨todo, rfl⟩ := harr
    obtain ⟨hd, u', rfl, x, hr, hR⟩ := hq
    exact .one rfl (fun _ => stepX_ret rfl) (.stop fun _ h1 => ⟨.returned x, u', _, v0, hR, hr0.trans h1, rfl, rfl, rfl, hd, fn, hf, hr.rely (hr0.trans h1)⟩)
  | panic ch =>
    obtain ⟨todo, rfl⟩ := harr
    obtain ⟨hd, u', rfl, hR⟩ := hq
    exact .stop fun _ h1 => ⟨.panicked ch, u', _, v0, hR, hr0.trans h1, rfl, rfl, rfl, hd, fn, hf⟩
  | exit id => exact hq.elim
  | goto l => exact hq.elim
  | outgrown => exact hq.elim
end
end Go.Proofs.YtofkhehcnfiopaaDoor.N
namespace Go.Proofs.YtofkhehcnfiopaaDoor.N
open Go Go.RowKit Go.Conc
set_option linter.unusedSectionVars false
set_option autoImplicit false

section
variable {P : Program} {α β : Type}
theorem tame_stuck (s : String) : Tame P (stuck s : Sem α) := trivial
theorem tame_goPanic (v : Value) : Tame P (goPanic v : Sem α) := trivial
theorem tame_program : Tame P program := trivial
theorem tame_choose (q : Question) : Tame P (choose q) := fun _ => trivial
theorem tame_load (a : Addr) (m : Mode) : Tame P (load a m) := fun _ => trivial
theorem tame_store (a : Addr) (v : Value) (m : Mode) : Tame P (store a v m) := trivial
theorem tame_getObj (r : Nat) : Tame P (getObj r) := fun _ => trivial
theorem tame_setObj (r : Nat) (o : Obj) (h : notView o) : Tame P (setObj r o) := ⟨h, trivial⟩
theorem tame_newObj (o : Obj) (h : notView o) : Tame P (newObj o) := ⟨h, fun _ => trivial⟩
theorem tame_typeInfo (t : TypeId) : Tame P (typeInfo t) := Tame.bind tame_program fun p => by split <;> trivial
theorem tame_underlying (t : TypeId) : Tame P (underlying t) := Tame.bind tame_program fun p => by split <;> trivial
theorem tame_sizeOf (t : TypeId) : Tame P (sizeOf t) := Tame.bind (tame_typeInfo t) fun _ => trivial
theorem tame_zeroValue (t : TypeId) : Tame P (zeroValue t) := Tame.bind (tame_typeInfo t) fun _ => by split <;> trivial
theorem tame_typeStr (t : TypeId) : Tame P (typeStr t) := Tame.bind (tame_typeInfo t) fun _ => by dsimp only; split <;> trivial
theorem tame_isAgg (t : TypeId) : Tame P (isAgg t) := Tame.bind (tame_underlying t) fun _ => by split <;> trivial
theorem tame_elemOf (t : TypeId) : Tame P (elemOf t) := Tame.bind (tame_underlying t) fun _ => by split <;> trivial
theorem tame_loadCellsFrom (a : Addr) : ∀ (n i : Nat) (acc : Array Value), Tame P (loadCellsFrom a i n acc)
  | 0, _, _ => trivial
  | n + 1, i, acc => Tame.bind (tame_load _ _) fun _ => tame_loadCellsFrom a n (i + 1) _
theorem tame_loadCells (a : Addr) (n : Nat) : Tame P (loadCells a n) := tame_loadCellsFrom a n 0 #[]
theorem tame_storeCells (a : Addr) : ∀ (vs : List Value) (i : Nat), Tame P (storeCells a vs i)
  | [], _ => trivial
  | v :: vs, i => Tame.bind (tame_store _ _ _) fun _ => tame_storeCells a vs (i + 1)
theorem tame_loadVar (t : TypeId) (a : Addr) : Tame P (loadVar t a) := Tame.bind (tame_isAgg t) fun _ => by
  split
  · exact Tame.bind (tame_sizeOf t) fun _ => Tame.bind (tame_loadCells _ _) fun _ => trivial
  · exact tame_load _ _
theorem tame_storeVar (t : TypeId) (a : Addr) (v : Value) : Tame P (storeVar t a v) := Tame.bind (tame_sizeOf t) fun _ => by
  dsimp only
  split
  · trivial
  · exact tame_storeCells _ _ _
theorem tame_newRow (e : TypeId) (cs : Array Value) : Tame P (newRow e cs) := Tame.bind (tame_newObj _ trivial) fun _ => trivial
theorem tame_newVar (t : TypeId) (v : Value) : Tame P (newVar t v) := tame_newRow _ _
theorem tame_part (t : TypeId) (cs : Array Value) (o : Nat) : Tame P (part t cs o) := Tame.bind (tame_isAgg t) fun _ => by
  split
  · exact Tame.bind (tame_sizeOf t) fun _ => trivial
  · split <;> trivial
theorem tame_runtimePanic (e : RuntimeError) : Tame P (runtimePanic e : Sem α) := by
  refine Tame.bind tame_program fun p => ?_
  cases e <;> dsimp only <;> first
    | trivial
    | exact Tame.bind (tame_elemOf _) fun _ => Tame.bind (tame_newVar _ _) fun _ => trivial
theorem tame_boundsPanic (k : IntKind) (x y : Int) (c : BoundsCode) : Tame P (boundsPanic k x y c : Sem α) := by
  unfold boundsPanic
  split
  · exact Tame.bind (Tame.bind (tame_choose _) fun _ => trivial) fun _ => tame_runtimePanic _
  · exact Tame.bind trivial fun _ => tame_runtimePanic _
theorem tame_asIntOf (v : Value) : Tame P (asIntOf v) := by unfold asIntOf; split <;> trivial
theorem tame_asInt (v : Value) : Tame P (asInt v) := Tame.bind (tame_asIntOf v) fun _ => trivial
theorem tame_asBool (v : Value) : Tame P (asBool v) := by unfold asBool; split <;> trivial
theorem tame_asAgg (v : Value) : Tame P (asAgg v) := by unfold asAgg; split <;> trivial
theorem tame_asAddr (v : Value) : Tame P (asAddr v) := by unfold asAddr; split <;> first | trivial | exact tame_runtimePanic _
theorem tame_askRoom (n : Nat) : Tame P (askRoom n) := by unfold askRoom; split <;> trivial
theorem tame_value (s : Sem Value) (h : Tame P s) : Tame P (do pure (Next.value (← s)) : Sem Next) := Tame.bind h fun _ => trivial
theorem tame_unit (s : Sem Unit) (h : Tame P s) : Tame P (do s; pure Next.skip : Sem Next) := Tame.bind h fun _ => trivial
end

/-! Operations. -/
section
variable {P : Program} {ev : Operand → Value} {dst : Option Tmp} {ty : TypeId} {pos : String} {after : Array Edge} {on_ : Option (Nat × Bool)}
theorem tame_move (x : Operand) : Tame P (execOp ev ⟨dst, .move x, ty, pos, after, on_⟩) := trivial
theorem tame_assign (x : Operand) : Tame P (execOp ev ⟨dst, .assign x, ty, pos, after, on_⟩) := trivial
theorem tame_pick (c x y : Operand) : Tame P (execOp ev ⟨dst, .pick c x y, ty, pos, after, on_⟩) := Tame.bind (tame_asBool _) fun _ => trivial
theorem tame_alloc (t : TypeId) : Tame P (execOp ev ⟨dst, .alloc t, ty, pos, after, on_⟩) := tame_value _ (Tame.bind (tame_zeroValue t) fun _ => Tame.bind (tame_newVar _ _) fun _ => trivial)
theorem tame_box (t : TypeId) (x : Operand) : Tame P (execOp ev ⟨dst, .box t x, ty, pos, after, on_⟩) := tame_value _ (Tame.bind (tame_newVar _ _) fun _ => trivial)
theorem tame_makeFunc (fn : Fn) (x y : Array Operand) : Tame P (execOp ev ⟨dst, .makeFunc fn x y, ty, pos, after, on_⟩) := trivial
theorem tame_extract (x : Operand) (i : Nat) : Tame P (execOp ev ⟨dst, .extract x i, ty, pos, after, on_⟩) := tame_value _ (by
  show Tame P (Instr.extract _ _)
  unfold Instr.extract; split <;> (try split) <;> trivial)
theorem tame_loadOp (t : TypeId) (x : Operand) : Tame P (execOp ev ⟨dst, .load t x, ty, pos, after, on_⟩) := tame_value _ (by
  show Tame P (Instr.loadAt _ _)
  unfold Instr.loadAt Instr.sureAddr
  refine Tame.bind ?_ fun _ => tame_loadVar _ _
  split <;> first | trivial | exact tame_runtimePanic _)
theorem tame_storeOp (t : TypeId) (x y : Operand) : Tame P (execOp ev ⟨dst, .store t x y, ty, pos, after, on_⟩) := tame_unit _ (by
  show Tame P (Instr.storeAt _ _ _)
  unfold Instr.storeAt Instr.sureAddr
  refine Tame.bind ?_ fun _ => tame_storeVar _ _ _
  split <;> first | trivial | exact tame_runtimePanic _)
theorem tame_makeMap (t : TypeId) : Tame P (execOp ev ⟨dst, .makeMap t none, ty, pos, after, on_⟩) := tame_value _ (Tame.bind (tame_newObj _ trivial) fun _ => trivial)
end
end Go.Proofs.YtofkhehcnfiopaaDoor.N
namespace Go.Proofs.YtofkhehcnfiopaaDoor.N
open Go Go.RowKit Go.Conc
set_option linter.unusedSectionVars false
set_option autoImplicit false

/-! Loops. -/
section
variable {P : Program} {α β : Type}
theorem tame_forIn_list {f : α → β → Sem (ForInStep β)} (h : ∀ a b, Tame P (f a b)) : ∀ (l : List α) (b : β), Tame P (forIn l b f)
  | [], b => by rw [List.forIn_nil]; trivial
  | a :: l, b => by
    rw [List.forIn_cons]
    refine Tame.bind (h a b) fun s => ?_
    cases s with
    | done b => trivial
    | yield b => exact tame_forIn_list h l b
theorem tame_forIn_arr {f : α → β → Sem (ForInStep β)} (h : ∀ a b, Tame P (f a b)) (l : Array α) (b : β) : Tame P (forIn l b f) := by
  rw [← Array.forIn_toList]; exact tame_forIn_list h _ _
theorem tame_forIn_range {f : Nat → β → Sem (ForInStep β)} (h : ∀ a b, Tame P (f a b)) (n : Nat) (b : β) : Tame P (forIn [0:n] b f) := by
  rw [Std.Legacy.Range.forIn_eq_forIn_range']; exact tame_forIn_list h _ _
theorem tame_mapM_list {f : α → Sem β} (h : ∀ a, Tame P (f a)) : ∀ (l : List α), Tame P (l.mapM f)
  | [] => by rw [List.mapM_nil]; trivial
  | a :: l => by
    rw [List.mapM_cons]
    exact Tame.bind (h a) fun _ => Tame.bind (tame_mapM_list h l) fun _ => trivial
theorem tame_mapM_arr {f : α → Sem β} (h : ∀ a, Tame P (f a)) (l : Array α) : Tame P (l.mapM f) := by
  rw [Array.mapM_eq_mapM_toList]
  exact Tame.bind (tame_mapM_list h _) fun _ => trivial
theorem tame_sizeOf_then {t : TypeId} {i : TypeInfo} {f : Nat → Sem β} (hi : P.info? t = some i) (h : Tame P (f i.size)) : Tame P (sizeOf t >>= f) := by
  have e : (sizeOf t >>= f) = Sem.program fun p => ((match p.info? t with | some i => pure i | none => stuck "no such type" : Sem TypeInfo) >>= fun i => pure i.size) >>= f := rfl
  rw [e]
  show Tame P (((match P.info? t with | some i => pure i | none => stuck "no such type" : Sem TypeInfo) >>= fun i => pure i.size) >>= f)
  rw [hi]
  exact h
theorem tame_underlying_then {t : TypeId} {d : TypeDesc} {f : TypeDesc → Sem β} (hd : P.underlying t = some d) (h : Tame P (f d)) : Tame P (underlying t >>= f) := by
  have e : (underlying t >>= f) = Sem.program fun p => (match p.underlying t with | some i => pure i | none => stuck "no such type" : Sem TypeDesc) >>= f := rfl
  rw [e]
  show Tame P ((match P.underlying t with | some i => pure i | none => stuck "no such type" : Sem TypeDesc) >>= f)
  rw [hd]
  exact h
end

section
variable {P : Program} {ev : Operand → Value} {dst : Option Tmp} {ty : TypeId} {pos : String} {after : Array Edge} {on_ : Option (Nat × Bool)}
theorem tame_nilCheck {x : Operand} {p : Option Addr} (hx : ev x = .pointer p) : Tame P (execOp ev ⟨dst, .nilCheck x, ty, pos, after, on_⟩) := by
  unfold execOp
  dsimp only
  rw [hx]
  cases p <;> first | exact tame_runtimePanic _ | trivial
theorem tame_unary (op : UnOp) (v : Value) : Tame P (Op.unary op v) := by
  unfold Op.unary Op.intArith Op.intBits
  split <;> (try dsimp only) <;> (try split) <;> trivial
theorem tame_unOp (op : UnOp) (t : TypeId) (x : Operand) : Tame P (execOp ev ⟨dst, .unOp op t x, ty, pos, after, on_⟩) := tame_value _ (tame_unary _ _)
theorem tame_intOp (op : BinOp) (t : TypeId) (k k' : IntKind) (m n : Int) : Tame P (binOp op t (.int k m) (.int k' n)) := by
  have h1 : ∀ k a b, Tame P (Op.intArith op k a b) := fun k a b => by unfold Op.intArith; split <;> trivial
  have h2 : ∀ k a b, Tame P (Op.intDiv op k a b) := fun k a b => by unfold Op.intDiv; split <;> first | exact tame_runtimePanic _ | (split <;> trivial)
  have h3 : ∀ k a b, Tame P (Op.intBits op k a b) := fun k a b => by unfold Op.intBits; dsimp only; split <;> trivial
  have h4 : ∀ a b, Tame P (Op.intCmp op a b) := fun a b => by unfold Op.intCmp; split <;> trivial
  have h5 : ∀ op k a k' b, Tame P (Op.shift op k a k' b) := fun op k a k' b => by unfold Op.shift; split <;> first | exact tame_runtimePanic _ | (dsimp only; split <;> trivial)
  cases op <;> first
    | (simp only [binOp]; exact h5 ..)
    | (show Tame P (if k ≠ k' then _ else _)
       split <;> first | trivial | exact h1 .. | exact h2 .. | exact h3 .. | exact h4 ..)
theorem tame_guard_int (op : BinOp) (t : TypeId) (x y : Operand) (k k' : IntKind) (m n : Int) : Tame P (eqGuard op t x y (.int k m) (.int k' n)) := by
  unfold eqGuard
  split <;> trivial
theorem tame_binInt {op : BinOp} {t t' : TypeId} {x y : Operand} {k k' : IntKind} {m n : Int} (hx : ev x = .int k m) (hy : ev y = .int k' n) : Tame P (execOp ev ⟨dst, .binOp op t x y t', ty, pos, after, on_⟩) := by
  refine tame_value _ ?_
  rw [hx, hy]
  exact Tame.bind (tame_guard_int ..) fun _ => tame_intOp ..
theorem tame_convertInt {s t : TypeId} {x : Operand} {k : IntKind} {m : Int} {ds : TypeDesc} {ke : IntKind} (hx : ev x = .int ke m) (hs : P.underlying s = some ds) (ht : P.underlying t = some (.int k)) : Tame P (execOp ev ⟨dst, .convert s t x, ty, pos, after, on_⟩) := by
  refine tame_value _ ?_
  show Tame P (convert s t (ev x))
  rw [hx]
  unfold convert
  exact tame_underlying_then hs (tame_underlying_then ht trivial)
theorem tame_field {s : TypeId} {x : Operand} {f : Nat} {fs : Array Field} {fd : Field} {i : TypeInfo} {n : Nat} {p : Addr} (hx : ev x = .pointer (some p)) (h1 : P.underlying s = some (.struct fs)) (h2 : fs[f]? = some fd) (hi : P.info? fd.type = some i) (hn : i.size = n + 1) :
    Tame P (execOp ev ⟨dst, .fieldAddr s x f, ty, pos, after, on_⟩) := by
  refine tame_value _ ?_
  show Tame P (Instr.fieldAt s (ev x) f)
  rw [hx]
  unfold Instr.fieldAt
  refine tame_underlying_then h1 ?_
  dsimp only
  rw [h2]
  refine Tame.bind trivial fun a => Tame.bind ?_ fun _ => trivial
  unfold fieldPlace
  refine tame_sizeOf_then hi ?_
  rw [if_neg (by rw [hn]; omega)]
  trivial
theorem tame_index (t : TypeId) (x y : Operand) : Tame P (execOp ev ⟨dst, .indexAddr t x y, ty, pos, after, on_⟩) := by
  refine tame_value _ ?_
  show Tame P (Instr.indexAt _ _ _)
  unfold Instr.indexAt Instr.sureAddr
  repeat' first
    | exact trivial
    | exact tame_underlying _ | exact tame_sizeOf _ | exact tame_typeInfo _ | exact tame_zeroValue _ | exact tame_asIntOf _ | exact tame_asInt _ | exact tame_asAgg _ | exact tame_asAddr _ | exact tame_runtimePanic _ | exact tame_boundsPanic .. | exact tame_choose _ | exact tame_newRow .. | exact tame_part .. | exact tame_askRoom _
    | (refine Tame.bind ?_ fun _ => ?_)
    | split
    | dsimp only
theorem tame_indexVal (t : TypeId) (x y : Operand) : Tame P (execOp ev ⟨dst, .index t x y, ty, pos, after, on_⟩) := by
  refine tame_value _ ?_
  show Tame P (Instr.index _ _ _)
  unfold Instr.index
  repeat' first
    | exact trivial
    | exact tame_underlying _ | exact tame_sizeOf _ | exact tame_typeInfo _ | exact tame_zeroValue _ | exact tame_asIntOf _ | exact tame_asInt _ | exact tame_asAgg _ | exact tame_asAddr _ | exact tame_runtimePanic _ | exact tame_boundsPanic .. | exact tame_choose _ | exact tame_newRow .. | exact tame_part .. | exact tame_askRoom _
    | (refine Tame.bind ?_ fun _ => ?_)
    | split
    | dsimp only
theorem tame_buildV (t : TypeId) (ps : Array (Nat × Value)) : Tame P (Instr.build t ps) := by
  have h : ∀ fs : Array Field, Tame P (fs.mapM fun f => do pure (f.offset, ← sizeOf f.type)) := fun fs => tame_mapM_arr (f := fun (f : Field) => do pure (f.offset, ← sizeOf f.type)) (fun f => Tame.bind (tame_sizeOf f.type) fun _ => trivial) fs
  unfold Instr.build
  repeat' first
    | exact trivial
    | exact tame_underlying _ | exact tame_sizeOf _ | exact tame_typeInfo _ | exact tame_zeroValue _ | exact tame_asIntOf _ | exact tame_asInt _ | exact tame_asAgg _ | exact tame_asAddr _ | exact tame_runtimePanic _ | exact tame_boundsPanic .. | exact tame_choose _ | exact tame_newRow .. | exact tame_part .. | exact tame_askRoom _ | exact h _
    | (refine Tame.bind ?_ fun _ => ?_)
    | split
    | dsimp only
theorem tame_build (t : TypeId) (ps : Array (Nat × Operand)) : Tame P (execOp ev ⟨dst, .build t ps, ty, pos, after, on_⟩) := tame_value _ (tame_buildV _ _)
theorem tame_buildSliceV (t : TypeId) (n : Nat) (ps : Array (Nat × Value)) : Tame P (Instr.buildSlice t n ps) := by
  unfold Instr.buildSlice
  repeat' first
    | exact trivial
    | exact tame_underlying _ | exact tame_sizeOf _ | exact tame_typeInfo _ | exact tame_zeroValue _ | exact tame_asIntOf _ | exact tame_asInt _ | exact tame_asAgg _ | exact tame_asAddr _ | exact tame_runtimePanic _ | exact tame_boundsPanic .. | exact tame_choose _ | exact tame_newRow .. | exact tame_part .. | exact tame_askRoom _
    | (refine Tame.bind ?_ fun _ => ?_)
    | split
    | dsimp only
theorem tame_buildSlice (t : TypeId) (n : Nat) (ps : Array (Nat × Operand)) : Tame P (execOp ev ⟨dst, .buildSlice t n ps, ty, pos, after, on_⟩) := tame_value _ (tame_buildSliceV _ _ _)
theorem tame_makeInterface (t : TypeId) (x : Operand) : Tame P (execOp ev ⟨dst, .makeInterface t x, ty, pos, after, on_⟩) := tame_value _ (by
  show Tame P (Instr.makeInterface _ _)
  unfold Instr.makeInterface
  exact Tame.bind (tame_underlying _) fun d => by split <;> trivial)
theorem tame_makeSlice (t : TypeId) (x y : Operand) : Tame P (execOp ev ⟨dst, .makeSlice t x y, ty, pos, after, on_⟩) := tame_value _ (by
  show Tame P (Instr.makeSlice _ _ _)
  unfold Instr.makeSlice
  repeat' first
    | exact trivial
    | exact tame_underlying _ | exact tame_sizeOf _ | exact tame_typeInfo _ | exact tame_zeroValue _ | exact tame_asIntOf _ | exact tame_asInt _ | exact tame_asAgg _ | exact tame_asAddr _ | exact tame_runtimePanic _ | exact tame_boundsPanic .. | exact tame_choose _ | exact tame_newRow .. | exact tame_part .. | exact tame_askRoom _
    | (refine Tame.bind ?_ fun _ => ?_)
    | split
    | dsimp only)
theorem tame_sliceBound (x : Value) (y : Nat) (c : BoundsCode) : Tame P (Instr.sliceBound x y c) := by
  unfold Instr.sliceBound
  refine Tame.bind (tame_asIntOf _) fun q => ?_
  dsimp only
  split <;> first | trivial | exact tame_boundsPanic ..
theorem tame_sliceBounds (s : Bool) (len cap : Nat) (lo hi mx : Option Value) : Tame P (Instr.sliceBounds s len cap lo hi mx) := by
  unfold Instr.sliceBounds
  repeat' first
    | exact trivial
    | exact tame_underlying _ | exact tame_sizeOf _ | exact tame_typeInfo _ | exact tame_zeroValue _ | exact tame_asIntOf _ | exact tame_asInt _ | exact tame_asAgg _ | exact tame_asAddr _ | exact tame_runtimePanic _ | exact tame_boundsPanic .. | exact tame_choose _ | exact tame_newRow .. | exact tame_part .. | exact tame_askRoom _ | exact tame_sliceBound ..
    | (refine Tame.bind ?_ fun _ => ?_)
    | split
    | dsimp only
theorem tame_slice (t : TypeId) (x : Operand) (lo hi mx : Option Operand) : Tame P (execOp ev ⟨dst, .slice t x lo hi mx, ty, pos, after, on_⟩) := tame_value _ (by
  show Tame P (Instr.sliceAt _ _ _ _ _)
  unfold Instr.sliceAt Instr.sureAddr Instr.slice
  repeat' first
    | exact trivial
    | exact tame_underlying _ | exact tame_sizeOf _ | exact tame_typeInfo _ | exact tame_zeroValue _ | exact tame_asIntOf _ | exact tame_asInt _ | exact tame_asAgg _ | exact tame_asAddr _ | exact tame_runtimePanic _ | exact tame_boundsPanic .. | exact tame_choose _ | exact tame_newRow .. | exact tame_part .. | exact tame_askRoom _ | exact tame_sliceBounds ..
    | (refine Tame.bind ?_ fun _ => ?_)
    | split
    | dsimp only)
end
end Go.Proofs.YtofkhehcnfiopaaDoor.N
namespace Go.Proofs.YtofkhehcnfiopaaDoor.N
open Go Go.RowKit Go.Conc
set_option linter.unusedSectionVars false
set_option autoImplicit false

/-! Trees that end badly. -/
section
variable {α β : Type}
/-- It does not end in a panic of Go's. -/
def Mild : Sem α → Prop
  | .pure _ => True
  | .load _ _ k => ∀ v, Mild (k v)
  | .store _ _ _ k => Mild k
  | .new _ k => ∀ r, Mild (k r)
  | .shape _ k => ∀ x, Mild (k x)
  | .freeze _ _ k => Mild k
  | .frozen _ k => ∀ x, Mild (k x)
  | .getObj _ k => ∀ o, Mild (k o)
  | .setObj _ _ k => Mild k
  | .choose _ k => ∀ n, Mild (k n)
  | .sys _ k => ∀ r, Mild (k r)
  | .program k => ∀ p, Mild (k p)
  | .mark _ k => Mild k
  | .halt (.panic _) => False
  | .halt _ => True
theorem Mild.bind {s : Sem α} {f : α → Sem β} (hs : Mild s) (hf : ∀ a, Mild (f a)) : Mild (s >>= f) := by
  show Mild (s.bind f)
  induction s with
  | pure a => exact hf a
  | load m a k ih => exact fun v => ih v (hs v)
  | store m a v k ih => exact ih hs
  | new o k ih => exact fun r => ih r (hs r)
  | shape r k ih => exact fun x => ih x (hs x)
  | freeze a n k ih => exact ih hs
  | frozen a k ih => exact fun x => ih x (hs x)
  | getObj r k ih => exact fun o => ih o (hs o)
  | setObj r o k ih => exact ih hs
  | choose q k ih => exact fun n => ih n (hs n)
  | sys c k ih => exact fun r => ih r (hs r)
  | program k ih => exact fun p => ih p (hs p)
  | mark m k ih => exact ih hs
  | halt x => cases x <;> first | exact hs.elim | trivial
theorem dead_right {s : Sem α} {f : α → Sem β} (hf : ∀ a, Dead (f a)) (hs : Mild s) : Dead (s >>= f) := by
  show Dead (s.bind f)
  induction s with
  | pure a => exact hf a
  | load m a k ih => exact fun v => ih v (hs v)
  | store m a v k ih => exact ih hs
  | new o k ih => exact fun r => ih r (hs r)
  | shape r k ih => exact fun x => ih x (hs x)
  | freeze a n k ih => exact ih hs
  | frozen a k ih => exact fun x => ih x (hs x)
  | getObj r k ih => exact fun o => ih o (hs o)
  | setObj r o k ih => exact ih hs
  | choose q k ih => exact fun n => ih n (hs n)
  | sys c k ih => exact fun r => ih r (hs r)
  | program k ih => exact fun p => ih p (hs p)
  | mark m k ih => exact ih hs
  | halt x => cases x <;> first | exact hs.elim | trivial
end

theorem mild_holdsCells (a : Addr) (n : Nat) : Mild (Builtin.holdsCells a n) := fun x => by
  cases x <;> trivial
theorem mild_mayShare (size sLen n : Nat) (base : Option Addr) (x : Value) : Mild (Builtin.mayShare size sLen n base x) := by
  unfold Builtin.mayShare
  have hfr : ∀ a, Mild (frozen a) := fun a => fun _ => trivial
  repeat' first
    | exact trivial
    | exact mild_holdsCells ..
    | exact hfr _
    | exact fun _ => trivial
    | (refine Mild.bind ?_ fun _ => ?_)
    | split
    | dsimp only
/-! The rest of the operations. -/
section
variable {P : Program} {ev : Operand → Value} {dst : Option Tmp} {ty : TypeId} {pos : String} {after : Array Edge} {on_ : Option (Nat × Bool)}
theorem tame_firstCells (s n : Nat) (v : Value) : Tame P (Builtin.firstCells s n v) := by unfold Builtin.firstCells; split <;> first | exact tame_loadCells .. | trivial
theorem tame_mayShare {α : Type} (size sLen n : Nat) (base : Option Addr) (x : Value) {f : Bool → Sem α} (hd : ∀ b, Dead (f b)) (hf : ∀ b, Tame P (f b)) : Tame P (Builtin.mayShare size sLen n base x >>= f) := by
  have hm := mild_mayShare size sLen n base x
  cases base with
  | some a => exact fun r => dead_right hd (hm r)
  | none =>
    cases x with
    | slice A l c =>
      cases A with
      | some b => exact fun r => dead_right hd (hm r)
      | none => exact hf false
    | _ => exact hf false
theorem tame_pure_then {α β : Type} {a : α} {f : α → Sem β} (h : Tame P (f a)) : Tame P (pure a >>= f) := h
theorem tame_append2 {t e ty : TypeId} {A B : Option Addr} {n c m cb : Nat} (ht : P.underlying t = some (.slice e)) : Tame P (Builtin.append_ #[t, t] ty #[.slice A n c, .slice B m cb]) := by
  simp only [Builtin.append_, List.getElem?_toArray, List.getElem?_cons_zero, List.getElem?_cons_succ]
  refine tame_underlying_then ht ?_
  dsimp only
  refine Tame.bind (tame_sizeOf _) fun size => ?_
  refine tame_underlying_then ht ?_
  refine tame_pure_then ?_
  simp only [Bool.false_eq_true, if_false]
  refine Tame.bind trivial fun n' => ?_
  simp only [Bool.not_false, if_true, false_or]
  have hms : Tame P (do
      let b ← Builtin.mayShare size n n' A (Value.slice B m cb)
      if (!b) = true then do
        mark Mark.noRoom
        unsupported (Unsupported.resourceLimit "append: a slice or a string whose bytes no memory bears")
      else unsupported (Unsupported.resourceLimit "append: a slice or a string whose bytes no memory bears") : Sem PUnit) :=
    tame_mayShare _ _ _ _ _ (fun b => by cases b <;> trivial) (fun b => by cases b <;> first | trivial | exact ⟨trivial, trivial⟩)
  repeat' first
    | exact trivial
    | exact tame_sizeOf _ | exact tame_typeInfo _ | exact tame_zeroValue _ | exact tame_runtimePanic _ | exact tame_choose _ | exact tame_newRow .. | exact tame_askRoom _ | exact tame_storeCells .. | exact tame_firstCells ..
    | exact hms
    | (refine Tame.bind ?_ fun _ => ?_)
    | split
end
end Go.Proofs.YtofkhehcnfiopaaDoor.N
namespace Go.Proofs.YtofkhehcnfiopaaDoor.N
open Go Go.RowKit Go.Conc
set_option linter.unusedSectionVars false
set_option autoImplicit false

/-! Operations by their list. -/
def wpList (P : Program) [Sys] (ops : Array Oper) (Q : Exit → Act → World → Prop) : List Oper → Act → World → Prop
  | [], a, w => Q .normal a w
  | o :: rest, a, w => if Region.wanted o (yielded ops a.tmps) then wpO P o a w (wpList P ops Q rest) Q else wpList P ops Q rest (a.put o.dst undef) w
section
variable {P : Program} [I : Sys] {ops : Array Oper} {Q : Exit → Act → World → Prop} {a : Act} {w : World} {rest : List Oper}
theorem wpList_nil (h : Q .normal a w) : wpList P ops Q [] a w := h
theorem wpList_now {o : Oper} (hg : Region.wanted o (yielded ops a.tmps) = true) (h : ∀ v₁, Rl w v₁ → OpNow P o a v₁ (wpList P ops Q rest) Q) : wpList P ops Q (o :: rest) a w := by
  simp only [wpList]
  rw [if_pos hg]
  exact .inl h
theorem wpOps_of_list : ∀ (l : List Oper) (n : Nat) (a : Act) (w : World), (∀ j o, l[j]? = some o → ops[n + j]? = some o) → wpList P ops Q l a w → wpOps P ops Q (List.range' n l.length) a w
  | [], n, a, w, _, h => h
  | o :: l, n, a, w, ho, h => by
    rw [List.length_cons, List.range'_succ]
    simp only [wpOps]
    have h0 := ho 0 o rfl
    rw [Nat.add_zero] at h0
    rw [h0]
    dsimp only
    simp only [wpList] at h
    have key : ∀ a w, wpList P ops Q l a w → wpOps P ops Q (List.range' (n + 1) l.length) a w := fun a w hh =>
      wpOps_of_list l (n + 1) a w (fun j o' hj => by rw [Nat.add_assoc, Nat.add_comm 1 j]; exact ho (j + 1) o' (by simpa using hj)) hh
    split
    · rename_i hw
      rw [if_pos hw] at h
      exact h.mono key (fun _ _ _ x => x)
    · rename_i hw
      rw [if_neg hw] at h
      exact key _ _ h
theorem wp_region_lit {id : Nat} {l : List Oper} (h : wpList P l.toArray Q l a w) : wp P (.region id l.toArray false) Q a w := by
  refine wp_region ?_
  have := wpOps_of_list (P := P) (ops := l.toArray) (Q := Q) l 0 a w (fun j o hj => by simpa using hj) h
  rw [List.range_eq_range']
  simpa using this
theorem wpList_cut {Q' : Exit → Act → World → Prop} {M : Act → World → Prop} {l2 : List Oper} (hQ : ∀ ch a w, Q' (.panic ch) a w → Q (.panic ch) a w) (hN : ∀ a w, Q' .normal a w → wpList P ops Q l2 a w) : ∀ (l1 : List Oper) (a : Act) (w : World), wpList P ops Q' l1 a w → wpList P ops Q (l1 ++ l2) a w
  | [], a, w, h => hN a w h
  | o :: l1, a, w, h => by
    simp only [List.cons_append, wpList] at h ⊢
    split
    · rename_i hw
      rw [if_pos hw] at h
      exact h.mono (fun a w hh => wpList_cut (M := M) hQ hN l1 a w hh) hQ
    · rename_i hw
      rw [if_neg hw] at h
      exact wpList_cut (M := M) hQ hN l1 _ _ h
end

theorem tame_results {P : Program} (fn : Func) (tmps : Array Value) : Tame P (results fn tmps) := by
  unfold results
  refine Tame.bind (tame_mapM_arr (fun x => ?_) _) fun _ => trivial
  cases x with
  | tmp t => trivial
  | cell a t => exact Tame.bind (tame_asAddr _) fun _ => tame_loadVar _ _
/-- Two values that can be compared by looking at themselves alone. -/
class TB (u u' : Value) : Prop where
  tame : ∀ (P : Program) (op : BinOp) (t : TypeId) (x y : Operand), Tame P (do eqGuard op t x y u u'; binOp op t u u' : Sem Value)

/-! The rest of the operations. -/
section
variable {P : Program} {ev : Operand → Value} {dst : Option Tmp} {ty : TypeId} {pos : String} {after : Array Edge} {on_ : Option (Nat × Bool)}
theorem tame_callFunc {f : FuncId} {fn : Func} (hf : P.funcs[f]? = some fn) (hb : fn.body.isSome = true) (hn : (fn.name == "runtime.NumGoroutine") = false) (args : Array Value) : Tame P (callFunc f args) := by
  have hb' : fn.body.isNone = false := by cases h : fn.body <;> simp_all
  have e : callFunc f args = Sem.program fun p => (match p.funcs[f]? with
    | none => stuck "call: no such function"
    | some fn =>
      if fn.name == "runtime.NumGoroutine" then pure .numGoroutine
      else if fn.body.isNone then do
        mark (.extern f)
        if let some e := Extern.findNext fn then return ← e args
        match Extern.find fn with
        | some e => pure (.value (← e args))
        | none =>
          if fn.name.endsWith ".init" && !fn.name.startsWith "(" && !fn.name.startsWith "gosem." then pure (.value (.tuple #[]))
          else unsupported (.extern fn.name)
      else pure (.enter f args) : Sem Next) := rfl
  rw [e]
  show Tame P (match P.funcs[f]? with
    | none => stuck "call: no such function"
    | some fn =>
      if fn.name == "runtime.NumGoroutine" then pure .numGoroutine
      else if fn.body.isNone then do
        mark (.extern f)
        if let some e := Extern.findNext fn then return ← e args
        match Extern.find fn with
        | some e => pure (.value (← e args))
        | none =>
          if fn.name.endsWith ".init" && !fn.name.startsWith "(" && !fn.name.startsWith "gosem." then pure (.value (.tuple #[]))
          else unsupported (.extern fn.name)
      else pure (.enter f args) : Sem Next)
  rw [hf]
  simp only [hn, hb', Bool.false_eq_true, if_false]
  trivial
theorem tame_callV {x : Operand} {args : Array Operand} {ts : Array TypeId} {f : FuncId} {first cap : Array Value} (hx : ev x = .func (.func f) first cap) (ht : ∀ args, Tame P (callFunc f args)) :
    Tame P (execOp ev ⟨dst, .call { callee := .value x, args := args, argTypes := ts }, ty, pos, after, on_⟩) := by
  show Tame P (Deferred.ofValue (ev x) _ >>= fun d => invoke d.target d.args)
  rw [hx]
  exact ht _
theorem tame_builtin {b : Builtin} {args : Array Operand} {ts : Array TypeId} (h : ∀ cs, Tame P (builtin b ts ty cs (args.map ev))) : Tame P (execOp ev ⟨dst, .call { callee := .builtin b, args := args, argTypes := ts }, ty, pos, after, on_⟩) := h _
theorem tame_len {ts : Array TypeId} {cs : Array Bool} {xs : Array Value} : Tame P (builtin .len ts ty cs xs) := tame_value _ (by
  show Tame P (Builtin.len_ _ _ _)
  unfold Builtin.len_
  repeat' first
    | exact trivial
    | exact tame_underlying _ | exact tame_getObj _
    | (refine Tame.bind ?_ fun _ => ?_)
    | split
    | dsimp only)
theorem tame_append {t e : TypeId} {cs : Array Bool} {A B : Option Addr} {n c m cb : Nat} (ht : P.underlying t = some (.slice e)) : Tame P (builtin .append #[t, t] ty cs #[.slice A n c, .slice B m cb]) := tame_value _ (tame_append2 ht)
theorem tame_clear {ts : Array TypeId} {cs : Array Bool} {xs : Array Value} : Tame P (builtin .clear ts ty cs xs) := tame_value _ (by
  show Tame P (Builtin.clear_ _ _ _)
  unfold Builtin.clear_
  repeat' first
    | exact trivial
    | exact tame_underlying _ | exact tame_getObj _ | exact tame_setObj _ _ trivial | exact tame_storeCells .. | exact tame_zeroValue _
    | (refine Tame.bind ?_ fun _ => ?_)
    | split
    | dsimp only)
theorem tame_panicOp {x : Operand} {t : TypeId} {v : Value} (hx : ev x = .iface t v) : Tame P (execOp ev ⟨dst, .panic x, ty, pos, after, on_⟩) := by
  refine tame_value _ ?_
  show Tame P (Instr.panic (ev x))
  rw [hx]
  trivial
theorem tame_deferOp {x : Operand} {args : Array Operand} {ts : Array TypeId} {f : Fn} {first cap : Array Value} (hx : ev x = .func f first cap) :
    Tame P (execOp ev ⟨dst, .defer { callee := .value x, args := args, argTypes := ts }, ty, pos, after, on_⟩) := by
  show Tame P (Deferred.ofValue (ev x) _ >>= fun d => pure (Next.defer d))
  rw [hx]
  trivial
end
end Go.Proofs.YtofkhehcnfiopaaDoor.N
namespace Go.Proofs.YtofkhehcnfiopaaDoor.N
open Go Go.RowKit Go.Conc
set_option linter.unusedSectionVars false
set_option autoImplicit false

/-! Scopes. -/
theorem fits_label : ∀ {c rest : Code} {l : Nat}, findLabel c l = some rest → fits c = true → fits rest = true
  | .seq x y, rest, l, h, hf => by
    simp only [findLabel] at h
    simp only [fits, Bool.and_eq_true] at hf
    cases hx : findLabel x l with
    | some r =>
      rw [hx] at h
      obtain rfl := Option.some.inj h
      simp only [fits, Bool.and_eq_true]
      exact ⟨fits_label hx hf.1, hf.2⟩
    | none => rw [hx] at h; exact fits_label h hf.2
  | .label l', rest, l, h, hf => by
    simp only [findLabel] at h
    split at h
    · obtain rfl := Option.some.inj h; rfl
    · cases h
  | .region .., _, _, h, _ | .skip, _, _, h, _ | .cond .., _, _, h, _ | .block .., _, _, h, _ | .loop .., _, _, h, _ | .exit .., _, _, h, _ | .goto .., _, _, h, _ | .ret, _, _, h, _ | .scope .., _, _, h, _ | .rangeFunc .., _, _, h, _ | .refuse .., _, _, h, _ => by simp [findLabel] at h
theorem Ok.label {b : Frame} {c rest : Code} {l : Nat} (h : Ok b (.scope c)) (hf : findLabel c l = some rest) : Ok b rest := ⟨h.1, h.2.imp id fun h => fits_label hf h⟩
section
variable {P : Program} [I : Sys] {Q : Exit → Act → World → Prop} {a : Act} {v : World}
theorem wp_scope_straight {c : Code} (h : wp P c (Exit.noGoto Q) a v) : wp P (.scope c) Q a v := by
  intro b k cs hb
  refine .one rfl (fun _ => stepX_scope) ((h b (.inScope c :: k) cs hb.scope).bind ?_)
  rintro g w' ⟨e, a', v0, hq, hr, harr⟩
  cases e with
  | normal =>
    obtain rfl := harr
    exact .one rfl (fun _ => stepX_inScope) (Out.late (e := .normal) hq hr rfl)
  | exit id =>
    obtain ⟨k₁, h1, rfl⟩ := harr
    exact Out.late (e := .exit id) hq hr ⟨k₁, by rw [h1]; simp [exitTo], rfl⟩
  | goto l => exact hq.elim
  | ret => exact Out.late (e := .ret) hq hr harr
  | panic ch => exact Out.late (e := .panic ch) hq hr harr
  | outgrown => exact harr.elim
theorem wp_scope_jumps {c rest : Code} {l : Nat} (hf : findLabel c l = some rest) (J : Nat → Act → World → Prop)
    (first : wp P c (Exit.jump l (fun a w => ∃ n, J n a w) Q) a v)
    (pass : ∀ n a w, J n a w → wp P rest (Exit.jump l (fun a' w' => ∃ m, m < n ∧ J m a' w') Q) a w) : wp P (.scope c) Q a v := by
  intro b k cs hb
  have hg : gotoIn l (.inScope c :: k) = some (.code rest :: .inScope c :: k) := by simp [gotoIn, hf]
  have key : ∀ n a w, J n a w → Gs P (Out Q b k cs) (G (b.atR a (.code rest :: .inScope c :: k)) cs) w := by
    intro n
    induction n using Nat.strongRecOn with
    | _ n ih =>
      intro a w hj
      refine (pass n a w hj b (.inScope c :: k) cs (hb.label hf)).bind ?_
      rintro g w' ⟨e, a', v0, hq, hr, harr⟩
      cases e with
      | normal =>
        obtain rfl := harr
        exact .one rfl (fun _ => stepX_inScope) (Out.late (e := .normal) hq hr rfl)
      | exit id =>
        obtain ⟨k₁, h1, rfl⟩ := harr
        exact Out.late (e := .exit id) hq hr ⟨k₁, by rw [h1]; simp [exitTo], rfl⟩
      | goto l' =>
        obtain ⟨rfl, m, hm, hj'⟩ := hq
        obtain ⟨k₁, h1, rfl⟩ := harr
        exact .one rfl (fun _ => stepX_goto (h1.trans hg)) ((ih m hm a' _ hj').rely hr)
      | ret => exact Out.late (e := .ret) hq hr harr
      | panic ch => exact Out.late (e := .panic ch) hq hr harr
      | outgrown => exact harr.elim
  refine .one rfl (fun _ => stepX_scope) ((first b (.inScope c :: k) cs hb.scope).bind ?_)
  rintro g w' ⟨e, a', v0, hq, hr, harr⟩
  cases e with
  | normal =>
    obtain rfl := harr
    exact .one rfl (fun _ => stepX_inScope) (Out.late (e := .normal) hq hr rfl)
  | exit id =>
    obtain ⟨k₁, h1, rfl⟩ := harr
    exact Out.late (e := .exit id) hq hr ⟨k₁, by rw [h1]; simp [exitTo], rfl⟩
  | goto l' =>
    obtain ⟨rfl, m, hj'⟩ := hq
    obtain ⟨k₁, h1, rfl⟩ := harr
    exact .one rfl (fun _ => stepX_goto (h1.trans hg)) ((key m a' _ hj').rely hr)
  | ret => exact Out.late (e := .ret) hq hr harr
  | panic ch => exact Out.late (e := .panic ch) hq hr harr
  | outgrown => exact harr.elim
end

/-! A recovering function, operation by operation. -/
section
variable {P : Program} [I : Sys] {ops : Array Oper} {Q : Exit → Act → List Frame → World → Prop} {a : Act} {cs : List Frame} {v : World}
theorem tame_typeAssert {ev : Operand → Value} {dst : Option Tmp} {ty : TypeId} {pos : String} {after : Array Edge} {on_ : Option (Nat × Bool)} (x : Operand) (s t : TypeId) (ok : Bool) : Tame P (execOp ev ⟨dst, .typeAssert x s t ok, ty, pos, after, on_⟩) := tame_value _ (by
  show Tame P (Instr.typeAssert _ _ _ _)
  unfold Instr.typeAssert
  repeat' first
    | exact trivial
    | exact tame_underlying _ | exact tame_typeInfo _ | exact tame_zeroValue _ | exact tame_runtimePanic _
    | (refine Tame.bind ?_ fun _ => ?_)
    | split
    | dsimp only)
theorem tame_recover {ev : Operand → Value} {dst : Option Tmp} {ty : TypeId} {pos : String} {after : Array Edge} {on_ : Option (Nat × Bool)} {xs : Array Operand} {ts : Array TypeId} : Tame P (execOp ev ⟨dst, .call { callee := .builtin .recover, args := xs, argTypes := ts }, ty, pos, after, on_⟩) := trivial
theorem run_recover {ev : Operand → Value} {dst : Option Tmp} {ty : TypeId} {pos : String} {after : Array Edge} {on_ : Option (Nat × Bool)} {xs : Array Operand} {ts : Array TypeId} (w : World) : (execOp ev ⟨dst, .call { callee := .builtin .recover, args := xs, argTypes := ts }, ty, pos, after, on_⟩).run P w = .ok .recover w := rfl
/-- A region that begins with recover: behind it the rest is an ordinary list. -/
theorem wpS_region_rec {id : Nat} {o : Oper} {l : List Oper} (hg : o.guard = none) (ht : Tame P (execOp a.eval o)) (hr : ∀ w, (execOp a.eval o).run P w = .ok .recover w)
    (h : ∀ v₁, Rl v v₁ → match recoverD cs with
      | some (x, cs') => wpList P (o :: l).toArray (fun e a' v' => Q e a' cs' v') l (a.put o.dst x) v₁
      | none => wpList P (o :: l).toArray (fun e a' v' => Q e a' cs v') l (a.put o.dst .nilIface) v₁) : wpS P (.region id (o :: l).toArray false) Q a cs v := by
  intro b k hb
  refine .one rfl (fun _ => stepX_region) ?_
  have hne : b.kind ≠ .early := by rw [hb.1]; simp
  have hd : OkOp b o := .inl hb.2
  have hk' : (b.kind == CallKind.early) = false := by simpa using hne
  have ho : (o :: l).toArray[0]? = some o := by simp
  have hw : Region.wanted o (yielded (o :: l).toArray a.tmps) = true := by simp [Region.wanted, hg]
  have hsz : List.range (o :: l).toArray.size = 0 :: List.range' 1 l.length := by
    rw [List.range_eq_range']; simp [List.range'_succ]
  rw [hsz]
  have hfin : ∀ v, (b.atR a (.inRegion (o :: l).toArray (0 :: List.range' 1 l.length) :: k)).finish v = b.atR (a.put o.dst v) (.inRegion (o :: l).toArray (List.range' 1 l.length) :: k) := fun v => fin_atR ho v
  have rest : ∀ (a' : Act) (cs' : List Frame) (v₁ : World), wpList P (o :: l).toArray (fun e a' v' => Q e a' cs' v') l a' v₁ → Gs P (OutS Q b k) (G (b.atR a' (.inRegion (o :: l).toArray (List.range' 1 l.length) :: k)) cs') v₁ := by
    intro a' cs' v₁ hl
    have h2 := wpOps_of_list (P := P) (ops := (o :: l).toArray) (Q := fun e a' v' => Q e a' cs' v') l 1 a' v₁ (fun j o' hj => by rw [Nat.add_comm]; simpa using hj) hl
    exact (wpOps_sound _ _ _ h2 b k cs' ⟨hne, .inl hb.2⟩).mono fun _ _ ⟨e, a'', v0, q, r⟩ => ⟨e, a'', cs', v0, q, r⟩
  have htr := tryRecover_deferred (show (b.atR a (.inRegion (o :: l).toArray (0 :: List.range' 1 l.length) :: k)).kind = .deferred from hb.1) cs
  refine Gs.step' rfl fun v₁ h1 => ?_
  have h2 := h v₁ h1
  cases hrec : recoverD cs with
  | none =>
    rw [hrec] at h2 htr
    refine ⟨_, v₁, listed P b.fn a o v₁, .oper ht (hr v₁) (fun u u' hr' => ?_), rest _ _ _ h2⟩
    rw [stepX_oper ho hw hd, ← hfin]
    simp only [Frame.atR, hb.2] at htr ⊢
    simp [stepG.apply, hr', G, hk', GStep.after, listed, htr]
  | some x =>
    obtain ⟨x, cs'⟩ := x
    rw [hrec] at h2 htr
    refine ⟨_, v₁, listed P b.fn a o v₁, .oper ht (hr v₁) (fun u u' hr' => ?_), rest _ _ _ h2⟩
    rw [stepX_oper ho hw hd, ← hfin]
    simp only [Frame.atR, hb.2] at htr ⊢
    simp [stepG.apply, hr', G, hk', GStep.after, listed, htr]
end
end Go.Proofs.YtofkhehcnfiopaaDoor.N
