/- Parts of the walks of the laws on fining, those that FiningWays needs: M1, M2, M3, M4, M5, M6, M7, M8, M9, M10, M11, M12, M13, M14, M15, M16, M17. -/
import Derived.Test.YtofkhehcnfiopaaDoorSFiningWays01
import Derived.Conc.CrowdComm
import Derived.Conc.Beside
import Derived.Conc.TokenTrace
namespace Go.Proofs.YtofkhehcnfiopaaDoor.N
open Go Go.RowKit Go.Conc
set_option autoImplicit false
set_option linter.unusedSectionVars false

/-! Workers that send on one channel, and one who receives: what each may ask of the others. -/

/-- Ghost state of whoever receives: the channel, the blocks that may only be read now, what each living worker has still to send. -/
structure Gst where
  c : Nat
  sl : List Nat
  pend : List (List UInt8)
def enc1 (l : List UInt8) : Nat × ByteArray := (0, ⟨l.toArray⟩)
def encN (n : Nat) : Nat × ByteArray := (n, ⟨#[]⟩)
def Gst.enc (x : Gst) : Array (Nat × ByteArray) := (encN x.c :: encN x.sl.length :: (x.sl.map encN ++ x.pend.map enc1)).toArray
theorem enc1_inj {l m : List UInt8} (h : enc1 l = enc1 m) : l = m := by
  unfold enc1 at h
  simp only [Prod.mk.injEq, ByteArray.mk.injEq, true_and] at h
  simpa using h
theorem encN_inj {l m : Nat} (h : encN l = encN m) : l = m := by
  unfold encN at h
  simpa using h
theorem map_inj {α β : Type} {f : α → β} (hf : ∀ a b, f a = f b → a = b) : ∀ {l m : List α}, l.map f = m.map f → l = m
  | [], [], _ => rfl
  | [], _ :: _, h => by simp at h
  | _ :: _, [], h => by simp at h
  | a :: l, b :: m, h => by
    simp only [List.map_cons, List.cons.injEq] at h
    rw [hf _ _ h.1, map_inj hf h.2]
theorem Gst.enc_inj {x y : Gst} (h : x.enc = y.enc) : x = y := by
  obtain ⟨c, sl, pend⟩ := x
  obtain ⟨c', sl', pend'⟩ := y
  have h1 := congrArg Array.toList h
  simp only [Gst.enc, List.cons.injEq] at h1
  obtain ⟨h2, h3, h4⟩ := h1
  have e1 := encN_inj h2
  have e2 := encN_inj h3
  have h5 := List.append_inj h4 (by rw [List.length_map, List.length_map, e2])
  rw [e1, map_inj (fun _ _ => encN_inj) h5.1, map_inj (fun _ _ => enc1_inj) h5.2]

/-- Blocks frozen, thawed, shown alone. -/
def Obj.chill : Obj → Obj
  | .cells c t _ => .cells c t (0, c.size)
  | o => o
def Obj.thaw : Obj → Obj
  | .cells c t _ => .cells c t (0, 0)
  | o => o
def blank : Obj := .cells #[] 0 (0, 0)
def chill (sl : List Nat) (v : World) : World := { v with heap := v.heap.mapIdx fun b o => if b ∈ sl then Obj.chill o else o }
def thaw (sl : List Nat) (v : World) : World := { v with heap := v.heap.mapIdx fun b o => if b ∈ sl then Obj.thaw o else o }
def onlyV (sl : List Nat) (v : World) : World := { v with heap := v.heap.mapIdx fun b o => if b ∈ sl then Obj.chill o else blank }
def saying (v : World) (o : Array (Nat × ByteArray)) : World := { v with output := o }
theorem heap_chill (sl : List Nat) (v : World) (b : Nat) : (chill sl v).heap[b]? = (v.heap[b]?).map fun o => if b ∈ sl then Obj.chill o else o := by simp [chill]
theorem heap_thaw (sl : List Nat) (v : World) (b : Nat) : (thaw sl v).heap[b]? = (v.heap[b]?).map fun o => if b ∈ sl then Obj.thaw o else o := by simp [thaw]
theorem heap_onlyV (sl : List Nat) (v : World) (b : Nat) : (onlyV sl v).heap[b]? = (v.heap[b]?).map fun o => if b ∈ sl then Obj.chill o else blank := by simp [onlyV]
theorem plain_chill {o : Obj} (h : notView o) : notView (Obj.chill o) := by cases o <;> first | exact h | trivial
theorem plain_thaw {o : Obj} (h : notView o) : notView (Obj.thaw o) := by cases o <;> first | exact h | trivial
/-- Rows of cells that can be handed out for reading: not frozen, or frozen whole. -/
def Givable (sl : List Nat) (v : World) : Prop := ∀ b ∈ sl, ∃ c t fz, v.heap[b]? = some (.cells c t fz) ∧ (fz = (0, 0) ∨ fz = (0, c.size)) ∧ 0 < c.size

section
variable {F S : Nat → Prop} {w v : World} {sl : List Nat}
theorem givable_shown (h : Hid F S w v) (hg : Givable sl v) : ∀ b ∈ sl, ¬ F b ∧ ∃ c t fz, v.heap[b]? = some (.cells c t fz) ∧ (fz = (0, 0) ∨ fz = (0, c.size)) ∧ 0 < c.size := by
  intro b hb
  obtain ⟨c, t, fz, h1, h2, h3⟩ := hg b hb
  refine ⟨fun hf => ?_, c, t, fz, h1, h2, h3⟩
  obtain ⟨t', fz', h4⟩ := h.away b hf
  rw [h1] at h4
  cases h4
  simp at h3
/-- Whoever hands blocks out for reading sees them frozen. -/
theorem Hid.chill (h : Hid F S w v) (hg : Givable sl v) : Hid F (fun b => S b ∨ b ∈ sl) w (chill sl v) := by
  have hs := givable_shown h hg
  refine ⟨h.tape, h.drawn, h.os, by simp [Go.Proofs.YtofkhehcnfiopaaDoor.N.chill, h.size], h.fitF, fun b hb => ?_, fun b hb => ?_, fun b hb hf => ?_, fun b hf hns => ?_, fun b o ho => ?_⟩
  · rcases hb with hb | hb
    · exact h.fitS b hb
    · obtain ⟨_, c, t, fz, h1, _⟩ := hs b hb
      rw [← h.size]
      exact (Array.getElem?_eq_some_iff.1 h1).1
  · obtain ⟨t, fz, h1⟩ := h.away b hb
    have hn : b ∉ sl := fun hm => (hs b hm).1 hb
    exact ⟨t, fz, by rw [heap_chill, h1]; simp [hn]⟩
  · by_cases hS : S b
    · obtain ⟨c, t, fz, h1, h2⟩ := h.still b hS hf
      exact ⟨c, t, fz, h1, by rw [heap_chill, h2]; by_cases hm : b ∈ sl <;> simp [hm, Obj.chill]⟩
    · have hm : b ∈ sl := hb.resolve_left hS
      obtain ⟨_, c, t, fz, h1, _⟩ := hs b hm
      exact ⟨c, t, fz, by rw [← h.same b hf hS]; exact h1, by rw [heap_chill, h1]; simp [hm, Obj.chill]⟩
  · rw [heap_chill, h.same b hf (fun x => hns (.inl x))]
    cases w.heap[b]? with
    | none => rfl
    | some o => simp [show b ∉ sl from fun x => hns (.inr x)]
  · rw [heap_chill] at ho
    cases hb : v.heap[b]? with
    | none => rw [hb] at ho; cases ho
    | some o' =>
      rw [hb] at ho
      have := h.plain b o' hb
      simp only [Option.map_some, Option.some.injEq] at ho
      subst ho
      split
      · exact plain_chill this
      · exact this
/-- What a worker is shown: these blocks, frozen, and nothing else. -/
theorem Hid.only (h : Hid F S w v) (hg : Givable sl v) : Hid (fun b => b < w.heap.size ∧ b ∉ sl) (fun b => b ∈ sl) w (onlyV sl v) := by
  have hs := givable_shown h hg
  have hlt : ∀ b ∈ sl, b < w.heap.size := fun b hb => by
    obtain ⟨_, c, t, fz, h1, _⟩ := hs b hb
    rw [← h.size]
    exact (Array.getElem?_eq_some_iff.1 h1).1
  refine ⟨h.tape, h.drawn, h.os, by simp [onlyV, h.size], fun b hb => hb.1, hlt, fun b hb => ?_, fun b hb _ => ?_, fun b hf hns => ?_, fun b o ho => ?_⟩
  · refine ⟨0, (0, 0), ?_⟩
    rw [heap_onlyV, Array.getElem?_eq_getElem (by rw [h.size]; exact hb.1)]
    simp [hb.2, blank]
  · obtain ⟨hF, c, t, fz, h1, _⟩ := hs b hb
    by_cases hS : S b
    · obtain ⟨c', t', fz', h2, h3⟩ := h.still b hS hF
      exact ⟨c', t', fz', h2, by rw [heap_onlyV, h3]; simp [hb, Obj.chill]⟩
    · exact ⟨c, t, fz, by rw [← h.same b hF hS]; exact h1, by rw [heap_onlyV, h1]; simp [hb, Obj.chill]⟩
  · have hge : w.heap.size ≤ b := by
      rcases Nat.lt_or_ge b w.heap.size with hl | hl
      · exact absurd ⟨hl, hns⟩ hf
      · exact hl
    rw [heap_onlyV, Array.getElem?_eq_none (by rw [h.size]; exact hge), Array.getElem?_eq_none hge]
    rfl
  · rw [heap_onlyV] at ho
    cases hb : v.heap[b]? with
    | none => rw [hb] at ho; cases ho
    | some o' =>
      rw [hb] at ho
      simp only [Option.map_some, Option.some.injEq] at ho
      subst ho
      split
      · exact plain_chill (h.plain b o' hb)
      · trivial
/-- Once nobody else reads them they may be written again. -/
theorem Hid.thaw (h : Hid F (fun b => b ∈ sl) w v) (hr : ∀ b ∈ sl, ¬ F b ∧ ∃ c t, w.heap[b]? = some (.cells c t (0, 0))) : Hid F (fun _ => False) w (thaw sl v) := by
  refine ⟨h.tape, h.drawn, h.os, by simp [Go.Proofs.YtofkhehcnfiopaaDoor.N.thaw, h.size], h.fitF, fun b hb => hb.elim, fun b hb => ?_, fun b hb => hb.elim, fun b hf _ => ?_, fun b o ho => ?_⟩
  · obtain ⟨t, fz, h1⟩ := h.away b hb
    have hn : b ∉ sl := fun hm => (hr b hm).1 hb
    exact ⟨t, fz, by rw [heap_thaw, h1]; simp [hn]⟩
  · by_cases hm : b ∈ sl
    · obtain ⟨c, t, fz, h1, h2⟩ := h.still b hm hf
      obtain ⟨_, c', t', h3⟩ := hr b hm
      rw [h3] at h1
      cases h1
      rw [heap_thaw, h2, h3]
      simp [hm, Obj.thaw]
    · rw [heap_thaw, h.same b hf hm]
      cases w.heap[b]? with
      | none => rfl
      | some o => simp [hm]
  · rw [heap_thaw] at ho
    cases hb : v.heap[b]? with
    | none => rw [hb] at ho; cases ho
    | some o' =>
      rw [hb] at ho
      simp only [Option.map_some, Option.some.injEq] at ho
      subst ho
      split
      · exact plain_thaw (h.plain b o' hb)
      · exact h.plain b o' hb
theorem Hid.saying (h : Hid F S w v) (o : Array (Nat × ByteArray)) : Hid F S w (Go.Proofs.YtofkhehcnfiopaaDoor.N.saying v o) := ⟨h.tape, h.drawn, h.os, h.size, h.fitF, h.fitS, h.away, h.still, h.same, h.plain⟩
end
end Go.Proofs.YtofkhehcnfiopaaDoor.N
namespace Go.Proofs.YtofkhehcnfiopaaDoor.N
open Go Go.RowKit Go.Conc
set_option autoImplicit false
set_option linter.unusedSectionVars false

/-- What is said on a channel: bytes, as values; one of them is a worker's last word. -/
structure Prot where
  msg : UInt8 → Value
  z : Value
  zr : Value
  done : UInt8
  low : Nat
/-- A block out of sight. -/
def hideB (c : Nat) (v : World) : World := { v with heap := v.heap.mapIdx fun b o => if b = c then blank else o }
theorem heap_hideB (c : Nat) (v : World) (b : Nat) : (hideB c v).heap[b]? = (v.heap[b]?).map fun o => if b = c then blank else o := by simp [hideB]
theorem Hid.hideB {F S : Nat → Prop} {w v : World} (h : Hid F S w v) {c : Nat} (hc : c < w.heap.size) (hS : ¬ S c) : Hid (fun b => F b ∨ b = c) S w (hideB c v) := by
  refine ⟨h.tape, h.drawn, h.os, by simp [Go.Proofs.YtofkhehcnfiopaaDoor.N.hideB, h.size], fun b hb => ?_, h.fitS, fun b hb => ?_, fun b hb hf => ?_, fun b hf hns => ?_, fun b o ho => ?_⟩
  · rcases hb with hb | rfl
    · exact h.fitF b hb
    · exact hc
  · rw [heap_hideB]
    by_cases e : b = c
    · subst e
      rw [Array.getElem?_eq_getElem (by rw [h.size]; exact hc)]
      exact ⟨0, (0, 0), by simp [blank]⟩
    · obtain ⟨t, fz, h1⟩ := h.away b (hb.resolve_right e)
      exact ⟨t, fz, by rw [h1]; simp [e]⟩
  · obtain ⟨c', t, fz, h1, h2⟩ := h.still b hb (fun x => hf (.inl x))
    exact ⟨c', t, fz, h1, by rw [heap_hideB, h2]; simp [show b ≠ c from fun e => hf (.inr e)]⟩
  · rw [heap_hideB, h.same b (fun x => hf (.inl x)) hns]
    cases w.heap[b]? with
    | none => rfl
    | some o => simp [show b ≠ c from fun e => hf (.inr e)]
  · rw [heap_hideB] at ho
    cases hb : v.heap[b]? with
    | none => rw [hb] at ho; cases ho
    | some o' =>
      rw [hb] at ho
      simp only [Option.map_some, Option.some.injEq] at ho
      subst ho
      split
      · trivial
      · exact h.plain b o' hb

/-- A worker on channel c: it may send what is next of what it has to say; behind its last word it only leaves. -/
abbrev wSys (P : Program) (K : Prot) (c : Nat) : Sys where
  main := false
  sy g v Nx := g.status = .running ∧ ∃ x l, v.output = #[enc1 (x :: l)] ∧
    (∀ F S w, Hid F S w v → ∃ es, stepG P false g w = .comm g #[scase c (K.msg x) K.z] true .send w es ∧ ∀ e ∈ es, EvOk F S w.heap.size e) ∧
    (x = K.done → ∃ n, QuitsD P n 0 (Go.Conc.served g undef)) ∧ Nx (Go.Conc.served g undef) (saying v #[enc1 l])
/-- It has said all, and only leaves. -/
def WStop (_P : Program) (_g : Goroutine) (v : World) : Prop := v.output = #[enc1 []]
def Works (P : Program) (K : Prot) (c : Nat) (g : Goroutine) (v : World) : Prop := @Gs P (wSys P K c) (WStop P) g v
/-- The last word comes last. -/
def Said (K : Prot) (l : List UInt8) : Prop := ∃ m, l = m ++ [K.done] ∧ K.done ∉ m
/-- Worker number i has said x. -/
def Gst.after (K : Prot) (s : Gst) (i : Nat) (x : UInt8) (l : List UInt8) : Gst := { s with pend := if x = K.done then s.pend.eraseIdx i else s.pend.set i l }
/-- The receiver: it hears one of the workers; starts a worker; or, once none is left, takes back what it had handed out. -/
abbrev mSys (P : Program) (K : Prot) : Sys where
  main := true
  sy g v Nx :=
    (g.status = .running ∧ ∃ s : Gst, v.output = s.enc ∧ s.pend ≠ [] ∧
      (∀ F S w, Hid F S w v → ∃ es, stepG P true g w = .comm g #[rcase s.c K.zr] true (.recv false) w es ∧ ∀ e ∈ es, EvOk F S w.heap.size e) ∧
      ∀ i x l, s.pend[i]? = some (x :: l) → Nx (Go.Conc.served g (K.msg x)) (saying v (s.after K i x l).enc)) ∨
    (g.status = .running ∧ ∃ (s : Gst) (c : Nat) (l : List UInt8) (sl : List Nat) (g' ch : Goroutine), v.output = s.enc ∧ ((s.pend = [] ∧ s.sl = [] ∧ v.heap[c]? = some (.chan 0 #[] false 0 0 false)) ∨ (s.pend ≠ [] ∧ s.c = c)) ∧
      K.low ≤ c ∧ c ∉ sl ∧ Givable sl v ∧ (∀ b ∈ sl, b ∈ s.sl ∨ ∃ cs t, v.heap[b]? = some (.cells cs t (0, 0))) ∧ Said K l ∧ g'.status = .running ∧
      (∀ F S w, Hid F S w v → ∃ es, stepG P true g w = .spawn g' ch w es ∧ ∀ e ∈ es, EvOk F S w.heap.size e) ∧
      Works P K c ch (saying (onlyV sl v) #[enc1 l]) ∧
      Nx g' (saying (hideB c (chill sl v)) (Gst.enc ⟨c, s.sl ++ sl, s.pend ++ [l]⟩))) ∨
    (g.status = .running ∧ ∃ s : Gst, v.output = s.enc ∧ s.pend = [] ∧ Nx g (saying (thaw s.sl v) (Gst.enc ⟨0, [], []⟩)))
end Go.Proofs.YtofkhehcnfiopaaDoor.N
namespace Go.Proofs.YtofkhehcnfiopaaDoor.N
open Go Go.RowKit Go.Conc
set_option autoImplicit false
set_option linter.unusedSectionVars false

/-! How far a goroutine has still to go: a tree of all that may come. -/
inductive Tr : Type
  | leaf
  | node (f : World × Goroutine × World → Tr)
def Tr.Lt (s : Tr) : Tr → Prop
  | .leaf => False
  | .node f => ∃ i, s = f i
theorem Tr.acc : ∀ t : Tr, Acc Tr.Lt t
  | .leaf => ⟨_, fun _ h => h.elim⟩
  | .node f => ⟨_, fun s h => by obtain ⟨i, rfl⟩ := h; exact Tr.acc (f i)⟩
/-- The same as Gs, the tree in sight. -/
inductive GsT (P : Program) (I : Sys) (Stop : Goroutine → World → Prop) : Tr → Goroutine → World → Prop
  | stop {t : Tr} {g : Goroutine} {v : World} (h : ∀ v₁, Rl v v₁ → Stop g v₁) : GsT P I Stop t g v
  | step {f : World × Goroutine × World → Tr} {g : Goroutine} {v : World} (hr : g.status = .running) (nx : World → Goroutine × World × Array Event)
      (h : ∀ v₁, Rl v v₁ → Stp P I.main g v₁ (nx v₁).1 (nx v₁).2.1 (nx v₁).2.2) (k : ∀ v₁, Rl v v₁ → GsT P I Stop (f (v₁, (nx v₁).1, (nx v₁).2.1)) (nx v₁).1 (nx v₁).2.1) : GsT P I Stop (.node f) g v
  | sync {f : World × Goroutine × World → Tr} {g : Goroutine} {v : World} (nx : World → Goroutine → World → Prop)
      (h : ∀ v₁, Rl v v₁ → I.sy g v₁ (nx v₁)) (k : ∀ v₁, Rl v v₁ → ∀ g' v', nx v₁ g' v' → GsT P I Stop (f (v₁, g', v')) g' v') : GsT P I Stop (.node f) g v
section
variable {P : Program} {I : Sys} {Stop : Goroutine → World → Prop} {g : Goroutine} {v v' : World}
theorem gs_tree (h : @Gs P I Stop g v) : ∃ t, GsT P I Stop t g v := by
  classical
  induction h with
  | stop h => exact ⟨.leaf, .stop h⟩
  | step hr nx h _ ih =>
    refine ⟨.node fun i => if hv : Rl _ i.1 then (ih i.1 hv).choose else .leaf, .step hr nx h fun v₁ h1 => ?_⟩
    have := (ih v₁ h1).choose_spec
    simpa [h1] using this
  | sync nx h _ ih =>
    refine ⟨.node fun i => if hv : Rl _ i.1 ∧ nx i.1 i.2.1 i.2.2 then (ih i.1 hv.1 i.2.1 i.2.2 hv.2).choose else .leaf, .sync nx h fun v₁ h1 g' v' hn => ?_⟩
    have := (ih v₁ h1 g' v' hn).choose_spec
    simpa [h1, hn] using this
theorem GsT.rely {t : Tr} (h : GsT P I Stop t g v) (hr : Rl v v') : GsT P I Stop t g v' := by
  cases h with
  | stop h => exact .stop fun v₁ h1 => h v₁ (hr.trans h1)
  | step hs nx h k => exact .step hs nx (fun v₁ h1 => h v₁ (hr.trans h1)) (fun v₁ h1 => k v₁ (hr.trans h1))
  | sync nx h k => exact .sync nx (fun v₁ h1 => h v₁ (hr.trans h1)) (fun v₁ h1 => k v₁ (hr.trans h1))
end

/-! The measure of one: its tree, and whether it is parked; or how many steps it has to leave. -/
inductive Mt : Type
  | live (t : Tr) (running : Bool)
  | quits (n : Nat)
inductive Mt.Lt : Mt → Mt → Prop
  | tree {s t : Tr} {a b : Bool} (h : Tr.Lt s t) : Mt.Lt (.live s a) (.live t b)
  | park {t : Tr} : Mt.Lt (.live t false) (.live t true)
  | said {t : Tr} {a : Bool} {n : Nat} : Mt.Lt (.quits n) (.live t a)
  | quits {m n : Nat} (h : m < n) : Mt.Lt (.quits m) (.quits n)
theorem Mt.acc_quits (n : Nat) : Acc Mt.Lt (.quits n) := by
  induction n using Nat.strongRecOn with
  | _ n ih => exact ⟨_, fun y h => by cases h with | quits h => exact ih _ h⟩
theorem Mt.acc : ∀ m : Mt, Acc Mt.Lt m
  | .quits n => Mt.acc_quits n
  | .live t b => by
    have key : ∀ t, (∀ s, Tr.Lt s t → ∀ b, Acc Mt.Lt (.live s b)) → ∀ b, Acc Mt.Lt (.live t b) := by
      intro t ih
      have h0 : Acc Mt.Lt (.live t false) := ⟨_, fun y h => by
        cases h with
        | tree h => exact ih _ h _
        | said => exact Mt.acc_quits _⟩
      intro b
      cases b with
      | false => exact h0
      | true => exact ⟨_, fun y h => by
          cases h with
          | tree h => exact ih _ h _
          | park => exact h0
          | said => exact Mt.acc_quits _⟩
    have all : ∀ b, Acc Mt.Lt (.live t b) := by
      induction Tr.acc t with
      | intro t _ ih => exact key t ih
    exact all b
/-- One of several goes on. -/
inductive Ls : List Mt → List Mt → Prop
  | head {a b : Mt} (l : List Mt) (h : Mt.Lt a b) : Ls (a :: l) (b :: l)
  | tail (a : Mt) {l m : List Mt} (h : Ls l m) : Ls (a :: l) (a :: m)
theorem Ls.acc_cons {a : Mt} (h1 : Acc Mt.Lt a) : ∀ {l : List Mt}, Acc Ls l → Acc Ls (a :: l) := by
  induction h1 with
  | intro a _ iha =>
    intro l h2
    induction h2 with
    | intro l hl ihl =>
      refine ⟨_, fun y h => ?_⟩
      cases h with
      | head _ h => exact iha _ h ⟨l, hl⟩
      | tail _ h => exact ihl _ h
theorem Ls.acc : ∀ l : List Mt, Acc Ls l
  | [] => ⟨_, fun _ h => by cases h⟩
  | a :: l => Ls.acc_cons (Mt.acc a) (Ls.acc l)
theorem Ls.set : ∀ {l : List Mt} {i : Nat} {a b : Mt}, l[i]? = some b → Mt.Lt a b → Ls (l.set i a) l
  | [], _, _, _, h, _ => by simp at h
  | c :: l, 0, a, b, h, hl => by
    simp at h
    subst h
    exact .head l hl
  | c :: l, i + 1, a, b, h, hl => .tail c (Ls.set (by simpa using h) hl)
end Go.Proofs.YtofkhehcnfiopaaDoor.N
namespace Go.Proofs.YtofkhehcnfiopaaDoor.N
open Go Go.RowKit Go.Conc
set_option autoImplicit false
set_option linter.unusedSectionVars false

/-! The trace: what each of the living may write and read, and knows. -/
def blkOf : Loc → Option Nat
  | .cell a => some a.block
  | .obj r => some r
  | _ => none
structure Pt (Liv : Nat → Prop) (F S : Nat → Nat → Prop) (B : Nat) (t : Trace) : Prop where
  clean : ∀ said, ¬ Race said t
  perm : ∀ g, Liv g → ∀ i a b, touchAt t i = some a → blkOf a.loc = some b → ¬ F g b → ¬ S g b → Knows t g i
  wrote : ∀ g, Liv g → ∀ i a b, touchAt t i = some a → a.write = true → blkOf a.loc = some b → ¬ F g b → Knows t g i
  known : ∀ i a, touchAt t i = some a → a.loc.isMemory = true → Knows t 0 i ∨ ∃ g, t.g? i = some g ∧ Liv g
  hears : ∀ g, Liv g → Deaf t g = 0
  seen : ∀ op ∈ t, op.act.low B
/-- What one may write is hidden from every other. -/
def Apt (Liv : Nat → Prop) (F S : Nat → Nat → Prop) (B : Nat) : Prop := ∀ g g', Liv g → Liv g' → g ≠ g' → ∀ b, b < B → ¬ F g b → ¬ S g b → F g' b
theorem low_touch {B : Nat} {op : MemOp} {a : Touch} {b : Nat} (hl : op.act.low B) (hxa : op.act.touch? = some a) (hb : blkOf a.loc = some b) : b < B := by
  obtain ⟨_, _, _, act⟩ := op
  cases act with
  | access e =>
    simp only [MemAct.touch?, Option.some.injEq] at hxa
    subst hxa
    obtain ⟨loc, _, _⟩ := e
    cases loc <;> first | (cases hb; exact hl) | cases hb
  | mark m =>
    cases m with
    | read a' => simp only [MemAct.touch?, Option.some.injEq] at hxa; subst hxa; cases hb; exact hl
    | write a' => simp only [MemAct.touch?, Option.some.injEq] at hxa; subst hxa; cases hb; exact hl
    | _ => cases hxa
  | _ => cases hxa
section
variable {Liv : Nat → Prop} {F S F' S' : Nat → Nat → Prop} {B B' : Nat} {t u : Trace}
theorem blkOf_memory {l : Loc} {b : Nat} (h : blkOf l = some b) : l.isMemory = true := by cases l <;> first | rfl | cases h
theorem Pt.mono (h : Pt Liv F S B t) (hF : ∀ g b, Liv g → F g b → F' g b) (hS : ∀ g b, Liv g → ¬ F' g b → S g b → S' g b) (hB : B ≤ B') : Pt Liv F' S' B' t :=
  ⟨h.clean, fun g hg i a b h1 h2 h3 h4 => h.perm g hg i a b h1 h2 (fun x => h3 (hF g b hg x)) (fun x => h4 (hS g b hg h3 x)), fun g hg i a b h1 h2 h3 h4 => h.wrote g hg i a b h1 h2 h3 (fun x => h4 (hF g b hg x)), h.known, h.hears, fun op hop => MemAct.low_mono hB (h.seen op hop)⟩
/-- What is touched: read where it is not hidden, written where it is neither hidden nor shared. -/
def TchOk (F S : Nat → Prop) (a : Touch) : Prop := ∀ b, blkOf a.loc = some b → ¬ F b ∧ (a.write = true → ¬ S b)
/-- One of the living takes steps of its own. -/
theorem Pt.own {g : Nat} (h : Pt Liv F S B t) (ha : Apt Liv F S B) (hg : Liv g) (hu : ∀ op ∈ u, op.g = g) (ht : ∀ op ∈ u, ∀ a, op.act.touch? = some a → TchOk (F g) (S g) a ∧ (a.loc.isMemory = true → ∃ b, blkOf a.loc = some b)) (hd : Deaf (t ++ u) g = Deaf t g) (hl : ∀ op ∈ u, op.act.low B) : Pt Liv F S B (t ++ u) := by
  refine ⟨fun said => noRace_append (h.clean said) hu fun i a hi op hop b hb hc => ?_, fun g' hg' i a b hi hb hF hS => ?_, fun g' hg' i a b hi hw hb hF => ?_, fun i a hi hm => ?_, fun g' hg' => ?_, seen_app h.seen hl⟩
  · obtain ⟨h1, h2⟩ := ht op hop b hb
    obtain ⟨hloc, hmem, hwr, _⟩ := hc
    obtain ⟨bk, hbk⟩ := h2 (hloc ▸ hmem)
    obtain ⟨hF, hS⟩ := h1 bk hbk
    rcases hwr with x | x
    · exact h.wrote g hg i a bk hi x (by rw [hloc]; exact hbk) hF
    · exact h.perm g hg i a bk hi (by rw [hloc]; exact hbk) hF (hS x)
  · obtain ⟨x, hx, hxa⟩ := touch_of hi
    rcases getElem?_append_cases hx with ⟨_, hx'⟩ | ⟨_, hxu⟩
    · exact (h.perm g' hg' i a b (by rw [touchAt_of hx']; exact hxa) hb hF hS).app u
    · by_cases e : g' = g
      · subst e
        have := knows_own hx
        rwa [hu x hxu] at this
      · exact absurd (ha g' g hg' hg e b (low_touch (hl x hxu) hxa hb) hF hS) ((ht x hxu a hxa).1 b hb).1
  · obtain ⟨x, hx, hxa⟩ := touch_of hi
    rcases getElem?_append_cases hx with ⟨_, hx'⟩ | ⟨_, hxu⟩
    · exact (h.wrote g' hg' i a b (by rw [touchAt_of hx']; exact hxa) hw hb hF).app u
    · by_cases e : g' = g
      · subst e
        have := knows_own hx
        rwa [hu x hxu] at this
      · obtain ⟨h1, h2⟩ := (ht x hxu a hxa).1 b hb
        exact absurd (ha g g' hg hg' (Ne.symm e) b (low_touch (hl x hxu) hxa hb) h1 (h2 hw)) hF
  · obtain ⟨x, hx, hxa⟩ := touch_of hi
    rcases getElem?_append_cases hx with ⟨hlt, hx'⟩ | ⟨_, hxu⟩
    · exact (h.known i a (by rw [touchAt_of hx']; exact hxa) hm).imp (·.app u) fun ⟨g', h1, h2⟩ => ⟨g', by rw [g?_old hlt]; exact h1, h2⟩
    · exact .inr ⟨g, by rw [g?_of hx, hu x hxu], hg⟩
  · by_cases e : g' = g
    · subst e; exact hd.trans (h.hears g' hg')
    · exact (Deaf_other t (fun x => e x.symm) u hu).trans (h.hears g' hg')
/-- Somebody who is not among the living says something mute. -/
theorem Pt.mute {g : Nat} (h : Pt Liv F S B t) (hg : ¬ Liv g) (hu : ∀ op ∈ u, op.g = g) (hn : ∀ op ∈ u, op.act.touch? = none) (hl : ∀ op ∈ u, op.act.low B) : Pt Liv F S B (t ++ u) := by
  refine ⟨fun said => noRace_appendMute (h.clean said) hn, fun g' hg' i a b hi hb hF hS => ?_, fun g' hg' i a b hi hw hb hF => ?_, fun i a hi hm => ?_, fun g' hg' => ?_, seen_app h.seen hl⟩
  · obtain ⟨x, hx, hxa⟩ := touch_of hi
    rcases getElem?_append_cases hx with ⟨_, hx'⟩ | ⟨_, hxu⟩
    · exact (h.perm g' hg' i a b (by rw [touchAt_of hx']; exact hxa) hb hF hS).app u
    · rw [hn x hxu] at hxa; cases hxa
  · obtain ⟨x, hx, hxa⟩ := touch_of hi
    rcases getElem?_append_cases hx with ⟨_, hx'⟩ | ⟨_, hxu⟩
    · exact (h.wrote g' hg' i a b (by rw [touchAt_of hx']; exact hxa) hw hb hF).app u
    · rw [hn x hxu] at hxa; cases hxa
  · obtain ⟨x, hx, hxa⟩ := touch_of hi
    rcases getElem?_append_cases hx with ⟨hlt, hx'⟩ | ⟨_, hxu⟩
    · exact (h.known i a (by rw [touchAt_of hx']; exact hxa) hm).imp (·.app u) fun ⟨g', h1, h2⟩ => ⟨g', by rw [g?_old hlt]; exact h1, h2⟩
    · rw [hn x hxu] at hxa; cases hxa
  · have hne : g ≠ g' := fun x => hg (by rw [x]; exact hg')
    exact (Deaf_other t hne u hu).trans (h.hears g' hg')
/-- A word of j's is heard by goroutine 0: it knows all that j knew; j may be among the living still, or not. -/
theorem Pt.met {j : Nat} {Liv' : Nat → Prop} (h : Pt Liv F S B t) (h0 : Liv 0) (hj : Liv j) (hL : ∀ g, Liv' g → Liv g) (hL' : ∀ g, Liv g → g ≠ j → Liv' g) (fh : FuncId) (ph : String) (fj : FuncId) (pj : String) {c : Nat} (k cap : Nat) (hc : c < B) :
    Pt Liv' F S B (t ++ Go.Conc.met j 0 fh ph fj pj c k cap) := by
  have hn := met_mute j 0 fh ph fj pj c k cap
  have hq := met_quiet j 0 fh ph fj pj c k cap
  have e0 : (t ++ Go.Conc.met j 0 fh ph fj pj c k cap)[t.size]? = some { g := j, fn := fh, pos := ph, act := .send c k } := by simp [Go.Conc.met]
  have e3 : (t ++ Go.Conc.met j 0 fh ph fj pj c k cap)[t.size + 3]? = some { g := 0, fn := fj, pos := pj, act := .recvDone c k } := by simp [Go.Conc.met]
  have edge : HappensBefore (t ++ Go.Conc.met j 0 fh ph fj pj c k cap) t.size (t.size + 3) :=
    Relation.TransGen.single (.inr ⟨.handOver (act?_of e0) (act?_of e3), ⟨j, g?_of e0, by rw [deaf_old (Nat.le_refl _)]; exact h.hears j hj⟩, ⟨0, g?_of e3, by rw [deaf_quiet (hq 0) 3 (by simp [Go.Conc.met])]; exact h.hears 0 h0⟩⟩)
  have pass : ∀ i, Knows t j i → Knows (t ++ Go.Conc.met j 0 fh ph fj pj c k cap) 0 i := fun i hk => ⟨t.size + 3, _, e3, rfl, .inr ((hk.hb_new (Nat.le_refl _) e0 rfl).trans edge)⟩
  refine ⟨fun said => noRace_appendMute (h.clean said) hn, fun g' hg' i a b hi hb hF hS => ?_, fun g' hg' i a b hi hw hb hF => ?_, fun i a hi hm => ?_, fun g' hg' => (Deaf_quiet (hq g')).trans (h.hears g' (hL g' hg')), seen_app h.seen fun op hop => ?_⟩
  · obtain ⟨x, hx, hxa⟩ := touch_of hi
    rcases getElem?_append_cases hx with ⟨_, hx'⟩ | ⟨_, hxu⟩
    · exact (h.perm g' (hL g' hg') i a b (by rw [touchAt_of hx']; exact hxa) hb hF hS).app _
    · rw [hn x hxu] at hxa; cases hxa
  · obtain ⟨x, hx, hxa⟩ := touch_of hi
    rcases getElem?_append_cases hx with ⟨_, hx'⟩ | ⟨_, hxu⟩
    · exact (h.wrote g' (hL g' hg') i a b (by rw [touchAt_of hx']; exact hxa) hw hb hF).app _
    · rw [hn x hxu] at hxa; cases hxa
  · obtain ⟨x, hx, hxa⟩ := touch_of hi
    rcases getElem?_append_cases hx with ⟨hlt, hx'⟩ | ⟨_, hxu⟩
    · rcases h.known i a (by rw [touchAt_of hx']; exact hxa) hm with h1 | ⟨g', h1, h2⟩
      · exact .inl (h1.app _)
      · by_cases e : g' = j
        · subst e
          have := knows_own hx'
          rw [show x.g = g' from by have := g?_of hx'; rw [h1] at this; exact (Option.some.inj this).symm] at this
          exact .inl (pass i this)
        · exact .inr ⟨g', by rw [g?_old hlt]; exact h1, hL' g' h2 e⟩
    · rw [hn x hxu] at hxa; cases hxa
  · simp only [Go.Conc.met, List.mem_toArray, List.mem_cons, List.not_mem_nil, or_false] at hop
    rcases hop with rfl | rfl | rfl | rfl <;> exact hc
/-- Goroutine 0 starts one more, which may write nothing yet. -/
theorem Pt.hire {c : Nat} {Fc Sc : Nat → Prop} (h : Pt Liv F S B t) (h0 : Liv 0) (hc : ¬ Liv c) (hc0 : Deaf t c = 0) (hsee : ∀ b, b < B → ¬ Fc b → Sc b ∧ ¬ F 0 b) (fh : FuncId) (ph : String) (fc : FuncId) :
    Pt (fun g => Liv g ∨ g = c) (fun g b => if g = c then Fc b else F g b) (fun g b => if g = c then Sc b else S g b) B (t ++ #[{ g := 0, fn := fh, pos := ph, act := .go c }, { g := c, fn := fc, pos := ph, act := .start }]) := by
  generalize hu : (#[{ g := 0, fn := fh, pos := ph, act := .go c }, { g := c, fn := fc, pos := ph, act := .start }] : Trace) = u
  have hn : ∀ op ∈ u, op.act.touch? = none := by
    intro op hop
    subst hu
    simp only [List.mem_toArray, List.mem_cons, List.not_mem_nil, or_false] at hop
    rcases hop with rfl | rfl <;> rfl
  have hq : ∀ g, ∀ op ∈ u, ∀ d, deafStep g d op = d := by
    intro g op hop d
    subst hu
    simp only [List.mem_toArray, List.mem_cons, List.not_mem_nil, or_false] at hop
    rcases hop with rfl | rfl <;> rfl
  have e0 : (t ++ u)[t.size]? = some { g := 0, fn := fh, pos := ph, act := .go c } := by subst hu; simp
  have e1 : (t ++ u)[t.size + 1]? = some { g := c, fn := fc, pos := ph, act := .start } := by subst hu; simp
  have edge : HappensBefore (t ++ u) t.size (t.size + 1) :=
    Relation.TransGen.single (.inr ⟨.spawn (act?_of e0) (act?_of e1) (g?_of e1), ⟨0, g?_of e0, by rw [deaf_old (Nat.le_refl _)]; exact h.hears 0 h0⟩, ⟨c, g?_of e1, by rw [deaf_quiet (hq c) 1 (by subst hu; simp)]; exact hc0⟩⟩)
  have low : ∀ i a b, touchAt t i = some a → blkOf a.loc = some b → b < B := fun i a b hi hb => by
    obtain ⟨x, hx, hxa⟩ := touch_of hi
    have hl := h.seen x (Array.mem_of_getElem? hx)
    obtain ⟨_, _, _, act⟩ := x
    cases act with
    | access e =>
      simp only [MemAct.touch?, Option.some.injEq] at hxa
      subst hxa
      obtain ⟨loc, _, _⟩ := e
      cases loc <;> first | (cases hb; exact hl) | cases hb
    | mark m =>
      cases m with
      | read a' => simp only [MemAct.touch?, Option.some.injEq] at hxa; subst hxa; cases hb; exact hl
      | write a' => simp only [MemAct.touch?, Option.some.injEq] at hxa; subst hxa; cases hb; exact hl
      | _ => cases hxa
    | _ => cases hxa
  refine ⟨fun said => noRace_appendMute (h.clean said) hn, fun g' hg' i a b hi hb hF hS => ?_, fun g' hg' i a b hi hw hb hF => ?_, fun i a hi hm => ?_, fun g' hg' => (Deaf_quiet (hq g')).trans (hg'.elim (h.hears g') fun e => e ▸ hc0), seen_app h.seen fun op hop => ?_⟩
  · obtain ⟨x, hx, hxa⟩ := touch_of hi
    rcases getElem?_append_cases hx with ⟨_, hx'⟩ | ⟨_, hxu⟩
    · have hi' : touchAt t i = some a := by rw [touchAt_of hx']; exact hxa
      by_cases e : g' = c
      · subst e
        simp only [if_true] at hF hS
        exact absurd (hsee b (low i a b hi' hb) hF).1 hS
      · simp only [e, if_false] at hF hS
        exact (h.perm g' (hg'.resolve_right e) i a b hi' hb hF hS).app u
    · rw [hn x hxu] at hxa; cases hxa
  · obtain ⟨x, hx, hxa⟩ := touch_of hi
    rcases getElem?_append_cases hx with ⟨_, hx'⟩ | ⟨_, hxu⟩
    · have hi' : touchAt t i = some a := by rw [touchAt_of hx']; exact hxa
      by_cases e : g' = c
      · subst e
        simp only [if_true] at hF
        have hold := h.wrote 0 h0 i a b hi' hw hb (hsee b (low i a b hi' hb) hF).2
        exact ⟨t.size + 1, _, e1, rfl, .inr ((hold.hb_new (Nat.le_refl _) e0 rfl).trans edge)⟩
      · simp only [e, if_false] at hF
        exact (h.wrote g' (hg'.resolve_right e) i a b hi' hw hb hF).app u
    · rw [hn x hxu] at hxa; cases hxa
  · obtain ⟨x, hx, hxa⟩ := touch_of hi
    rcases getElem?_append_cases hx with ⟨hlt, hx'⟩ | ⟨_, hxu⟩
    · exact (h.known i a (by rw [touchAt_of hx']; exact hxa) hm).imp (·.app u) fun ⟨g', h1, h2⟩ => ⟨g', by rw [g?_old hlt]; exact h1, .inl h2⟩
    · rw [hn x hxu] at hxa; cases hxa
  · subst hu
    simp only [List.mem_toArray, List.mem_cons, List.not_mem_nil, or_false] at hop
    rcases hop with rfl | rfl <;> trivial
/-- Nobody but goroutine 0 lives: it knows every touch, and may write what it had handed out. -/
theorem Pt.settle (h : Pt Liv F S B t) (hL : ∀ g, Liv g → g = 0) : Pt Liv F (fun _ _ => False) B t := by
  refine ⟨h.clean, fun g hg i a b hi hb _ _ => ?_, h.wrote, h.known, h.hears, h.seen⟩
  rw [hL g hg]
  rcases h.known i a hi (blkOf_memory hb) with h1 | ⟨g', h1, h2⟩
  · exact h1
  · obtain ⟨x, hx, _⟩ := touch_of hi
    have := knows_own hx
    rw [show x.g = 0 from by have := g?_of hx; rw [h1, hL g' h2] at this; exact (Option.some.inj this).symm] at this
    exact this
end
end Go.Proofs.YtofkhehcnfiopaaDoor.N
namespace Go.Proofs.YtofkhehcnfiopaaDoor.N
open Go Go.RowKit Go.Conc
set_option autoImplicit false
set_option linter.unusedSectionVars false

/-! What one sees when others have gone on. -/
def grown (v w₁ : World) : World := { v with heap := v.heap ++ Array.replicate (w₁.heap.size - v.heap.size) blank, drawn := w₁.drawn }
theorem heap_grown_old {v w₁ : World} {b : Nat} (h : b < v.heap.size) : (grown v w₁).heap[b]? = v.heap[b]? := by simp [grown, Array.getElem?_append, h]
theorem heap_grown_new {v w₁ : World} {b : Nat} (h : v.heap.size ≤ b) (h1 : b < w₁.heap.size) : (grown v w₁).heap[b]? = some blank := by
  have e : ¬ b < v.heap.size := by omega
  simp only [grown, Array.getElem?_append, e, if_false]
  rw [Array.getElem?_replicate]
  rw [if_pos (by omega)]
theorem Rl.grown {v w₁ : World} : Rl v (grown v w₁) := ⟨rfl, rfl, rfl, by simp [Go.Proofs.YtofkhehcnfiopaaDoor.N.grown], fun _ hk => heap_grown_old hk⟩
/-- What is new is nobody's but theirs. -/
def more (F : Nat → Prop) (w w₁ : World) (b : Nat) : Prop := F b ∨ (w.heap.size ≤ b ∧ b < w₁.heap.size)
theorem Hid.others {F S : Nat → Prop} {w w₁ v : World} (h : Hid F S w v) (hos : w₁.os = w.os) (ht : w₁.tape = w.tape) (hs : w.heap.size ≤ w₁.heap.size) (hb : ∀ b, b < w.heap.size → ¬ F b → w₁.heap[b]? = w.heap[b]?) :
    Hid (more F w w₁) S w₁ (grown v w₁) := by
  refine ⟨h.tape.trans ht.symm, rfl, h.os.trans hos.symm, ?_, fun b hb => ?_, fun b hb => Nat.lt_of_lt_of_le (h.fitS b hb) hs, fun b hF => ?_, fun b hS hF => ?_, fun b hF hS => ?_, fun b o ho => ?_⟩
  · simp [grown, h.size]; omega
  · exact hb.elim (fun x => Nat.lt_of_lt_of_le (h.fitF b x) hs) (·.2)
  · rcases hF with hF | hF
    · rw [heap_grown_old (by rw [h.size]; exact h.fitF b hF)]
      exact h.away b hF
    · exact ⟨0, (0, 0), by rw [heap_grown_new (by rw [h.size]; exact hF.1) hF.2]; rfl⟩
  · have hlt := h.fitS b hS
    obtain ⟨c, t, fz, h1, h2⟩ := h.still b hS (fun x => hF (.inl x))
    exact ⟨c, t, fz, by rw [hb b hlt (fun x => hF (.inl x))]; exact h1, by rw [heap_grown_old (by rw [h.size]; exact hlt)]; exact h2⟩
  · rcases Nat.lt_or_ge b w.heap.size with hlt | hge
    · rw [heap_grown_old (by rw [h.size]; exact hlt), h.same b (fun x => hF (.inl x)) hS, hb b hlt (fun x => hF (.inl x))]
    · have h1 : w₁.heap.size ≤ b := by
        rcases Nat.lt_or_ge b w₁.heap.size with x | x
        · exact absurd (.inr ⟨hge, x⟩) hF
        · exact x
      rw [Array.getElem?_eq_none h1, Array.getElem?_eq_none]
      simp [grown, h.size]
      omega
  · rcases Nat.lt_or_ge b v.heap.size with hlt | hge
    · rw [heap_grown_old hlt] at ho
      exact h.plain b o ho
    · rcases Nat.lt_or_ge b w₁.heap.size with x | x
      · rw [heap_grown_new hge x] at ho
        cases ho
        trivial
      · rw [Array.getElem?_eq_none (by simp [grown]; omega)] at ho
        cases ho
/-- Somebody else has gone a step of his own. -/
theorem Hid.beside {F S Fi Si : Nat → Prop} {w w₁ v : World} (h : Hid F S w v) (hk : Kept Fi Si w w₁) (ha : ∀ b, b < w.heap.size → ¬ Fi b → ¬ Si b → F b) : Hid (more F w w₁) S w₁ (grown v w₁) :=
  h.others hk.os hk.tape hk.size fun b hb hF => hk.block b hb (by
    by_cases h1 : Fi b
    · exact .inl h1
    · by_cases h2 : Si b
      · exact .inr h2
      · exact absurd (ha b hb h1 h2) hF)
/-- Draws alone. -/
theorem Hid.drew {F S : Nat → Prop} {w v : World} (h : Hid F S w v) (d : Nat) : Hid F S (w.at d) (v.at d) :=
  ⟨h.tape, rfl, h.os, h.size, h.fitF, h.fitS, h.away, h.still, h.same, h.plain⟩
theorem Rl.drew (v : World) (d : Nat) : Rl v (v.at d) := ⟨rfl, rfl, rfl, Nat.le_refl _, fun _ _ => rfl⟩
/-- The channel has gone on, out of sight. -/
theorem Hid.chan {F S : Nat → Prop} {w v : World} (h : Hid F S w v) {c : Nat} (hc : F c) (cap : Nat) (buf : Array Value) (cl : Bool) (s r : Nat) (tm : Bool) : Hid F S (w.setChan c cap buf cl s r tm) v := by
  have hb : ∀ b, ¬ F b → (w.setChan c cap buf cl s r tm).heap[b]? = w.heap[b]? := fun b hF => by
    have e : c ≠ b := fun e => by subst e; exact hF hc
    show (w.heap.setIfInBounds c (Obj.chan cap buf cl s r tm))[b]? = _
    rw [Array.getElem?_setIfInBounds_ne e]
  refine ⟨h.tape, h.drawn, h.os, by simp [World.setChan, h.size], fun b hb => by simpa [World.setChan] using h.fitF b hb, fun b hb => by simpa [World.setChan] using h.fitS b hb, h.away, fun b hS hF => ?_, fun b hF hS => ?_, h.plain⟩
  · obtain ⟨c', t, fz, h1, h2⟩ := h.still b hS hF
    exact ⟨c', t, fz, by rw [hb b hF]; exact h1, h2⟩
  · rw [hb b hF]; exact h.same b hF hS

/-! What a step lists is what the trace's law allows. -/
def Fair (F S : Nat → Prop) (B : Nat) (op : MemOp) : Prop :=
  (∀ a, op.act.touch? = some a → TchOk F S a ∧ (a.loc.isMemory = true → ∃ b, blkOf a.loc = some b)) ∧ op.act.low B ∧ ∀ g d, deafStep g d op = d
theorem evOk_fair {F S : Nat → Prop} {B g : Nat} {fn : FuncId} {pos : String} {e : Event} (h : EvOk F S B e) : Fair F S B { g, fn, pos, act := .ofEvent e } := by
  obtain ⟨loc, wr, sy⟩ := e
  cases loc with
  | cell a =>
    have e1 : MemAct.ofEvent ⟨.cell a, wr, sy⟩ = .access ⟨.cell a, wr, sy⟩ := by cases wr <;> cases sy <;> rfl
    refine ⟨fun x hx => ?_, by rw [e1]; exact h.2.2, fun _ _ => by rw [e1]; rfl⟩
    rw [e1] at hx
    simp only [MemAct.touch?, Option.some.injEq] at hx
    subst hx
    exact ⟨fun b hb => by cases hb; exact ⟨h.1, h.2.1⟩, fun _ => ⟨_, rfl⟩⟩
  | obj r =>
    by_cases hc : wr = true ∧ sy = true
    · obtain ⟨rfl, rfl⟩ := hc
      exact ⟨fun x hx => (by cases hx), h.2.2, fun _ _ => rfl⟩
    · have e1 : MemAct.ofEvent ⟨.obj r, wr, sy⟩ = .access ⟨.obj r, wr, sy⟩ := by
        cases wr <;> cases sy <;> first | rfl | exact absurd ⟨rfl, rfl⟩ hc
      refine ⟨fun x hx => ?_, by rw [e1]; exact h.2.2, fun _ _ => by rw [e1]; rfl⟩
      rw [e1] at hx
      simp only [MemAct.touch?, Option.some.injEq] at hx
      subst hx
      exact ⟨fun b hb => by cases hb; exact ⟨h.1, fun _ => h.2.1⟩, fun _ => ⟨_, rfl⟩⟩
  | mark m =>
    have h' : softMark m := h
    have e1 : MemAct.ofEvent ⟨.mark m, wr, sy⟩ = .mark m := by cases wr <;> cases sy <;> rfl
    rw [e1]
    cases m with
    | noRoom => exact ⟨fun x hx => (by cases hx), trivial, fun _ _ => rfl⟩
    | extern f => exact ⟨fun x hx => (by cases hx), trivial, fun _ _ => rfl⟩
    | _ => exact h'.elim
  | output => exact h.elim
  | goroutines => exact h.elim
theorem Fair.mono {F S : Nat → Prop} {B B' : Nat} {op : MemOp} (h : Fair F S B op) (hB : B ≤ B') : Fair F S B' op := ⟨h.1, MemAct.low_mono hB h.2.1, h.2.2⟩
theorem ops_fair {F S : Nat → Prop} {B g : Nat} {fn : FuncId} {pos : String} {es : Array Event} (h : ∀ e ∈ es, EvOk F S B e) : ∀ op ∈ MemOp.ofEvents g fn pos es, op.g = g ∧ Fair F S B op := by
  intro op hop
  obtain ⟨e, he, rfl⟩ := Go.Conc.mem_ofEvents hop
  exact ⟨rfl, evOk_fair (h e he)⟩
/-- A step of one of the living: the views grow, the law stays. -/
theorem Pt.step {Liv : Nat → Prop} {F S : Nat → Nat → Prop} {B g : Nat} {t : Trace} {fn : FuncId} {pos : String} {es : Array Event} (h : Pt Liv F S B t) (ha : Apt Liv F S B) (hg : Liv g) (he : ∀ e ∈ es, EvOk (F g) (S g) B e) :
    Pt Liv F S B (t ++ MemOp.ofEvents g fn pos es) := by
  have hf := ops_fair (g := g) (fn := fn) (pos := pos) he
  exact h.own ha hg (fun op hop => (hf op hop).1) (fun op hop => (hf op hop).2.1) (Deaf_quiet fun op hop d => (hf op hop).2.2.2 g d) fun op hop => (hf op hop).2.2.1

/-- What was there at the beginning: it stays, but for what one may turn; some of it nobody touches. -/
structure Bas (W : World) (H : Nat → Prop) (L : Nat → Prop) (F : Nat → Nat → Prop) (w : World) : Prop where
  os : w.os = W.os
  tape : w.tape = W.tape
  output : w.output = W.output
  size : W.heap.size ≤ w.heap.size
  held : ∀ b, H b → b < W.heap.size ∧ w.heap[b]? = W.heap[b]? ∧ ∀ i, L i → F i b
  new : ∀ b, b < W.heap.size → F 0 b → H b
section
variable {W w w' : World} {H L L' : Nat → Prop} {F : Nat → Nat → Prop} {S : Nat → Nat → Prop}
theorem Bas.step {i : Nat} (h : Bas W H L F w) (hi : L i) (hk : Kept (F i) (S i) w w') : Bas W H L (fun j b => if j = i then F i b else more (F j) w w' b) w' := by
  refine ⟨hk.os.trans h.os, hk.tape.trans h.tape, hk.output.trans h.output, Nat.le_trans h.size hk.size, fun b hb => ?_, fun b hb hF => ?_⟩
  · obtain ⟨h1, h2, h3⟩ := h.held b hb
    refine ⟨h1, (hk.block b (Nat.lt_of_lt_of_le h1 h.size) (.inl (h3 i hi))).trans h2, fun j hj => ?_⟩
    by_cases e : j = i
    · subst e; simpa using h3 j hj
    · simp only [e, if_false]; exact .inl (h3 j hj)
  · by_cases e : 0 = i
    · subst e; exact h.new b hb (by simpa using hF)
    · simp only [e, if_false] at hF
      rcases hF with x | x
      · exact h.new b hb x
      · have := h.size; omega
theorem Bas.sub (h : Bas W H L F w) (hs : ∀ i, L' i → L i) : Bas W H L' F w := ⟨h.os, h.tape, h.output, h.size, fun b hb => ⟨(h.held b hb).1, (h.held b hb).2.1, fun i hi => (h.held b hb).2.2 i (hs i hi)⟩, h.new⟩
theorem Bas.drew (h : Bas W H L F w) (d : Nat) : Bas W H L F (w.at d) := ⟨h.os, h.tape, h.output, h.size, h.held, h.new⟩
theorem Bas.chan (h : Bas W H L F w) {c : Nat} (hc : W.heap.size ≤ c) (cap : Nat) (buf : Array Value) (cl : Bool) (s r : Nat) (tm : Bool) : Bas W H L F (w.setChan c cap buf cl s r tm) := by
  refine ⟨h.os, h.tape, h.output, ?_, fun b hb => ⟨(h.held b hb).1, ?_, (h.held b hb).2.2⟩, h.new⟩
  · have := h.size
    simpa [World.setChan] using this
  · have h1 := (h.held b hb).1
    rw [← (h.held b hb).2.1]
    show (w.heap.setIfInBounds c (Obj.chan cap buf cl s r tm))[b]? = _
    rw [Array.getElem?_setIfInBounds_ne (by omega)]
end
end Go.Proofs.YtofkhehcnfiopaaDoor.N
namespace Go.Proofs.YtofkhehcnfiopaaDoor.N
open Go Go.RowKit Go.Conc
set_option autoImplicit false
set_option linter.unusedSectionVars false

/-! The machine: goroutine 0 receives, some send, the others only leave. -/
section
variable (P : Program) (K : Prot) (Stop : Goroutine → World → Prop)
/-- The receiver: on its way, or parked at its channel. -/
def MainAt (s : Gst) (m : Mt) (g : Goroutine) (v : World) : Prop :=
  v.output = s.enc ∧ ((∃ tr, m = .live tr true ∧ GsT P (mSys P K) Stop tr g v) ∨
    ∃ tr0 g2, m = .live tr0 false ∧ s.pend ≠ [] ∧ g = parked g2 #[rcase s.c K.zr] (.recv false) ∧
      ∀ v₁, Rl v v₁ → ∀ i x l, s.pend[i]? = some (x :: l) → ∃ tr, Tr.Lt tr tr0 ∧ GsT P (mSys P K) Stop tr (Go.Conc.served g2 (K.msg x)) (saying v₁ (s.after K i x l).enc))
/-- A sender: on its way, or parked with its next word. -/
def WorkAt (c : Nat) (l : List UInt8) (m : Mt) (g : Goroutine) (v : World) : Prop :=
  v.output = #[enc1 l] ∧ ((∃ tr, m = .live tr true ∧ GsT P (wSys P K c) (WStop P) tr g v) ∨
    ∃ tr0 g2 x l', m = .live tr0 false ∧ l = x :: l' ∧ g = parked g2 #[scase c (K.msg x) K.z] .send ∧ (x = K.done → ∃ n, QuitsD P n 0 (Go.Conc.served g2 undef)) ∧
      ∀ v₁, Rl v v₁ → ∃ tr, Tr.Lt tr tr0 ∧ GsT P (wSys P K c) (WStop P) tr (Go.Conc.served g2 undef) (saying v₁ #[enc1 l']))
def Liv (ids : List Nat) (i : Nat) : Prop := i = 0 ∨ i ∈ ids
structure MInv (W : World) (H : Nat → Prop) (gs : Array Goroutine) (w : World) (s : Gst) (ids : List Nat) (F S : Nat → Nat → Prop) (vs : Nat → World) (m0 : Mt) (ms : List Mt) (t : Trace) : Prop where
  len : ms.length = gs.size
  nodup : ids.Nodup
  inside : ∀ i ∈ ids, 0 < i ∧ i < gs.size
  pend : ids.length = s.pend.length
  hid : ∀ i, Liv ids i → Hid (F i) (S i) w (vs i)
  main : ∃ a, gs[0]? = some a ∧ MainAt P K Stop s m0 a (vs 0)
  work : ∀ (k i : Nat) (l : List UInt8), ids[k]? = some i → s.pend[k]? = some l → Said K l ∧ ∃ g m, gs[i]? = some g ∧ ms[i]? = some m ∧ WorkAt P K s.c l m g (vs i)
  old : ∀ (i : Nat) (g : Goroutine), 0 < i → i ∉ ids → gs[i]? = some g → ∃ n, ms[i]? = some (.quits n) ∧ QuitsD P n (Deaf t i) g
  above : ∀ j, gs.size ≤ j → Deaf t j = 0
  apt : Apt (Liv ids) F S w.heap.size
  law : Pt (Liv ids) F S w.heap.size t
  chan : s.pend ≠ [] → (∃ r, w.heap[s.c]? = some (.chan 0 #[] false r r false)) ∧ ∀ i, Liv ids i → F i s.c
  lent : ∀ b, S 0 b ↔ b ∈ s.sl
  soft : ∀ b ∈ s.sl, ¬ F 0 b ∧ ∃ c t, w.heap[b]? = some (.cells c t (0, 0))
  apart : ∀ tr, m0 = .live tr false → ∀ i ∈ ids, ∃ tr, ms[i]? = some (.live tr true)
  based : Bas W H (Liv ids) F w
  high : s.pend ≠ [] → W.heap.size ≤ s.c
end
section
variable {P : Program} {K : Prot} {W : World} {H : Nat → Prop} {Stop : Goroutine → World → Prop} {s : Gst} {m m0 : Mt} {ms : List Mt} {g : Goroutine} {v v' w : World} {c : Nat} {l : List UInt8} {gs : Array Goroutine} {ids : List Nat} {F S : Nat → Nat → Prop} {vs : Nat → World} {t : Trace}
theorem MainAt.rely (h : MainAt P K Stop s m g v) (hr : Rl v v') : MainAt P K Stop s m g v' := by
  obtain ⟨h0, ⟨tr, h1, h2⟩ | ⟨tr0, g2, h1, h2, h3, h4⟩⟩ := h
  · exact ⟨hr.output.trans h0, .inl ⟨tr, h1, h2.rely hr⟩⟩
  · exact ⟨hr.output.trans h0, .inr ⟨tr0, g2, h1, h2, h3, fun v₁ h5 => h4 v₁ (hr.trans h5)⟩⟩
theorem WorkAt.rely (h : WorkAt P K c l m g v) (hr : Rl v v') : WorkAt P K c l m g v' := by
  obtain ⟨h0, ⟨tr, h1, h2⟩ | ⟨tr0, g2, x, l', h1, h2, h3, h4, h5⟩⟩ := h
  · exact ⟨hr.output.trans h0, .inl ⟨tr, h1, h2.rely hr⟩⟩
  · exact ⟨hr.output.trans h0, .inr ⟨tr0, g2, x, l', h1, h2, h3, h4, fun v₁ h6 => h5 v₁ (hr.trans h6)⟩⟩
theorem MInv.drew (h : MInv P K Stop W H gs w s ids F S vs m0 ms t) (d : Nat) : MInv P K Stop W H gs (w.at d) s ids F S (fun i => (vs i).at d) m0 ms t := by
  refine ⟨h.len, h.nodup, h.inside, h.pend, fun i hi => (h.hid i hi).drew d, ?_, fun k i l hk hl => ?_, h.old, h.above, h.apt, h.law, h.chan, h.lent, h.soft, h.apart, h.based.drew d, h.high⟩
  · obtain ⟨a, h1, h2⟩ := h.main
    exact ⟨a, h1, h2.rely (.drew ..)⟩
  · obtain ⟨h1, g, m, h2, h3, h4⟩ := h.work k i l hk hl
    exact ⟨h1, g, m, h2, h3, h4.rely (.drew ..)⟩
/-- One of the living has gone a step of its own: what the others have stays. -/
theorem Apt.step {Liv : Nat → Prop} {w w' : World} {i : Nat} (h : Apt Liv F S w.heap.size) : Apt Liv (fun j b => if j = i then F i b else more (F j) w w' b) S w'.heap.size := by
  intro a b ha hb hne k hk hF hS
  by_cases e1 : a = i
  · subst e1
    have e2 : b ≠ a := fun e => hne e.symm
    simp only [if_true] at hF
    simp only [e2, if_false]
    rcases Nat.lt_or_ge k w.heap.size with hl | hl
    · exact .inl (h a b ha hb hne k hl hF hS)
    · exact .inr ⟨hl, hk⟩
  · simp only [e1, if_false] at hF
    have hl : k < w.heap.size := by
      rcases Nat.lt_or_ge k w.heap.size with hl | hl
      · exact hl
      · exact absurd (.inr ⟨hl, hk⟩) hF
    have hF' := h a b ha hb hne k hl (fun x => hF (.inl x)) hS
    by_cases e2 : b = i
    · subst e2; simpa using hF'
    · simp only [e2, if_false]; exact .inl hF'
theorem Pt.grow {Liv : Nat → Prop} {w w' : World} {i : Nat} {fn : FuncId} {pos : String} {es : Array Event} (h : Pt Liv F S w.heap.size t) (ha : Apt Liv F S w.heap.size) (hi : Liv i) (hs : w.heap.size ≤ w'.heap.size) (he : ∀ e ∈ es, EvOk (F i) (S i) w'.heap.size e) :
    Pt Liv (fun j b => if j = i then F i b else more (F j) w w' b) S w'.heap.size (t ++ MemOp.ofEvents i fn pos es) := by
  refine Pt.step (h.mono (fun g b _ hF => ?_) (fun _ _ _ _ h => h) hs) ha.step hi (by simpa using he)
  by_cases e : g = i
  · subst e; simpa using hF
  · simp only [e, if_false]; exact .inl hF
end
end Go.Proofs.YtofkhehcnfiopaaDoor.N
namespace Go.Proofs.YtofkhehcnfiopaaDoor.N
open Go Go.RowKit Go.Conc
set_option autoImplicit false
set_option linter.unusedSectionVars false

section
variable {P : Program} {K : Prot} {W : World} {H : Nat → Prop} {Stop : Goroutine → World → Prop} {s : Gst} {m m0 m' : Mt} {ms : List Mt} {g g' : Goroutine} {v v' w w' : World} {c i : Nat} {l : List UInt8} {gs : Array Goroutine} {ids : List Nat} {F S : Nat → Nat → Prop} {vs : Nat → World} {t : Trace} {es : Array Event}
theorem mrun {tr : Tr} (hS : ∀ g v, Stop g v → g.status = .running) (h : GsT P (mSys P K) Stop tr g v) : g.status = .running := by
  cases h with
  | stop h => exact hS _ _ (h v (Rl.refl v))
  | step hr _ _ _ => exact hr
  | sync nx h k =>
    rcases h v (Rl.refl v) with ⟨hr, _⟩ | ⟨hr, _⟩ | ⟨hr, _⟩ <;> exact hr
theorem wrun {tr : Tr} (hl : Said K l) (ho : v.output = #[enc1 l]) (h : GsT P (wSys P K c) (WStop P) tr g v) : g.status = .running := by
  cases h with
  | stop h =>
    have h1 : v.output = #[enc1 []] := h v (Rl.refl v)
    rw [ho] at h1
    have h2 : l = [] := enc1_inj (by simpa using h1)
    obtain ⟨x, h3, _⟩ := hl
    rw [h2] at h3
    simp at h3
  | step hr _ _ _ => exact hr
  | sync nx h k => exact (h v (Rl.refl v)).1
theorem MainAt.woken {w' : World} {a a' : Goroutine} (hS : ∀ g v, Stop g v → g.status = .running) (h : MainAt P K Stop s m g v) (hc : s.pend ≠ [] → ∃ r, w'.heap[s.c]? = some (.chan 0 #[] false r r false)) : Go.Conc.woken P a a' w' g = g := by
  obtain ⟨_, ⟨tr, _, h2⟩ | ⟨_, g2, _, h2, rfl, _⟩⟩ := h
  · exact woken_run (mrun hS h2)
  · obtain ⟨r, h3⟩ := hc h2
    exact woken_recv_open _ _ h3
theorem WorkAt.woken {w' : World} {a a' : Goroutine} {r : Nat} (hl : Said K l) (h : WorkAt P K c l m g v) (hc : w'.heap[c]? = some (.chan 0 #[] false r r false)) : Go.Conc.woken P a a' w' g = g := by
  obtain ⟨h0, ⟨tr, _, h2⟩ | ⟨_, g2, _, _, _, _, rfl, _⟩⟩ := h
  · exact woken_run (wrun hl h0 h2)
  · exact woken_send_open _ _ hc
theorem mem_pend (h : MInv P K Stop W H gs w s ids F S vs m0 ms t) (hi : i ∈ ids) : ∃ (k : Nat) (l : List UInt8), ids[k]? = some i ∧ s.pend[k]? = some l := by
  obtain ⟨k, hk, rfl⟩ := List.mem_iff_getElem.1 hi
  exact ⟨k, s.pend[k]'(by rw [← h.pend]; exact hk), List.getElem?_eq_getElem hk, List.getElem?_eq_getElem _⟩
/-- One of the living takes a step of its own. -/
theorem MInv.own (h : MInv P K Stop W H gs w s ids F S vs m0 ms t) (hS : ∀ g v, Stop g v → g.status = .running) (hi : Liv ids i) (hg : gs[i]? = some g) (hk : Kept (F i) (S i) w w') (hv : Hid (F i) (S i) w' v') (he : ∀ e ∈ es, EvOk (F i) (S i) w'.heap.size e)
    {tr : Tr} (hm : i = 0 → MainAt P K Stop s (.live tr true) g' v') (hw : i ≠ 0 → ∀ (k : Nat) (l : List UInt8), ids[k]? = some i → s.pend[k]? = some l → WorkAt P K s.c l (.live tr true) g' v') :
    MInv P K Stop W H ((gs.map (Go.Conc.woken P g g' w')).setIfInBounds i g') w' s ids (fun j b => if j = i then F i b else more (F j) w w' b) S (fun j => if j = i then v' else grown (vs j) w')
      (if i = 0 then .live tr true else m0) (if i = 0 then ms else ms.set i (.live tr true)) (t ++ MemOp.ofEvents i g.frame.fn g.frame.place es) := by
  have hlt : i < gs.size := (Array.getElem?_eq_some_iff.1 hg).1
  have hchan : s.pend ≠ [] → (∃ r, w'.heap[s.c]? = some (.chan 0 #[] false r r false)) := fun hp => by
    obtain ⟨⟨r, h1⟩, h2⟩ := h.chan hp
    exact ⟨r, by rw [hk.block _ (Array.getElem?_eq_some_iff.1 h1).1 (.inl (h2 i hi))]; exact h1⟩
  have hne : ∀ j, i ≠ j → ((gs.map (Go.Conc.woken P g g' w')).setIfInBounds i g')[j]? = (gs[j]?).map (Go.Conc.woken P g g' w') := fun j hj => by
    rw [Array.getElem?_setIfInBounds_ne hj, Array.getElem?_map]
  have hself : ((gs.map (Go.Conc.woken P g g' w')).setIfInBounds i g')[i]? = some g' := Array.getElem?_setIfInBounds_self_of_lt (by simpa using hlt)
  have hdeaf : ∀ j, Deaf (t ++ MemOp.ofEvents i g.frame.fn g.frame.place es) j = Deaf t j := fun j => Deaf_quiet fun op hop d => (ops_fair he op hop).2.2.2 j d
  refine ⟨?_, h.nodup, fun j hj => by simpa using h.inside j hj, h.pend, fun j hj => ?_, ?_, fun k j l hkj hl => ?_, fun j x hj hn hx => ?_, fun j hj => ?_, h.apt.step, h.law.grow h.apt hi hk.size he, fun hp => ⟨hchan hp, fun j hj => ?_⟩, h.lent, fun b hb => ?_, fun tr' htr j hj => ?_, h.based.step hi hk, h.high⟩
  · by_cases e : i = 0 <;> simp [e, h.len]
  · by_cases e : j = i
    · subst e; simpa using hv
    · simp only [e, if_false]
      exact (h.hid j hj).beside hk fun b hb h1 h2 => h.apt i j hi hj (Ne.symm e) b hb h1 h2
  · obtain ⟨a, h1, h2⟩ := h.main
    by_cases e : i = 0
    · subst e
      exact ⟨g', hself, by simpa using hm rfl⟩
    · refine ⟨a, ?_, ?_⟩
      · rw [hne 0 e, h1]
        simp [h2.woken hS hchan]
      · have e' : (0 : Nat) ≠ i := fun x => e x.symm
        simp only [e', e, if_false]
        exact h2.rely .grown
  · obtain ⟨h1, x, m1, h2, h3, h4⟩ := h.work k j l hkj hl
    have hj0 : 0 < j := (h.inside j (List.mem_of_getElem? hkj)).1
    refine ⟨h1, ?_⟩
    by_cases e : i = j
    · subst e
      have e0 : i ≠ 0 := by omega
      refine ⟨g', .live tr true, hself, ?_, by simpa using hw e0 k l hkj hl⟩
      simp only [e0, if_false]
      rw [List.getElem?_set_self (by rw [h.len]; exact hlt)]
    · obtain ⟨r, h5⟩ := hchan (fun x => by rw [x] at hl; simp at hl)
      refine ⟨x, m1, ?_, ?_, ?_⟩
      · rw [hne j e, h2]; simp [h4.woken h1 h5]
      · by_cases e0 : i = 0
        · simp only [e0, if_true]; exact h3
        · simp only [e0, if_false]; rw [List.getElem?_set_ne e]; exact h3
      · have e' : j ≠ i := fun x => e x.symm
        simp only [e', if_false]
        exact h4.rely .grown
  · have e : i ≠ j := fun e => by subst e; exact hi.elim (fun x => by omega) hn
    rw [hne j e] at hx
    obtain ⟨y, hy, rfl⟩ := Option.map_eq_some_iff.1 hx
    obtain ⟨n, h1, h2⟩ := h.old j y hj hn hy
    refine ⟨n, ?_, ?_⟩
    · by_cases e0 : i = 0
      · simp only [e0, if_true]; exact h1
      · simp only [e0, if_false]; rw [List.getElem?_set_ne e]; exact h1
    · rw [woken_quitsD h2, hdeaf]; exact h2
  · rw [hdeaf]; exact h.above j (by simpa using hj)
  · have h1 := (h.chan hp).2 j hj
    by_cases e : j = i
    · subst e; simpa using h1
    · simp only [e, if_false]; exact .inl h1
  · obtain ⟨h1, cs, tt, h2⟩ := h.soft b hb
    have hbl := (Array.getElem?_eq_some_iff.1 h2).1
    have h3 : w'.heap[b]? = w.heap[b]? := hk.block b hbl (by
      by_cases e : i = 0
      · subst e; exact .inr ((h.lent b).2 hb)
      · by_cases x : F i b
        · exact .inl x
        · by_cases y : S i b
          · exact .inr y
          · exact absurd (h.apt i 0 hi (.inl rfl) e b hbl x y) h1)
    refine ⟨?_, cs, tt, by rw [h3]; exact h2⟩
    by_cases e : 0 = i
    · subst e; simpa using h1
    · simp only [e, if_false]
      rintro (x | x)
      · exact h1 x
      · exact absurd x.1 (by omega)
  · by_cases e : i = 0
    · simp only [e, if_true] at htr
      cases htr
    · simp only [e, if_false] at htr ⊢
      obtain ⟨tr2, h1⟩ := h.apart tr' htr j hj
      by_cases e1 : i = j
      · subst e1
        exact ⟨tr, by rw [List.getElem?_set_self (by rw [h.len]; exact hlt)]⟩
      · exact ⟨tr2, by rw [List.getElem?_set_ne e1]; exact h1⟩
end
end Go.Proofs.YtofkhehcnfiopaaDoor.N
namespace Go.Proofs.YtofkhehcnfiopaaDoor.N
open Go Go.RowKit Go.Conc
set_option autoImplicit false
set_option linter.unusedSectionVars false

section
variable {P : Program} {K : Prot} {W : World} {H : Nat → Prop} {Stop : Goroutine → World → Prop} {s : Gst} {m m0 m' : Mt} {ms : List Mt} {g g' : Goroutine} {v v' w w' : World} {c i : Nat} {l : List UInt8} {gs : Array Goroutine} {ids : List Nat} {F S : Nat → Nat → Prop} {vs : Nat → World} {t : Trace} {es : Array Event}
/-- One that only leaves goes on. -/
theorem MInv.left (h : MInv P K Stop W H gs w s ids F S vs m0 ms t) (hS : ∀ g v, Stop g v → g.status = .running) (hi0 : 0 < i) (hi : i ∉ ids) (hg : gs[i]? = some g) (hm : ∀ e ∈ es, Event.mute e = true) {n : Nat} (hq : QuitsD P n (deafBehind (Deaf t i) es) g') :
    MInv P K Stop W H ((gs.map (Go.Conc.woken P g g' w)).setIfInBounds i g') w s ids F S vs m0 (ms.set i (.quits n)) (t ++ MemOp.ofEvents i g.frame.fn g.frame.place es) := by
  have hlt : i < gs.size := (Array.getElem?_eq_some_iff.1 hg).1
  have hne : ∀ j, i ≠ j → ((gs.map (Go.Conc.woken P g g' w)).setIfInBounds i g')[j]? = (gs[j]?).map (Go.Conc.woken P g g' w) := fun j hj => by
    rw [Array.getElem?_setIfInBounds_ne hj, Array.getElem?_map]
  have hself : ((gs.map (Go.Conc.woken P g g' w)).setIfInBounds i g')[i]? = some g' := Array.getElem?_setIfInBounds_self_of_lt (by simpa using hlt)
  have hdeaf : ∀ j, i ≠ j → Deaf (t ++ MemOp.ofEvents i g.frame.fn g.frame.place es) j = Deaf t j := fun j hj => Deaf_other t hj _ (fun op hop => by obtain ⟨e, _, rfl⟩ := Go.Conc.mem_ofEvents hop; rfl)
  have hnl : ¬ Liv ids i := fun x => x.elim (fun x => by omega) hi
  refine ⟨by simp [h.len], h.nodup, fun j hj => by simpa using h.inside j hj, h.pend, h.hid, ?_, fun k j l hkj hl => ?_, fun j x hj hn hx => ?_, fun j hj => ?_, h.apt, h.law.mute hnl (fun op hop => by obtain ⟨e, _, rfl⟩ := Go.Conc.mem_ofEvents hop; rfl) (fun op hop => by obtain ⟨e, he, rfl⟩ := Go.Conc.mem_ofEvents hop; exact touch_mute (hm e he)) (fun op hop => by obtain ⟨e, he, rfl⟩ := Go.Conc.mem_ofEvents hop; exact low_mute (hm e he) _), h.chan, h.lent, h.soft, fun tr' htr j hj => ?_, h.based, h.high⟩
  · obtain ⟨a, h1, h2⟩ := h.main
    refine ⟨a, ?_, h2⟩
    rw [hne 0 (by omega), h1]
    simp [h2.woken hS fun hp => (h.chan hp).1]
  · obtain ⟨h1, x, m1, h2, h3, h4⟩ := h.work k j l hkj hl
    have e : i ≠ j := fun e => by subst e; exact hi (List.mem_of_getElem? hkj)
    obtain ⟨r, h5⟩ := (h.chan (fun x => by rw [x] at hl; simp at hl)).1
    exact ⟨h1, x, m1, by rw [hne j e, h2]; simp [h4.woken h1 h5], by rw [List.getElem?_set_ne e]; exact h3, h4⟩
  · by_cases e : i = j
    · subst e
      rw [hself] at hx
      cases hx
      exact ⟨n, List.getElem?_set_self (by rw [h.len]; exact hlt), by rw [Deaf_own]; exact hq⟩
    · rw [hne j e] at hx
      obtain ⟨y, hy, rfl⟩ := Option.map_eq_some_iff.1 hx
      obtain ⟨n', h1, h2⟩ := h.old j y hj hn hy
      exact ⟨n', by rw [List.getElem?_set_ne e]; exact h1, by rw [woken_quitsD h2, hdeaf j e]; exact h2⟩
  · have hj' : gs.size ≤ j := by simpa using hj
    rw [hdeaf j (by omega)]
    exact h.above j hj'
  · have e : i ≠ j := fun e => by subst e; exact hi hj
    obtain ⟨tr2, h1⟩ := h.apart tr' htr j hj
    exact ⟨tr2, by rw [List.getElem?_set_ne e]; exact h1⟩
/-- Nobody is left who sends: what was handed out comes back. -/
theorem MInv.settle (h : MInv P K Stop W H gs w s ids F S vs m0 ms t) (hp : s.pend = []) {a : Goroutine} (ha : gs[0]? = some a) {tr : Tr} (hm : MainAt P K Stop ⟨0, [], []⟩ (.live tr true) a (saying (thaw s.sl (vs 0)) (Gst.enc ⟨0, [], []⟩))) :
    MInv P K Stop W H gs w ⟨0, [], []⟩ [] F (fun _ _ => False) (fun j => if j = 0 then saying (thaw s.sl (vs 0)) (Gst.enc ⟨0, [], []⟩) else vs j) (.live tr true) ms t := by
  have hids : ids = [] := by
    have := h.pend
    rw [hp] at this
    exact List.eq_nil_of_length_eq_zero this
  subst hids
  have hL : ∀ g, Liv [] g → g = 0 := fun g hg => hg.elim id fun x => by cases x
  have hS0 : S 0 = fun b => b ∈ s.sl := funext fun b => propext (h.lent b)
  refine ⟨h.len, .nil, fun j hj => (by cases hj), rfl, fun j hj => ?_, ⟨a, ha, by simpa using hm⟩, fun k j l hk _ => (by simp at hk), h.old, h.above, fun a b ha hb hne => ?_, h.law.settle hL, fun hp => absurd rfl hp, fun b => (by simp), fun b hb => (by cases hb), fun _ hx => (by cases hx), h.based, fun hp => absurd rfl hp⟩
  · obtain rfl := hL j hj
    have h1 := h.hid 0 hj
    rw [hS0] at h1
    simpa using (h1.thaw h.soft).saying _
  · exact absurd ((hL a ha).trans (hL b hb).symm) hne
end
end Go.Proofs.YtofkhehcnfiopaaDoor.N
namespace Go.Proofs.YtofkhehcnfiopaaDoor.N
open Go Go.RowKit Go.Conc
set_option autoImplicit false
set_option linter.unusedSectionVars false

section
variable {P : Program} {K : Prot} {W : World} {H : Nat → Prop} {Stop : Goroutine → World → Prop} {s : Gst} {m m0 m' : Mt} {ms : List Mt} {g g' ch : Goroutine} {v v' w w' : World} {c i : Nat} {l : List UInt8} {sl : List Nat} {gs : Array Goroutine} {ids : List Nat} {F S : Nat → Nat → Prop} {vs : Nat → World} {t : Trace} {es : Array Event}
theorem liv_app {n i : Nat} : Liv (ids ++ [n]) i ↔ Liv ids i ∨ i = n := by
  unfold Liv
  simp only [List.mem_append, List.mem_singleton]
  exact ⟨fun x => x.elim (fun y => .inl (.inl y)) fun y => y.elim (fun z => .inl (.inr z)) .inr, fun x => x.elim (fun y => y.elim .inl fun z => .inr (.inl z)) fun y => .inr (.inr y)⟩
def hireF (F : Nat → Nat → Prop) (n B c : Nat) (sl : List Nat) (j b : Nat) : Prop := if j = n then b < B ∧ b ∉ sl else if j = 0 then F 0 b ∨ b = c else F j b
def hireS (S : Nat → Nat → Prop) (n : Nat) (sl : List Nat) (j b : Nat) : Prop := if j = n then b ∈ sl else if j = 0 then S 0 b ∨ b ∈ sl else S j b
theorem hireF_n {n B : Nat} : hireF F n B c sl n = fun b => b < B ∧ b ∉ sl := by funext b; simp [hireF]
theorem hireF_0 {n B : Nat} (h : (0 : Nat) ≠ n) : hireF F n B c sl 0 = fun b => F 0 b ∨ b = c := by funext b; simp [hireF, h]
theorem hireF_j {n B j : Nat} (h : j ≠ n) (h0 : j ≠ 0) : hireF F n B c sl j = F j := by funext b; simp [hireF, h, h0]
theorem hireS_n {n : Nat} : hireS S n sl n = fun b => b ∈ sl := by funext b; simp [hireS]
theorem hireS_0 {n : Nat} (h : (0 : Nat) ≠ n) : hireS S n sl 0 = fun b => S 0 b ∨ b ∈ sl := by funext b; simp [hireS, h]
theorem hireS_j {n j : Nat} (h : j ≠ n) (h0 : j ≠ 0) : hireS S n sl j = S j := by funext b; simp [hireS, h, h0]
/-- One more is started. -/
theorem MInv.hire (h : MInv P K Stop W H gs w s ids F S vs m0 ms t) (hg : gs[0]? = some g) (hcl : W.heap.size ≤ c)
    (hc : (s.pend = [] ∧ s.sl = [] ∧ (vs 0).heap[c]? = some (.chan 0 #[] false 0 0 false)) ∨ (s.pend ≠ [] ∧ s.c = c)) (hcs : c ∉ sl) (hgv : Givable sl (vs 0)) (hun : ∀ b ∈ sl, b ∈ s.sl ∨ ∃ cs t, (vs 0).heap[b]? = some (.cells cs t (0, 0)))
    (hl : Said K l) (he : ∀ e ∈ es, EvOk (F 0) (S 0) w.heap.size e) {tr trc : Tr} (hm : MainAt P K Stop ⟨c, s.sl ++ sl, s.pend ++ [l]⟩ (.live tr true) g' (saying (hideB c (chill sl (vs 0))) (Gst.enc ⟨c, s.sl ++ sl, s.pend ++ [l]⟩)))
    (hw : GsT P (wSys P K c) (WStop P) trc ch (saying (onlyV sl (vs 0)) #[enc1 l])) (fc : FuncId) :
    MInv P K Stop W H ((gs.setIfInBounds 0 g').push ch) w ⟨c, s.sl ++ sl, s.pend ++ [l]⟩ (ids ++ [gs.size]) (hireF F gs.size w.heap.size c sl) (hireS S gs.size sl)
      (fun j => if j = gs.size then saying (onlyV sl (vs 0)) #[enc1 l] else if j = 0 then saying (hideB c (chill sl (vs 0))) (Gst.enc ⟨c, s.sl ++ sl, s.pend ++ [l]⟩) else vs j)
      (.live tr true) (ms ++ [.live trc true])
      ((t ++ MemOp.ofEvents 0 g.frame.fn g.frame.place es) ++ #[{ g := 0, fn := g.frame.fn, pos := g.frame.place, act := .go gs.size }, { g := gs.size, fn := fc, pos := g.frame.place, act := .start }]) := by
  have hlt : 0 < gs.size := (Array.getElem?_eq_some_iff.1 hg).1
  have hn0 : gs.size ≠ 0 := by omega
  have h0n : (0 : Nat) ≠ gs.size := fun e => hn0 e.symm
  have hv0 := h.hid 0 (.inl rfl)
  have hchn : (∃ r, w.heap[c]? = some (.chan 0 #[] false r r false)) ∧ (∀ i ∈ ids, F i c) ∧ c ∉ s.sl := by
    rcases hc with ⟨h1, h2, h3⟩ | ⟨h1, rfl⟩
    · have hi : ids = [] := by
        have := h.pend
        rw [h1] at this
        exact List.eq_nil_of_length_eq_zero this
      have hF : ¬ F 0 c := fun hf => by
        obtain ⟨t', fz', h4⟩ := hv0.away c hf
        rw [h3] at h4
        cases h4
      have hSc : ¬ S 0 c := fun x => by
        have := (h.lent c).1 x
        rw [h2] at this
        cases this
      exact ⟨⟨0, by rw [← hv0.same c hF hSc]; exact h3⟩, fun i hi' => (by rw [hi] at hi'; cases hi'), by rw [h2]; simp⟩
    · obtain ⟨⟨r, h2⟩, h3⟩ := h.chan h1
      refine ⟨⟨r, h2⟩, fun i hi => h3 i (.inr hi), fun hx => ?_⟩
      obtain ⟨_, cs, tt, h4⟩ := h.soft _ hx
      rw [h2] at h4
      cases h4
  obtain ⟨⟨r, hch⟩, hFc, hcsl⟩ := hchn
  have hcb : c < w.heap.size := (Array.getElem?_eq_some_iff.1 hch).1
  have hgs := givable_shown hv0 hgv
  have hslb : ∀ b ∈ sl, b < w.heap.size := fun b hb => by
    obtain ⟨_, cs, tt, fz, h1, _⟩ := hgs b hb
    rw [← hv0.size]
    exact (Array.getElem?_eq_some_iff.1 h1).1
  have hSc0 : ¬ S 0 c := fun x => hcsl ((h.lent c).1 x)
  have hne : ∀ j, j < gs.size → j ≠ gs.size := fun j hj e => by omega
  have old : ∀ j, j ≠ 0 → j < gs.size → ((gs.setIfInBounds 0 g').push ch)[j]? = gs[j]? := fun j h1 h2 => by
    rw [Array.getElem?_push_lt (by simpa using h2), ← Array.getElem?_eq_getElem, Array.getElem?_setIfInBounds_ne (fun e => h1 e.symm)]
  have hfair := ops_fair (g := 0) (fn := g.frame.fn) (pos := g.frame.place) he
  have hnl : ¬ Liv ids gs.size := fun x => x.elim hn0 fun y => by have := (h.inside _ y).2; omega
  have d1 : ∀ j, Deaf (t ++ MemOp.ofEvents 0 g.frame.fn g.frame.place es) j = Deaf t j := fun j => Deaf_quiet fun op hop d => (hfair op hop).2.2.2 j d
  have d2 : ∀ j, Deaf ((t ++ MemOp.ofEvents 0 g.frame.fn g.frame.place es) ++ #[{ g := 0, fn := g.frame.fn, pos := g.frame.place, act := .go gs.size }, { g := gs.size, fn := fc, pos := g.frame.place, act := .start }]) j = Deaf t j := fun j => by
    rw [Deaf_quiet fun op hop d => ?_, d1]
    simp only [List.mem_toArray, List.mem_cons, List.not_mem_nil, or_false] at hop
    rcases hop with rfl | rfl <;> rfl
  have hlaw : Pt (Liv (ids ++ [gs.size])) (hireF F gs.size w.heap.size c sl) (hireS S gs.size sl) w.heap.size
      ((t ++ MemOp.ofEvents 0 g.frame.fn g.frame.place es) ++ #[{ g := 0, fn := g.frame.fn, pos := g.frame.place, act := .go gs.size }, { g := gs.size, fn := fc, pos := g.frame.place, act := .start }]) := by
    have hLe : Liv (ids ++ [gs.size]) = fun i => Liv ids i ∨ i = gs.size := funext fun i => propext liv_app
    rw [hLe]
    have p1 : Pt (Liv ids) F S w.heap.size (t ++ MemOp.ofEvents 0 g.frame.fn g.frame.place es) := h.law.step h.apt (.inl rfl) he
    have p2 := p1.mono (F' := fun j b => if j = 0 then F 0 b ∨ b = c else F j b) (S' := fun j b => if j = 0 then S 0 b ∨ b ∈ sl else S j b) (B' := w.heap.size) (fun j b _ hF => by
      by_cases e : j = 0
      · subst e; exact .inl hF
      · simpa [e] using hF) (fun j b _ _ hS => by
      by_cases e : j = 0
      · subst e; exact .inl hS
      · simpa [e] using hS) (Nat.le_refl _)
    have hh := p2.hire (c := gs.size) (Fc := fun b => b < w.heap.size ∧ b ∉ sl) (Sc := fun b => b ∈ sl) (.inl rfl) hnl (by rw [d1]; exact h.above _ (Nat.le_refl _)) (fun b hb hf => by
      have hbs : b ∈ sl := by
        by_cases x : b ∈ sl
        · exact x
        · exact absurd ⟨hb, x⟩ hf
      refine ⟨hbs, ?_⟩
      simp only [if_true]
      rintro (x | rfl)
      · exact (hgs b hbs).1 x
      · exact hcs hbs) g.frame.fn g.frame.place fc
    exact hh
  refine ⟨by simp [h.len], ?_, fun j hj => ?_, by simp [h.pend], fun j hj => ?_, ?_, fun k j l' hkj hl' => ?_, fun j x hj hn hx => ?_, fun j hj => ?_, ?_, hlaw, fun _ => ⟨⟨r, hch⟩, fun j hj => ?_⟩, fun b => ?_, fun b hb => ?_, fun tr' htr => (by cases htr), ?_, fun _ => hcl⟩
  · rw [List.nodup_append]
    exact ⟨h.nodup, by simp, fun a ha b hb e => by
      simp only [List.mem_singleton] at hb
      subst e
      have := (h.inside _ ha).2
      omega⟩
  · simp only [List.mem_append, List.mem_singleton] at hj
    rw [Array.size_push, Array.size_setIfInBounds]
    rcases hj with hj | rfl
    · have := h.inside j hj; omega
    · omega
  · by_cases e : j = gs.size
    · subst e
      have := (hv0.only hgv).saying #[enc1 l]
      rw [hireF_n, hireS_n]
      simpa using this
    · by_cases e0 : j = 0
      · subst e0
        have h1 := ((hv0.chill hgv).hideB hcb (by rintro (x | x); exact hSc0 x; exact hcs x)).saying (Gst.enc ⟨c, s.sl ++ sl, s.pend ++ [l]⟩)
        rw [hireF_0 h0n, hireS_0 h0n]
        simpa [h0n] using h1
      · have := h.hid j ((liv_app.1 hj).resolve_right e)
        rw [hireF_j e e0, hireS_j e e0]
        simpa [e, e0] using this
  · refine ⟨g', ?_, by simpa [h0n] using hm⟩
    rw [Array.getElem?_push_lt (by simpa using hlt), ← Array.getElem?_eq_getElem, Array.getElem?_setIfInBounds_self_of_lt hlt]
  · rcases Nat.lt_or_ge k ids.length with hk | hk
    · rw [List.getElem?_append_left hk] at hkj
      have hkp : k < s.pend.length := by rw [← h.pend]; exact hk
      have hl2 : s.pend[k]? = some l' := by
        have : (s.pend ++ [l])[k]? = some l' := hl'
        rwa [List.getElem?_append_left hkp] at this
      obtain ⟨h1, x, m1, h2, h3, h4⟩ := h.work k j l' hkj hl2
      have hj := h.inside j (List.mem_of_getElem? hkj)
      have ej : j ≠ gs.size := by omega
      have ej0 : j ≠ 0 := by omega
      have hpe : s.pend ≠ [] := fun e => by rw [e] at hl2; simp at hl2
      obtain rfl : s.c = c := by
        rcases hc with ⟨x, _⟩ | ⟨_, x⟩
        · exact absurd x hpe
        · exact x
      refine ⟨h1, x, m1, by rw [old j ej0 hj.2]; exact h2, by rw [List.getElem?_append_left (by rw [h.len]; exact hj.2)]; exact h3, ?_⟩
      simp only [ej, ej0, if_false]
      exact h4
    · have e : k = ids.length := by
        have := (List.getElem?_eq_some_iff.1 hkj).1
        simp at this
        omega
      subst e
      have ej : j = gs.size := by simpa using hkj.symm
      subst ej
      have el : l' = l := by
        have : (s.pend ++ [l])[ids.length]? = some l' := hl'
        rw [h.pend] at this
        simpa using this.symm
      subst el
      refine ⟨hl, ch, .live trc true, ?_, ?_, ?_⟩
      · simpa using Array.getElem?_push_size (xs := gs.setIfInBounds 0 g') (x := ch)
      · rw [← h.len]; simp
      · simp only [if_true]
        exact ⟨rfl, .inl ⟨trc, rfl, hw⟩⟩
  · simp only [List.mem_append, List.mem_singleton, not_or] at hn
    have hjs : j < gs.size := by
      have := (Array.getElem?_eq_some_iff.1 hx).1
      simp at this
      omega
    rw [old j (by omega) hjs] at hx
    obtain ⟨n, h1, h2⟩ := h.old j x hj hn.1 hx
    exact ⟨n, by rw [List.getElem?_append_left (by rw [h.len]; exact hjs)]; exact h1, by rw [d2]; exact h2⟩
  · rw [d2]
    refine h.above j ?_
    rw [Array.size_push, Array.size_setIfInBounds] at hj
    omega
  · intro a b ha hb hab k hk hF hS
    by_cases ea : a = gs.size
    · subst ea
      simp only [hireF, hireS, if_true] at hF hS
      exact absurd ⟨hk, hS⟩ hF
    · by_cases eb : b = gs.size
      · subst eb
        simp only [hireF, if_true]
        refine ⟨hk, fun hks => ?_⟩
        by_cases e0 : a = 0
        · subst e0
          simp only [hireS, ea, if_false, if_true] at hS
          exact hS (.inr hks)
        · simp only [hireF, hireS, ea, e0, if_false] at hF hS
          have := h.apt a 0 ((liv_app.1 ha).resolve_right ea) (.inl rfl) e0 k hk hF hS
          exact (hgs k hks).1 this
      · have ha' := (liv_app.1 ha).resolve_right ea
        have hb' := (liv_app.1 hb).resolve_right eb
        by_cases e0 : a = 0
        · subst e0
          simp only [hireF, hireS, ea, if_false, if_true, not_or] at hF hS
          have e1 : b ≠ 0 := fun e => hab e.symm
          simp only [hireF, eb, e1, if_false]
          exact h.apt 0 b ha' hb' hab k hk hF.1 hS.1
        · simp only [hireF, hireS, ea, e0, if_false] at hF hS
          have := h.apt a b ha' hb' hab k hk hF hS
          by_cases e1 : b = 0
          · subst e1
            simp only [hireF, eb, if_false, if_true]
            exact .inl this
          · simp only [hireF, eb, e1, if_false]
            exact this
  · by_cases ej : j = gs.size
    · subst ej
      simp only [hireF, if_true]
      exact ⟨hcb, hcs⟩
    · by_cases e0 : j = 0
      · subst e0
        simp only [hireF, ej, if_false, if_true]
        exact .inr trivial
      · simp only [hireF, ej, e0, if_false]
        exact hFc j (((liv_app.1 hj).resolve_right ej).resolve_left e0)
  · simp only [hireS, h0n, if_false, if_true, List.mem_append]
    rw [h.lent]
  · simp only [hireF, h0n, if_false, if_true]
    rcases List.mem_append.1 hb with hb1 | hb1
    · obtain ⟨h1, cs, tt, h2⟩ := h.soft b hb1
      refine ⟨?_, cs, tt, h2⟩
      rintro (x | rfl)
      · exact h1 x
      · exact hcsl hb1
    · have hF0 := (hgs b hb1).1
      refine ⟨?_, ?_⟩
      · rintro (x | rfl)
        · exact hF0 x
        · exact hcs hb1
      · rcases hun b hb1 with x | ⟨cs, tt, x⟩
        · exact (h.soft b x).2
        · by_cases hS : S 0 b
          · exact (h.soft b ((h.lent b).1 hS)).2
          · exact ⟨cs, tt, by rw [← hv0.same b hF0 hS]; exact x⟩
  · refine ⟨h.based.os, h.based.tape, h.based.output, h.based.size, fun b hb => ?_, fun b hb hF => ?_⟩
    · obtain ⟨h1, h2, h3⟩ := h.based.held b hb
      refine ⟨h1, h2, fun i hi => ?_⟩
      by_cases e : i = gs.size
      · subst e
        simp only [hireF, if_true]
        exact ⟨Nat.lt_of_lt_of_le h1 h.based.size, fun x => (hgs b x).1 (h3 0 (.inl rfl))⟩
      · by_cases e0 : i = 0
        · subst e0
          simp only [hireF, h0n, if_false, if_true]
          exact .inl (h3 0 (.inl rfl))
        · simp only [hireF, e, e0, if_false]
          exact h3 i ((liv_app.1 hi).resolve_right e)
    · simp only [hireF, h0n, if_false, if_true] at hF
      rcases hF with x | rfl
      · exact h.based.new b hb x
      · omega
end
end Go.Proofs.YtofkhehcnfiopaaDoor.N
namespace Go.Proofs.YtofkhehcnfiopaaDoor.N
open Go Go.RowKit Go.Conc
set_option autoImplicit false
set_option linter.unusedSectionVars false

section
variable {P : Program} {K : Prot} {W : World} {H : Nat → Prop} {Stop : Goroutine → World → Prop} {s : Gst} {m m0 m' : Mt} {ms : List Mt} {g g' ch : Goroutine} {v v' w w' : World} {c i : Nat} {l : List UInt8} {sl : List Nat} {gs : Array Goroutine} {ids : List Nat} {F S : Nat → Nat → Prop} {vs : Nat → World} {t : Trace} {es : Array Event}
/-- One of the living is parked. -/
theorem MInv.park (h : MInv P K Stop W H gs w s ids F S vs m0 ms t) (hi : Liv ids i) (hg : gs[i]? = some g) (he : ∀ e ∈ es, EvOk (F i) (S i) w.heap.size e) {tr : Tr}
    (hm : i = 0 → MainAt P K Stop s (.live tr false) g' (vs 0)) (hw : i ≠ 0 → ∀ (k : Nat) (l : List UInt8), ids[k]? = some i → s.pend[k]? = some l → WorkAt P K s.c l (.live tr false) g' (vs i))
    (hap : i = 0 → ∀ j ∈ ids, ∃ tr, ms[j]? = some (.live tr true)) (hap' : i ≠ 0 → ∀ tr, m0 ≠ .live tr false) :
    MInv P K Stop W H (gs.setIfInBounds i g') w s ids F S vs (if i = 0 then .live tr false else m0) (if i = 0 then ms else ms.set i (.live tr false)) (t ++ MemOp.ofEvents i g.frame.fn g.frame.place es) := by
  have hlt : i < gs.size := (Array.getElem?_eq_some_iff.1 hg).1
  have hne : ∀ j, i ≠ j → (gs.setIfInBounds i g')[j]? = gs[j]? := fun j hj => by rw [Array.getElem?_setIfInBounds_ne hj]
  have hself : (gs.setIfInBounds i g')[i]? = some g' := Array.getElem?_setIfInBounds_self_of_lt hlt
  have hdeaf : ∀ j, Deaf (t ++ MemOp.ofEvents i g.frame.fn g.frame.place es) j = Deaf t j := fun j => Deaf_quiet fun op hop d => (ops_fair he op hop).2.2.2 j d
  refine ⟨?_, h.nodup, fun j hj => by simpa using h.inside j hj, h.pend, h.hid, ?_, fun k j l hkj hl => ?_, fun j x hj hn hx => ?_, fun j hj => ?_, h.apt, h.law.step h.apt hi he, h.chan, h.lent, h.soft, fun tr' htr j hj => ?_, h.based, h.high⟩
  · by_cases e : i = 0 <;> simp [e, h.len]
  · by_cases e : i = 0
    · subst e
      exact ⟨g', hself, by simpa using hm rfl⟩
    · obtain ⟨a, h1, h2⟩ := h.main
      exact ⟨a, by rw [hne 0 e]; exact h1, by simpa [e] using h2⟩
  · obtain ⟨h1, x, m1, h2, h3, h4⟩ := h.work k j l hkj hl
    have hj0 : 0 < j := (h.inside j (List.mem_of_getElem? hkj)).1
    refine ⟨h1, ?_⟩
    by_cases e : i = j
    · subst e
      have e0 : i ≠ 0 := by omega
      refine ⟨g', .live tr false, hself, ?_, hw e0 k l hkj hl⟩
      simp only [e0, if_false]
      rw [List.getElem?_set_self (by rw [h.len]; exact hlt)]
    · refine ⟨x, m1, by rw [hne j e]; exact h2, ?_, h4⟩
      by_cases e0 : i = 0
      · simp only [e0, if_true]; exact h3
      · simp only [e0, if_false]; rw [List.getElem?_set_ne e]; exact h3
  · have e : i ≠ j := fun e => by subst e; exact hi.elim (fun x => by omega) hn
    rw [hne j e] at hx
    obtain ⟨n, h1, h2⟩ := h.old j x hj hn hx
    refine ⟨n, ?_, by rw [hdeaf]; exact h2⟩
    by_cases e0 : i = 0
    · simp only [e0, if_true]; exact h1
    · simp only [e0, if_false]; rw [List.getElem?_set_ne e]; exact h1
  · rw [hdeaf]; exact h.above j (by simpa using hj)
  · by_cases e : i = 0
    · simp only [e, if_true]
      exact hap e j hj
    · simp only [e, if_false] at htr
      exact absurd htr (hap' e tr')
/-- Their word has been passed on: what stands of it in the world. -/
theorem MInv.spoke (h : MInv P K Stop W H gs w s ids F S vs m0 ms t) (hp : s.pend ≠ []) (r d : Nat) (hi : Liv ids i) : Hid (F i) (S i) ((w.at d).setChan s.c 0 #[] false r r false) ((vs i).at d) :=
  ((h.hid i hi).drew d).chan ((h.chan hp).2 i hi) _ _ _ _ _ _
end
end Go.Proofs.YtofkhehcnfiopaaDoor.N
namespace Go.Proofs.YtofkhehcnfiopaaDoor.N
open Go Go.RowKit Go.Conc
set_option autoImplicit false
set_option linter.unusedSectionVars false

section
variable {P : Program} {K : Prot} {W : World} {H : Nat → Prop} {Stop : Goroutine → World → Prop} {s : Gst} {m m0 m' : Mt} {ms : List Mt} {g g' ch : Goroutine} {v v' w w' : World} {c i : Nat} {l : List UInt8} {sl : List Nat} {gs : Array Goroutine} {ids : List Nat} {F S : Nat → Nat → Prop} {vs : Nat → World} {t : Trace} {es : Array Event}
/-- What one of the living says of its own, ahead of what it does. -/
theorem MInv.says (h : MInv P K Stop W H gs w s ids F S vs m0 ms t) (hi : Liv ids i) {fn : FuncId} {pos : String} (he : ∀ e ∈ es, EvOk (F i) (S i) w.heap.size e) : MInv P K Stop W H gs w s ids F S vs m0 ms (t ++ MemOp.ofEvents i fn pos es) := by
  have hdeaf : ∀ j, Deaf (t ++ MemOp.ofEvents i fn pos es) j = Deaf t j := fun j => Deaf_quiet fun op hop d => (ops_fair he op hop).2.2.2 j d
  exact ⟨h.len, h.nodup, h.inside, h.pend, h.hid, h.main, h.work, fun j x hj hn hx => by rw [hdeaf]; exact h.old j x hj hn hx, fun j hj => by rw [hdeaf]; exact h.above j hj, h.apt, h.law.step h.apt hi he, h.chan, h.lent, h.soft, h.apart, h.based, h.high⟩
def Left (K : Prot) (ids : List Nat) (k : Nat) (x : UInt8) : List Nat := if x = K.done then ids.eraseIdx k else ids
theorem left_facts {k j : Nat} {x : UInt8} {l' : List UInt8} (hnd : ids.Nodup) (hlen : ids.length = s.pend.length) (hk : ids[k]? = some j) (hl : s.pend[k]? = some (x :: l')) :
    (Left K ids k x).Nodup ∧ (Left K ids k x).length = (s.after K k x l').pend.length ∧ (∀ i ∈ Left K ids k x, i ∈ ids) ∧ (∀ i ∈ ids, i ≠ j → i ∈ Left K ids k x) ∧ (j ∈ Left K ids k x → x ≠ K.done) ∧ (x ≠ K.done → j ∈ Left K ids k x) ∧
      ∀ (a i : Nat) (l : List UInt8), (Left K ids k x)[a]? = some i → (s.after K k x l').pend[a]? = some l → (i = j ∧ x ≠ K.done ∧ l = l') ∨ (i ≠ j ∧ ∃ a' : Nat, ids[a']? = some i ∧ s.pend[a']? = some l) := by
  have hki : k < ids.length := (List.getElem?_eq_some_iff.1 hk).1
  have hkp : k < s.pend.length := (List.getElem?_eq_some_iff.1 hl).1
  have inj : ∀ (a : Nat), ids[a]? = some j → a = k := fun a ha => by
    have h1 := (List.getElem?_eq_some_iff.1 ha).1
    exact (List.getElem?_inj h1 hnd).1 (ha.trans hk.symm)
  by_cases hx : x = K.done
  · have e1 : Left K ids k x = ids.eraseIdx k := by simp [Left, hx]
    have e2 : (s.after K k x l').pend = s.pend.eraseIdx k := by simp [Gst.after, hx]
    rw [e1, e2]
    refine ⟨List.Pairwise.sublist (List.eraseIdx_sublist ids k) hnd, by rw [List.length_eraseIdx, List.length_eraseIdx, hlen], fun i hi => (List.eraseIdx_sublist ids k).subset hi, fun i hi hij => ?_, fun hj => ?_, fun h => absurd hx h, fun a i l ha hla => ?_⟩
    · obtain ⟨a, ha⟩ := List.mem_iff_getElem?.1 hi
      exact List.mem_eraseIdx_iff_getElem?.2 ⟨a, fun e => hij (by subst e; rw [hk] at ha; exact (Option.some.inj ha).symm), ha⟩
    · obtain ⟨a, ha, haj⟩ := List.mem_eraseIdx_iff_getElem?.1 hj
      exact absurd (inj a haj) ha
    · rw [List.getElem?_eraseIdx] at ha hla
      refine .inr ?_
      split at ha
      · next hak =>
        rw [if_pos hak] at hla
        exact ⟨fun e => by subst e; have := inj a ha; omega, a, ha, hla⟩
      · next hak =>
        rw [if_neg hak] at hla
        exact ⟨fun e => by subst e; have := inj (a + 1) ha; omega, a + 1, ha, hla⟩
  · have e1 : Left K ids k x = ids := by simp [Left, hx]
    have e2 : (s.after K k x l').pend = s.pend.set k l' := by simp [Gst.after, hx]
    rw [e1, e2]
    refine ⟨hnd, by simp [hlen], fun _ h => h, fun _ h _ => h, fun _ => hx, fun _ => List.mem_of_getElem? hk, fun a i l ha hla => ?_⟩
    by_cases hak : a = k
    · subst hak
      rw [List.getElem?_set_self hkp] at hla
      rw [hk] at ha
      exact .inl ⟨(Option.some.inj ha).symm, hx, (Option.some.inj hla).symm⟩
    · rw [List.getElem?_set_ne (fun e => hak e.symm)] at hla
      exact .inr ⟨fun e => by subst e; exact hak (inj a ha), a, ha, hla⟩
theorem said_next {x : UInt8} {l' : List UInt8} (h : Said K (x :: l')) (hx : x ≠ K.done) : Said K l' := by
  obtain ⟨m, h1, h2⟩ := h
  cases m with
  | nil => simp at h1; exact absurd h1.1 hx
  | cons y m =>
    simp only [List.cons_append, List.cons.injEq] at h1
    exact ⟨m, h1.2, fun hm => h2 (List.mem_cons_of_mem _ hm)⟩
/-- A word is passed on. -/
theorem MInv.meet (h : MInv P K Stop W H gs w s ids F S vs m0 ms t) {k j n r : Nat} {x : UInt8} {l' : List UInt8} {gs' : Array Goroutine} {g0' gj' : Goroutine} {tr trj : Tr} (d : Nat) (hk : ids[k]? = some j) (hl : s.pend[k]? = some (x :: l'))
    (hsz : gs'.size = gs.size) (h0 : gs'[0]? = some g0') (hj : gs'[j]? = some gj') (ho : ∀ n, n ≠ 0 → n ≠ j → gs'[n]? = gs[n]?) (hch : w.heap[s.c]? = some (.chan 0 #[] false r r false))
    (hm : MainAt P K Stop (s.after K k x l') (.live tr true) g0' (saying ((vs 0).at d) (s.after K k x l').enc))
    (hw : x ≠ K.done → WorkAt P K s.c l' (.live trj true) gj' (saying ((vs j).at d) #[enc1 l'])) (hq : x = K.done → QuitsD P n 0 gj') (fh : FuncId) (ph : String) (fj : FuncId) (pj : String) :
    MInv P K Stop W H gs' ((w.at d).setChan s.c 0 #[] false (r + 1) (r + 1) false) (s.after K k x l') (Left K ids k x) F S
      (fun i => if i = 0 then saying ((vs 0).at d) (s.after K k x l').enc else if i = j then saying ((vs j).at d) #[enc1 l'] else (vs i).at d) (.live tr true) (ms.set j (if x = K.done then .quits n else .live trj true))
      (t ++ Go.Conc.met j 0 fh ph fj pj s.c r 0) := by
  have hpe : s.pend ≠ [] := fun e => by rw [e] at hl; simp at hl
  have hji : j ∈ ids := List.mem_of_getElem? hk
  have hjs := h.inside j hji
  have hcb : s.c < w.heap.size := (Array.getElem?_eq_some_iff.1 hch).1
  obtain ⟨f1, f2, f3, f4, f5, f6, f7⟩ := left_facts (K := K) h.nodup h.pend hk hl
  have hLL : ∀ i, Liv (Left K ids k x) i → Liv ids i := fun i hi => hi.imp id (f3 i)
  have hsame : ∀ b, b ≠ s.c → ((w.at d).setChan s.c 0 #[] false (r + 1) (r + 1) false).heap[b]? = w.heap[b]? := fun b hb => by
    show (w.heap.setIfInBounds s.c _)[b]? = _
    rw [Array.getElem?_setIfInBounds_ne (fun e => hb e.symm)]
  have hwsz : ((w.at d).setChan s.c 0 #[] false (r + 1) (r + 1) false).heap.size = w.heap.size := by
    show (w.heap.setIfInBounds s.c _).size = _
    simp
  have hdeaf : ∀ i, Deaf (t ++ Go.Conc.met j 0 fh ph fj pj s.c r 0) i = Deaf t i := fun i => Deaf_quiet (met_quiet j 0 fh ph fj pj s.c r 0 i)
  have hview : ∀ i, Liv ids i → Hid (F i) (S i) ((w.at d).setChan s.c 0 #[] false (r + 1) (r + 1) false) ((vs i).at d) := fun i hi => h.spoke hpe (r + 1) d hi
  refine ⟨by simp [h.len, hsz], f1, fun i hi => by rw [hsz]; exact h.inside i (f3 i hi), f2, fun i hi => ?_, ⟨g0', h0, by simpa using hm⟩, fun a i l ha hla => ?_, fun i y hi hn hy => ?_, fun i hi => ?_, ?_, ?_, fun _ => ⟨⟨r + 1, ?_⟩, fun i hi => (h.chan hpe).2 i (hLL i hi)⟩, ?_, ?_, fun tr' htr => (by cases htr), ((h.based.drew d).chan (h.high hpe) _ _ _ _ _ _).sub hLL, fun _ => h.high hpe⟩
  · by_cases e0 : i = 0
    · subst e0; simpa using (hview 0 (.inl rfl)).saying _
    · by_cases e1 : i = j
      · subst e1; simpa [e0] using (hview i (.inr hji)).saying _
      · simpa [e0, e1] using hview i (hLL i hi)
  · have hc' : (s.after K k x l').c = s.c := rfl
    rw [hc']
    rcases f7 a i l ha hla with ⟨rfl, hx, rfl⟩ | ⟨hij, a', ha', hla'⟩
    · obtain ⟨hsd, _⟩ := h.work k i _ hk hl
      have e0 : i ≠ 0 := by omega
      refine ⟨said_next hsd hx, gj', .live trj true, hj, ?_, by simpa [e0] using hw hx⟩
      rw [List.getElem?_set_self (by rw [h.len]; exact hjs.2)]
      simp [hx]
    · obtain ⟨h1, y, m1, h2, h3, h4⟩ := h.work a' i l ha' hla'
      have e0 : i ≠ 0 := by have := (h.inside i (List.mem_of_getElem? ha')).1; omega
      refine ⟨h1, y, m1, by rw [ho i e0 hij]; exact h2, by rw [List.getElem?_set_ne (fun e => hij e.symm)]; exact h3, ?_⟩
      simp only [e0, hij, if_false]
      exact h4.rely (.drew ..)
  · by_cases e1 : i = j
    · subst e1
      have hx : x = K.done := by
        by_cases hx : x = K.done
        · exact hx
        · exact absurd (f6 hx) hn
      rw [hj] at hy
      cases hy
      refine ⟨n, ?_, ?_⟩
      · rw [List.getElem?_set_self (by rw [h.len]; exact hjs.2)]
        simp [hx]
      · rw [hdeaf, h.law.hears i (.inr hji)]
        exact hq hx
    · have hn' : i ∉ ids := fun hi' => hn (f4 i hi' e1)
      rw [ho i (by omega) e1] at hy
      obtain ⟨n', h1, h2⟩ := h.old i y hi hn' hy
      exact ⟨n', by rw [List.getElem?_set_ne (fun e => e1 e.symm)]; exact h1, by rw [hdeaf]; exact h2⟩
  · rw [hdeaf]; exact h.above i (by rw [← hsz]; exact hi)
  · rw [hwsz]
    exact fun a b ha hb => h.apt a b (hLL a ha) (hLL b hb)
  · rw [hwsz]
    exact h.law.met (.inl rfl) (.inr hji) hLL (fun i hi hij => hi.imp id fun y => f4 i y hij) fh ph fj pj r 0 hcb
  · show (w.heap.setIfInBounds s.c _)[s.c]? = _
    rw [Array.getElem?_setIfInBounds_self_of_lt hcb]
  · exact h.lent
  · intro b hb
    obtain ⟨h1, cs, tt, h2⟩ := h.soft b hb
    exact ⟨h1, cs, tt, by rw [hsame b (fun e => by subst e; exact h1 ((h.chan hpe).2 0 (.inl rfl)))]; exact h2⟩
end
end Go.Proofs.YtofkhehcnfiopaaDoor.N
namespace Go.Proofs.YtofkhehcnfiopaaDoor.N
open Go Go.RowKit Go.Conc
set_option autoImplicit false
set_option linter.unusedSectionVars false

section
variable (P : Program) (K : Prot) (Stop : Goroutine → World → Prop) (W : World) (H : Nat → Prop)
def MM (μ : Mt × List Mt) (m : Machine) (t : Trace) : Prop :=
  ∃ (gs : Array Goroutine) (w : World) (sl : Option (Nat × Nat)) (s : Gst) (ids : List Nat) (F S : Nat → Nat → Prop) (vs : Nat → World), m = crowd gs w sl ∧ MInv P K Stop W H gs w s ids F S vs μ.1 μ.2 t
/-- The machine goes on, and comes nearer. -/
def Nx (μ : Mt × List Mt) (r : Stepped × Array MemOp) (t : Trace) : Prop :=
  ∃ (m' : Machine) (ops : Array MemOp) (μ' : Mt × List Mt), r = (.next m', ops) ∧ Prod.Lex Mt.Lt Ls μ' μ ∧ MM P K Stop W H μ' m' (t ++ ops)
end
theorem muWf : WellFounded (Prod.Lex Mt.Lt Ls) := ⟨fun ⟨a, b⟩ => Prod.lexAccessible (Mt.acc a) Ls.acc b⟩
section
variable {P : Program} {K : Prot} {W : World} {H : Nat → Prop} {Stop : Goroutine → World → Prop} {s : Gst} {m m0 m' : Mt} {ms : List Mt} {g g' ch : Goroutine} {v v' w w' : World} {c i : Nat} {l : List UInt8} {sl : Option (Nat × Nat)} {gs : Array Goroutine} {ids : List Nat} {F S : Nat → Nat → Prop} {vs : Nat → World} {t : Trace} {es : Array Event}
theorem leaver_moves (h : MInv P K Stop W H gs w s ids F S vs m0 ms t) (hS : ∀ g v, Stop g v → g.status = .running) (hi0 : 0 < i) (hi : i ∉ ids) (hg : gs[i]? = some g) (hr : g.status = .running) : Nx P K Stop W H (m0, ms) (runT P (crowd gs w sl) i) t := by
  obtain ⟨n, hms, hq⟩ := h.old i g hi0 hi hg
  have hib : (i == 0) = false := by simp; omega
  cases n with
  | zero => rw [hq.1] at hr; cases hr
  | succ n =>
    rcases hq with ⟨hf, _⟩ | ⟨_, g', es, hm, hstp, hq'⟩
    · rw [hf] at hr; cases hr
    exact ⟨_, _, (m0, ms.set i (.quits n)), runT_crowd_go hg (by rw [hib]; exact hstp w), .right _ (Ls.set hms (.quits (Nat.lt_succ_self n))), _, w, sl, s, ids, F, S, vs, rfl, h.left hS hi0 hi hg hm hq'⟩
/-- Who waits to receive: nobody but goroutine 0. -/
theorem MInv.recvs (h : MInv P K Stop W H gs w s ids F S vs m0 ms t) (hS : ∀ g v, Stop g v → g.status = .running) {j k : Nat} (hp : (j, k) ∈ partners (gs.setIfInBounds i ph) c false) :
    j ≠ i ∧ j = 0 ∧ k = 0 ∧ ∃ tr0 g2, m0 = .live tr0 false ∧ gs[0]? = some (parked g2 #[rcase s.c K.zr] (.recv false)) := by
  obtain ⟨x, hx, hk⟩ := mem_partners.1 hp
  by_cases e : i = j
  · subst e
    have hlt : i < gs.size := by simpa using (Array.getElem?_eq_some_iff.1 hx).1
    rw [Array.getElem?_setIfInBounds_self_of_lt hlt] at hx
    cases hx
    rw [offersAt_ph] at hk
    cases hk
  · rw [Array.getElem?_setIfInBounds_ne e] at hx
    by_cases e0 : j = 0
    · subst e0
      obtain ⟨a, h1, h2⟩ := h.main
      rw [hx] at h1
      cases h1
      obtain ⟨_, ⟨tr, _, h3⟩ | ⟨tr0, g2, h3, _, rfl, _⟩⟩ := h2
      · rw [offersAt_of_not_blocked (by rw [mrun hS h3]; simp)] at hk
        cases hk
      · refine ⟨fun x => e x.symm, rfl, ?_, tr0, g2, h3, hx⟩
        rw [offersAt_parked_recv] at hk
        split at hk
        · simpa using hk
        · cases hk
    · by_cases e1 : j ∈ ids
      · obtain ⟨a, l, ha, hl⟩ := mem_pend h e1
        obtain ⟨h1, y, m1, h2, _, h4⟩ := h.work a j l ha hl
        rw [hx] at h2
        cases h2
        obtain ⟨h0, ⟨tr, _, h3⟩ | ⟨tr0, g2, x', l', _, _, rfl, _⟩⟩ := h4
        · rw [offersAt_of_not_blocked (by rw [wrun h1 h0 h3]; simp)] at hk
          cases hk
        · rw [offersAt_parked_send'] at hk
          cases hk
      · obtain ⟨n, _, h2⟩ := h.old j x (by omega) e1 hx
        rw [offersAt_of_not_blocked (by rcases h2.status with y | y <;> rw [y] <;> simp)] at hk
        cases hk
/-- Who waits to send: workers. -/
theorem MInv.sends (h : MInv P K Stop W H gs w s ids F S vs m0 ms t) (hS : ∀ g v, Stop g v → g.status = .running) {j k : Nat} (hp : (j, k) ∈ partners (gs.setIfInBounds i ph) c true) :
    j ≠ i ∧ j ∈ ids ∧ k = 0 ∧ ∃ (a : Nat) (x : UInt8) (l' : List UInt8) (tr0 : Tr) (g2 : Goroutine), ids[a]? = some j ∧ s.pend[a]? = some (x :: l') ∧ ms[j]? = some (.live tr0 false) ∧ gs[j]? = some (parked g2 #[scase s.c (K.msg x) K.z] .send) := by
  obtain ⟨x, hx, hk⟩ := mem_partners.1 hp
  by_cases e : i = j
  · subst e
    have hlt : i < gs.size := by simpa using (Array.getElem?_eq_some_iff.1 hx).1
    rw [Array.getElem?_setIfInBounds_self_of_lt hlt] at hx
    cases hx
    rw [offersAt_ph] at hk
    cases hk
  · rw [Array.getElem?_setIfInBounds_ne e] at hx
    by_cases e0 : j = 0
    · subst e0
      obtain ⟨a, h1, h2⟩ := h.main
      rw [hx] at h1
      cases h1
      obtain ⟨_, ⟨tr, _, h3⟩ | ⟨tr0, g2, h3, _, rfl, _⟩⟩ := h2
      · rw [offersAt_of_not_blocked (by rw [mrun hS h3]; simp)] at hk
        cases hk
      · rw [offersAt_parked_recv'] at hk
        cases hk
    · by_cases e1 : j ∈ ids
      · obtain ⟨a, l, ha, hl⟩ := mem_pend h e1
        obtain ⟨h1, y, m1, h2, hms, h4⟩ := h.work a j l ha hl
        rw [hx] at h2
        cases h2
        obtain ⟨h0, ⟨tr, _, h3⟩ | ⟨tr0, g2, x', l', h5, rfl, rfl, _⟩⟩ := h4
        · rw [offersAt_of_not_blocked (by rw [wrun h1 h0 h3]; simp)] at hk
          cases hk
        · refine ⟨fun x => e x.symm, e1, ?_, a, x', l', tr0, g2, ha, hl, by rw [hms, h5], hx⟩
          rw [offersAt_parked_send] at hk
          split at hk
          · simpa using hk
          · cases hk
      · obtain ⟨n, _, h2⟩ := h.old j x (by omega) e1 hx
        rw [offersAt_of_not_blocked (by rcases h2.status with y | y <;> rw [y] <;> simp)] at hk
        cases hk
end
end Go.Proofs.YtofkhehcnfiopaaDoor.N
namespace Go.Proofs.YtofkhehcnfiopaaDoor.N
open Go Go.RowKit Go.Conc
set_option autoImplicit false
set_option linter.unusedSectionVars false

section
variable {P : Program} {K : Prot} {W : World} {H : Nat → Prop} {Stop : Goroutine → World → Prop} {s : Gst} {m m0 m' : Mt} {ms : List Mt} {g g' ch : Goroutine} {v v' w w' : World} {c i : Nat} {l : List UInt8} {sl : Option (Nat × Nat)} {gs : Array Goroutine} {ids : List Nat} {F S : Nat → Nat → Prop} {vs : Nat → World} {t : Trace} {es : Array Event}
theorem worker_moves (h : MInv P K Stop W H gs w s ids F S vs m0 ms t) (hS : ∀ g v, Stop g v → g.status = .running) (hi : i ∈ ids) (hg : gs[i]? = some g) (hr : g.status = .running) : Nx P K Stop W H (m0, ms) (runT P (crowd gs w sl) i) t := by
  obtain ⟨k, l, hk, hl⟩ := mem_pend h hi
  obtain ⟨h1, g1, m1, h2, hms, h4⟩ := h.work k i l hk hl
  rw [hg] at h2
  cases h2
  have hin := h.inside i hi
  have hi0 : i ≠ 0 := by omega
  have hib : (i == 0) = false := by simp; omega
  have hLi : Liv ids i := .inr hi
  have hpe : s.pend ≠ [] := fun e => by rw [e] at hl; simp at hl
  obtain ⟨⟨r, hch⟩, _⟩ := h.chan hpe
  have huniq : ∀ (k' : Nat) (l' : List UInt8), ids[k']? = some i → s.pend[k']? = some l' → l' = l := fun k' l' hk' hl' => by
    have e : k' = k := (List.getElem?_inj (List.getElem?_eq_some_iff.1 hk').1 h.nodup).1 (hk'.trans hk.symm)
    subst e
    rw [hl] at hl'
    exact (Option.some.inj hl').symm
  obtain ⟨h0, ⟨tr, rfl, hT⟩ | ⟨_, g2, _, _, _, _, rfl, _⟩⟩ := h4
  · cases hT with
    | stop hs =>
      have h5 : (vs i).output = #[enc1 []] := hs (vs i) (Rl.refl _)
      rw [h0] at h5
      have h6 : l = [] := enc1_inj (by simpa using h5)
      obtain ⟨x, h7, _⟩ := h1
      rw [h6] at h7
      simp at h7
    | @step f _ _ _ nx hstp hk' =>
      have hh := hstp (vs i) (Rl.refl _)
      obtain ⟨w', hst, hv, hkp, hev⟩ := hh.real (F i) (S i) w (h.hid i hLi)
      have hT' := hk' (vs i) (Rl.refl _)
      have hout : (nx (vs i)).2.1.output = #[enc1 l] := (hh.out (F i) (S i) w (h.hid i hLi)).trans h0
      have hown := h.own hS (tr := f (vs i, (nx (vs i)).1, (nx (vs i)).2.1)) hLi hg hkp hv (by rw [← hv.size]; exact hev) (fun e => absurd e hi0) (fun _ k' l' hk1 hl1 => by
        rw [huniq k' l' hk1 hl1]
        exact ⟨hout, .inl ⟨_, rfl, hT'⟩⟩)
      simp only [hi0, if_false] at hown
      exact ⟨_, _, (m0, ms.set i (.live (f (vs i, (nx (vs i)).1, (nx (vs i)).2.1)) true)), runT_crowd_go hg (by rw [hib]; exact hst), .right _ (Ls.set hms (.tree ⟨_, rfl⟩)), _, w', sl, s, ids, _, _, _, rfl, hown⟩
    | @sync f _ _ nx hsy hk' =>
      obtain ⟨_, x, l0, hout, hstp, hquit, hnx⟩ := hsy (vs i) (Rl.refl _)
      have hll : l = x :: l0 := enc1_inj (by rw [h0] at hout; simpa using hout)
      subst hll
      obtain ⟨es, hst, hev⟩ := hstp (F i) (S i) w (h.hid i hLi)
      have hst' : stepG P (i == 0) g w = .comm g #[scase s.c (K.msg x) K.z] true .send w es := by rw [hib]; exact hst
      by_cases hp : partners (gs.setIfInBounds i ph) s.c false = []
      · -- it waits
        have hrun := crowd_waits (sl := sl) hg hst' (fun cc hcc => by
          have : cc = scase s.c (K.msg x) K.z := by simpa using hcc
          subst this
          exact ways_send_none hch (by simp) hp)
        have hnp : ∀ tr, m0 ≠ .live tr false := fun tr e => by
          obtain ⟨a, ha1, ha2⟩ := h.main
          subst e
          obtain ⟨_, ⟨_, x, _⟩ | ⟨tr0, g2, _, _, rfl, _⟩⟩ := ha2
          · cases x
          · have : (0, 0) ∈ partners (gs.setIfInBounds i ph) s.c false := mem_partners.2 ⟨_, by rw [Array.getElem?_setIfInBounds_ne hi0]; exact ha1, by rw [offersAt_parked_recv]; simp⟩
            rw [hp] at this
            cases this
        have hpk := h.park (g' := parked g #[scase s.c (K.msg x) K.z] .send) (tr := .node f) hLi hg hev (fun e => absurd e hi0) (fun _ k' l' hk1 hl1 => by
          rw [huniq k' l' hk1 hl1]
          refine ⟨h0, .inr ⟨.node f, g, x, l0, rfl, rfl, rfl, hquit, fun v₁ hv => ?_⟩⟩
          obtain ⟨_, x', l1, hout', _, _, hnx'⟩ := hsy v₁ hv
          have e2 : x :: l0 = x' :: l1 := enc1_inj (by rw [hv.output, h0] at hout'; simpa using hout')
          cases e2
          exact ⟨_, ⟨_, rfl⟩, hk' v₁ hv _ _ hnx'⟩) (fun e => absurd e hi0) (fun _ => hnp)
        simp only [hi0, if_false] at hpk
        exact ⟨_, _, (m0, ms.set i (.live (.node f) false)), hrun, .right _ (Ls.set hms .park), _, w, sl, s, ids, F, S, vs, rfl, hpk⟩
      · have hsd := crowd_send_meets_some (sl := sl) hg hst' hch hp (fun j k' hjk => by
          obtain ⟨e1, rfl, rfl, tr0, g2, _, h6⟩ := h.recvs hS hjk
          exact ⟨rfl, e1, g2, _, _, h6⟩)
        obtain ⟨j, gj, zj, shj, d, hji, hgj, hrun⟩ := hsd
        have hjp : (j, 0) ∈ partners (gs.setIfInBounds i ph) s.c false := mem_partners.2 ⟨_, by rw [Array.getElem?_setIfInBounds_ne (fun e => hji e.symm)]; exact hgj, by rw [offersAt_parked_recv]; simp⟩
        obtain ⟨_, rfl, _, _⟩ := h.recvs hS hjp
        obtain ⟨a, ha1, hao, ha2⟩ := h.main
        rw [hgj] at ha1
        cases ha1
        obtain ⟨tr1, _, hT1⟩ | ⟨tr0, g2, rfl, _, heq, hmn⟩ := ha2
        · have := mrun hS hT1
          cases this
        · have hsh : shj = .recv false := by
            have := congrArg Goroutine.offers heq
            simp only [parked, Option.some.injEq, Prod.mk.injEq] at this
            exact this.2
          subst hsh
          have hfr : gj.finishComm P #[rcase s.c zj] (.recv false) 0 (K.msg x) true = Go.Conc.served g2 (K.msg x) := by
            rw [finishComm_recv]
            have e1 := congrArg Goroutine.frame heq
            have e2 : Go.Conc.served gj (recvd false (K.msg x) true) = Go.Conc.served (parked gj #[rcase s.c zj] (.recv false)) (K.msg x) := rfl
            rw [e2, heq]
            rfl
          obtain ⟨trm, htm, hTm⟩ := hmn ((vs 0).at d) (.drew ..) k x l0 hl
          have hwk := hk' ((vs i).at d) (.drew ..)
          obtain ⟨_, x', l1, hout', _, _, hnx'⟩ := hsy ((vs i).at d) (.drew ..)
          have e2 : x :: l0 = x' :: l1 := enc1_inj (by
            have : ((vs i).at d).output = (vs i).output := rfl
            rw [this, h0] at hout'
            simpa using hout')
          cases e2
          have hlt0 : 0 < gs.size := by omega
          have hq2 : ∃ n, x = K.done → QuitsD P n 0 (Go.Conc.served g undef) := by
            by_cases e : x = K.done
            · obtain ⟨n, hn⟩ := hquit e
              exact ⟨n, fun _ => hn⟩
            · exact ⟨0, fun e' => absurd e' e⟩
          obtain ⟨n, hq2⟩ := hq2
          have hmt := (h.says hLi (fn := g.frame.fn) (pos := g.frame.place) hev).meet (n := n) (gs' := (gs.setIfInBounds 0 (Go.Conc.served g2 (K.msg x))).setIfInBounds i (Go.Conc.served g undef)) (tr := trm) d hk hl (by simp)
            (by rw [Array.getElem?_setIfInBounds_ne hi0]; exact Array.getElem?_setIfInBounds_self_of_lt hlt0) (Array.getElem?_setIfInBounds_self_of_lt (by simpa using hin.2))
            (fun q hq0 hqi => by rw [Array.getElem?_setIfInBounds_ne (fun e => hqi e.symm), Array.getElem?_setIfInBounds_ne (fun e => hq0 e.symm)]) hch ⟨rfl, .inl ⟨trm, rfl, hTm⟩⟩ (fun _ => ⟨rfl, .inl ⟨_, rfl, hwk _ _ hnx'⟩⟩) hq2 g.frame.fn g.frame.place gj.frame.fn gj.frame.place
          rw [Array.append_assoc] at hmt
          rw [hfr] at hrun
          exact ⟨_, _, (.live trm true, _), hrun, .left _ _ (.tree htm), _, _, sl, _, _, F, S, _, rfl, hmt⟩
  · cases hr
end
end Go.Proofs.YtofkhehcnfiopaaDoor.N
namespace Go.Proofs.YtofkhehcnfiopaaDoor.N
open Go Go.RowKit Go.Conc
set_option autoImplicit false
set_option linter.unusedSectionVars false

section
variable (P : Program) (K : Prot) (Stop : Goroutine → World → Prop) (W : World) (H : Nat → Prop)
/-- The machine goes on, and comes nearer by one or more. -/
def Nxs (μ : Mt × List Mt) (r : Stepped × Array MemOp) (t : Trace) : Prop :=
  ∃ (m' : Machine) (ops : Array MemOp) (μ' : Mt × List Mt), r = (.next m', ops) ∧ Relation.TransGen (Prod.Lex Mt.Lt Ls) μ' μ ∧ MM P K Stop W H μ' m' (t ++ ops)
end
section
variable {P : Program} {K : Prot} {W : World} {H : Nat → Prop} {Stop : Goroutine → World → Prop} {w w' : World} {sl : Option (Nat × Nat)} {gs : Array Goroutine} {t : Trace}
theorem Nx.many {μ : Mt × List Mt} {r : Stepped × Array MemOp} (h : Nx P K Stop W H μ r t) : Nxs P K Stop W H μ r t := by
  obtain ⟨m', ops, μ', h1, h2, h3⟩ := h
  exact ⟨m', ops, μ', h1, .single h2, h3⟩
theorem rl_saying {v v₁ : World} (h : Rl v v₁) (o : Array (Nat × ByteArray)) : Rl (saying v o) (saying v₁ o) := ⟨h.os, h.tape, rfl, h.size, h.block⟩
/-- The receiver moves, or stands at its stop. -/
theorem main_moves (hS : ∀ g v, Stop g v → g.status = .running) (hKW : K.low = W.heap.size) {g : Goroutine} (hg : gs[0]? = some g) (_hr : g.status = .running) : ∀ (tr : Tr) (s : Gst) (ids : List Nat) (F S : Nat → Nat → Prop) (vs : Nat → World) (ms : List Mt), MInv P K Stop W H gs w s ids F S vs (.live tr true) ms t →
    (∃ s ids F S vs m0 ms, MInv P K Stop W H gs w s ids F S vs m0 ms t ∧ Stop g (vs 0) ∧ (vs 0).output = s.enc) ∨ Nxs P K Stop W H (.live tr true, ms) (runT P (crowd gs w sl) 0) t := by
  intro tr
  induction Tr.acc tr with
  | intro tr _ ih =>
    intro s ids F S vs ms h
    obtain ⟨a, ha1, hao, ha2⟩ := h.main
    rw [hg] at ha1
    cases ha1
    obtain ⟨tr', he, hT⟩ | ⟨_, _, he, _⟩ := ha2
    · cases he
      have h00 : Liv ids 0 := .inl rfl
      cases hT with
      | stop hs => exact .inl ⟨s, ids, F, S, vs, _, ms, h, hs _ (Rl.refl _), hao⟩
      | @step f _ _ _ nx hstp hk' =>
        have hh := hstp (vs 0) (Rl.refl _)
        obtain ⟨w', hst, hv, hkp, hev⟩ := hh.real (F 0) (S 0) w (h.hid 0 h00)
        have hT' := hk' (vs 0) (Rl.refl _)
        have hout := (hh.out (F 0) (S 0) w (h.hid 0 h00)).trans hao
        have hown := h.own hS (tr := f (vs 0, (nx (vs 0)).1, (nx (vs 0)).2.1)) h00 hg hkp hv (by rw [← hv.size]; exact hev) (fun _ => ⟨hout, .inl ⟨_, rfl, hT'⟩⟩) (fun e => absurd rfl e)
        simp only [if_true] at hown
        exact .inr ⟨_, _, (.live (f (vs 0, (nx (vs 0)).1, (nx (vs 0)).2.1)) true, ms), runT_crowd_go hg hst, .single (.left _ _ (.tree ⟨_, rfl⟩)), _, w', sl, s, ids, _, _, _, rfl, hown⟩
      | @sync f _ _ nx hsy hk' =>
        rcases hsy (vs 0) (Rl.refl _) with ⟨_, s', hout, hpe, hstp, hnx⟩ | ⟨_, s', c, l, l2, g', ch, hout, hc, hlo, hcs, hgv, hun, hsd, hgr, hstp, hwk, hnx⟩ | ⟨_, s', hout, hpe, hnx⟩
        · have e : s' = s := Gst.enc_inj (hout.symm.trans hao)
          subst e
          obtain ⟨es, hst, hev⟩ := hstp (F 0) (S 0) w (h.hid 0 h00)
          have hst' : stepG P ((0 : Nat) == 0) g w = .comm g #[rcase s'.c K.zr] true (.recv false) w es := hst
          obtain ⟨⟨r, hch⟩, _⟩ := h.chan hpe
          by_cases hp : partners (gs.setIfInBounds 0 ph) s'.c true = []
          · -- it waits
            have hrun := crowd_waits (sl := sl) hg hst' (fun cc hcc => by
              have : cc = rcase s'.c K.zr := by simpa using hcc
              subst this
              exact ways_recv_none hch hp)
            have hpk := h.park (g' := parked g #[rcase s'.c K.zr] (.recv false)) (tr := .node f) h00 hg hev
              (fun _ => ⟨hao, .inr ⟨.node f, g, rfl, hpe, rfl, fun v₁ hv i x l hl => ⟨_, ⟨_, rfl⟩, (hk' (vs 0) (Rl.refl _) _ _ (hnx i x l hl)).rely (rl_saying hv _)⟩⟩⟩) (fun e => absurd rfl e)
              (fun _ j hj => by
                obtain ⟨k, l, hk, hl⟩ := mem_pend h hj
                obtain ⟨h1, y, m1, h2, h3, h4⟩ := h.work k j l hk hl
                obtain ⟨_, ⟨tr1, rfl, _⟩ | ⟨tr0, g2, x', l1, _, _, rfl, _⟩⟩ := h4
                · exact ⟨tr1, h3⟩
                · have hj0 : (0 : Nat) ≠ j := by have := h.inside j hj; omega
                  have : (j, 0) ∈ partners (gs.setIfInBounds 0 ph) s'.c true := mem_partners.2 ⟨_, by rw [Array.getElem?_setIfInBounds_ne hj0]; exact h2, by rw [offersAt_parked_send]; simp⟩
                  rw [hp] at this
                  cases this) (fun e => absurd rfl e)
            simp only [if_true] at hpk
            exact .inr ⟨_, _, (.live (.node f) false, ms), hrun, .single (.left _ _ .park), _, w, sl, s', ids, F, S, vs, rfl, hpk⟩
          · obtain ⟨j, gj, vj, zj, shj, d, hj0, hgj, hrun⟩ := crowd_recv_meets_some (sl := sl) hg hst' hch hp (fun j k hjk => by
              obtain ⟨e1, hji, rfl, a, x, l', tr0, g2, _, _, _, h6⟩ := h.sends hS hjk
              exact ⟨rfl, e1, g2, _, _, _, h6⟩)
            have hjp : (j, 0) ∈ partners (gs.setIfInBounds 0 ph) s'.c true := mem_partners.2 ⟨_, by rw [Array.getElem?_setIfInBounds_ne (fun e => hj0 e.symm)]; exact hgj, by rw [offersAt_parked_send]; simp⟩
            obtain ⟨_, hji, _, a, x, l', tr0, g2, ha, hl, hms, _⟩ := h.sends hS hjp
            obtain ⟨_, gj1, m1, hgj1, hms1, hwk⟩ := h.work a j _ ha hl
            rw [hgj] at hgj1
            cases hgj1
            rw [hms] at hms1
            cases hms1
            obtain ⟨_, ⟨_, e1, _⟩ | ⟨tr1, g3, x', l1, e1, e2, e3, hquit, hnxw⟩⟩ := hwk
            · cases e1
            · cases e1
              cases e2
              have e4 := congrArg Goroutine.offers e3
              simp only [parked, scase, Option.some.injEq, Prod.mk.injEq, Array.mk.injEq, List.cons.injEq, CommCase.mk.injEq] at e4
              obtain ⟨⟨⟨_, hvj, _⟩, _⟩, rfl⟩ := e4
              have hvj' : vj = K.msg x := by simpa using hvj
              subst hvj'
              have hfj : gj.finishComm P #[scase s'.c (K.msg x) zj] .send 0 undef false = Go.Conc.served g3 undef := by
                rw [finishComm_send]
                have e5 : Go.Conc.served gj undef = Go.Conc.served (parked gj #[scase s'.c (K.msg x) zj] .send) undef := rfl
                rw [e5, e3]
                rfl
              have hfr : g.finishComm P #[rcase s'.c K.zr] (.recv false) 0 (K.msg x) true = Go.Conc.served g (K.msg x) := by
                rw [finishComm_recv]
                rfl
              obtain ⟨trw, _, hTw⟩ := hnxw ((vs j).at d) (.drew ..)
              have hjs := h.inside j hji
              have hlt0 : 0 < gs.size := by omega
              have hq2 : ∃ n, x = K.done → QuitsD P n 0 (Go.Conc.served g3 undef) := by
                by_cases e : x = K.done
                · obtain ⟨n, hn⟩ := hquit e
                  exact ⟨n, fun _ => hn⟩
                · exact ⟨0, fun e' => absurd e' e⟩
              obtain ⟨n, hq2⟩ := hq2
              have hT0 := (hk' (vs 0) (Rl.refl _) _ _ (hnx a x l' hl)).rely (rl_saying (Rl.drew (vs 0) d) _)
              have hmt := (h.says h00 (fn := g.frame.fn) (pos := g.frame.place) hev).meet (n := n) (gs' := (gs.setIfInBounds j (Go.Conc.served g3 undef)).setIfInBounds 0 (Go.Conc.served g (K.msg x))) (tr := f (vs 0, Go.Conc.served g (K.msg x), saying (vs 0) (s'.after K a x l').enc)) (trj := trw) d ha hl (by simp)
                (Array.getElem?_setIfInBounds_self_of_lt (by simpa using hlt0)) (by rw [Array.getElem?_setIfInBounds_ne (fun e => hj0 e.symm)]; exact Array.getElem?_setIfInBounds_self_of_lt hjs.2)
                (fun q hq0 hqj => by rw [Array.getElem?_setIfInBounds_ne (fun e => hq0 e.symm), Array.getElem?_setIfInBounds_ne (fun e => hqj e.symm)]) hch ⟨rfl, .inl ⟨_, rfl, hT0⟩⟩ (fun _ => ⟨rfl, .inl ⟨_, rfl, hTw⟩⟩) hq2 gj.frame.fn gj.frame.place g.frame.fn g.frame.place
              rw [Array.append_assoc] at hmt
              rw [hfj, hfr] at hrun
              exact .inr ⟨_, _, (.live _ true, _), hrun, .single (.left _ _ (.tree ⟨_, rfl⟩)), _, _, sl, _, _, F, S, _, rfl, hmt⟩
        · have e : s' = s := Gst.enc_inj (hout.symm.trans hao)
          subst e
          obtain ⟨es, hst, hev⟩ := hstp (F 0) (S 0) w (h.hid 0 h00)
          obtain ⟨trc, hTc⟩ := gs_tree hwk
          have hh := h.hire (tr := f (vs 0, g', saying (hideB c (chill l2 (vs 0))) (Gst.enc ⟨c, s'.sl ++ l2, s'.pend ++ [l]⟩))) hg (by rw [← hKW]; exact hlo) hc hcs hgv hun hsd hev ⟨rfl, .inl ⟨_, rfl, hk' _ (Rl.refl _) _ _ hnx⟩⟩ hTc ch.frame.fn
          have ee : ∀ (X : Array MemOp) (p q : MemOp), (t ++ X) ++ #[p, q] = t ++ (X.push p).push q := fun X p q => by apply Array.ext'; simp
          rw [ee] at hh
          exact .inr ⟨_, _, (.live (f (vs 0, g', saying (hideB c (chill l2 (vs 0))) (Gst.enc ⟨c, s'.sl ++ l2, s'.pend ++ [l]⟩))) true, ms ++ [.live trc true]), runT_crowd_spawn hg hst, .single (.left _ _ (.tree ⟨_, rfl⟩)), _, w, sl, _, _, _, _, _, rfl, hh⟩
        · have e : s' = s := Gst.enc_inj (hout.symm.trans hao)
          subst e
          have hh := h.settle hpe hg (tr := f (vs 0, g, saying (thaw s'.sl (vs 0)) (Gst.enc ⟨0, [], []⟩))) ⟨rfl, .inl ⟨_, rfl, hk' _ (Rl.refl _) _ _ hnx⟩⟩
          rcases ih _ ⟨_, rfl⟩ _ _ _ _ _ _ hh with x | ⟨m', ops, μ', h1, h2, h3⟩
          · exact .inl x
          · exact .inr ⟨m', ops, μ', h1, h2.tail (.left _ _ (.tree ⟨_, rfl⟩)), h3⟩
    · cases he
end
end Go.Proofs.YtofkhehcnfiopaaDoor.N
namespace Go.Proofs.YtofkhehcnfiopaaDoor.N
open Go Go.RowKit Go.Conc
set_option autoImplicit false
set_option linter.unusedSectionVars false

/-- Goroutine 0 stands at the step that ends the run; nobody is left who sends. -/
def EndAt (P : Program) (W : World) (H : Nat → Prop) (Post : Value → World → Prop) (g : Goroutine) (v : World) : Prop :=
  g.status = .running ∧ v.output = Gst.enc ⟨0, [], []⟩ ∧ ∀ F w, Hid F (fun _ => False) w v → Bas W H (fun i => i = 0) (fun _ => F) w → ∃ x w' es, stepG P true g w = .ended (.done x) w' es ∧ (∀ e ∈ es, EvOk F (fun _ => False) w.heap.size e) ∧ Post x w'
section
variable {P : Program} {K : Prot} {W : World} {H : Nat → Prop} {Post : Value → World → Prop}
theorem handed_of_pt {F S : Nat → Nat → Prop} {B : Nat} {t : Trace} {L : Nat → Prop} (h : Pt L F S B t) (hL : ∀ g, L g → g = 0) : t.HandedOver := by
  intro i g hg hne hc
  obtain ⟨a, ha, hm, _⟩ := hc
  rcases h.known i a ha hm with ⟨q, z, h1, h2, h3⟩ | ⟨g', h1, h2⟩
  · refine ⟨q, by rw [g?_of h1, h2], ?_⟩
    rcases h3 with rfl | h3
    · rw [g?_of h1, h2] at hg
      exact absurd (Option.some.inj hg).symm hne
    · exact h3
  · rw [hg] at h1
    have := Option.some.inj h1
    rw [hL g' h2] at this
    exact absurd this hne
theorem many_step (hKW : K.low = W.heap.size) (μ : Mt × List Mt) (m : Machine) (t : Trace) (h : MM P K (EndAt P W H Post) W H μ m t) :
    (∃ o w ops, stepT P m = (.ended o w, ops) ∧ Go.Conc.Good P Post m o w (t ++ ops)) ∨ (∃ m' ops μ', stepT P m = (.next m', ops) ∧ Relation.TransGen (Prod.Lex Mt.Lt Ls) μ' μ ∧ MM P K (EndAt P W H Post) W H μ' m' (t ++ ops)) := by
  obtain ⟨gs, w, sl, s, ids, F, S, vs, rfl, h⟩ := h
  obtain ⟨m0, ms⟩ := μ
  simp only at h
  have hS : ∀ g v, EndAt P W H Post g v → g.status = .running := fun _ _ x => x.1
  have hstat : ∀ (i : Nat) (g : Goroutine), gs[i]? = some g → g.status = .running ∨ g.status = .blocked ∨ g.status = .finished := by
    intro i g hg
    rcases Nat.eq_zero_or_pos i with rfl | hpos
    · obtain ⟨a, h1, h2⟩ := h.main
      rw [hg] at h1
      cases h1
      obtain ⟨_, ⟨tr, _, h3⟩ | ⟨tr0, g2, _, _, rfl, _⟩⟩ := h2
      · exact .inl (mrun hS h3)
      · exact .inr (.inl rfl)
    · by_cases hi : i ∈ ids
      · obtain ⟨a, l, ha, hl⟩ := mem_pend h hi
        obtain ⟨h1, y, m1, h2, _, h4⟩ := h.work a i l ha hl
        rw [hg] at h2
        cases h2
        obtain ⟨h0, ⟨tr, _, h3⟩ | ⟨tr0, g2, x', l', _, _, rfl, _⟩⟩ := h4
        · exact .inl (wrun h1 h0 h3)
        · exact .inr (.inl rfl)
      · obtain ⟨n, _, h2⟩ := h.old i g hpos hi hg
        exact h2.status.imp id .inr
  have haw : ∀ g ∈ gs, awake g := by
    intro g hg
    obtain ⟨i, hi, rfl⟩ := Array.mem_iff_getElem.1 hg
    exact awake_of (hstat i _ (Array.getElem?_eq_getElem hi))
  have hsome : ∃ (i : Nat) (g : Goroutine), gs[i]? = some g ∧ g.status = .running := by
    obtain ⟨a, h1, h2⟩ := h.main
    obtain ⟨_, ⟨tr, _, h3⟩ | ⟨tr0, g2, h3, h4, _, _⟩⟩ := h2
    · exact ⟨0, a, h1, mrun hS h3⟩
    · cases hp : s.pend with
      | nil => exact absurd hp h4
      | cons l ls =>
        have hids : 0 < ids.length := by rw [h.pend, hp]; simp
        have hk : ids[0]? = some ids[0] := List.getElem?_eq_getElem hids
        obtain ⟨h5, y, m1, h6, h7, h8⟩ := h.work 0 ids[0] l hk (by rw [hp]; rfl)
        obtain ⟨tr1, h9⟩ := h.apart tr0 h3 ids[0] (List.mem_of_getElem? hk)
        rw [h7] at h9
        cases h9
        obtain ⟨h10, ⟨tr, _, h11⟩ | ⟨_, _, _, _, e, _⟩⟩ := h8
        · exact ⟨ids[0], y, h6, wrun h5 h10 h11⟩
        · cases e
  obtain ⟨i, g, d, sl', hi, hg, hst⟩ := crowd_pick (P := P) (w := w) (sl := sl) haw hsome
  have hd := h.drew d
  rcases Nat.eq_zero_or_pos i with rfl | hpos
  · obtain ⟨a, h1, _, h2⟩ := hd.main
    rw [hi] at h1
    cases h1
    obtain ⟨tr, rfl, _⟩ | ⟨tr0, g2, _, _, rfl, _⟩ := h2
    · rcases main_moves (sl := sl') hS hKW hi hg tr s ids F S _ ms hd with ⟨s1, ids1, F1, S1, vs1, m1, ms1, hI, hend, hout⟩ | x
      · obtain ⟨_, h3, h5⟩ := hend
        have e : (⟨0, [], []⟩ : Gst) = s1 := Gst.enc_inj (h3.symm.trans hout)
        subst e
        have hids : ids1 = [] := List.eq_nil_of_length_eq_zero hI.pend
        subst hids
        have hS0 : S1 0 = fun _ => False := funext fun b => propext ((hI.lent b).trans (by simp))
        have hL : ∀ g, Liv [] g → g = 0 := fun g hg => hg.elim id fun x => by cases x
        obtain ⟨x, w', es, hstp, hev, hpost⟩ := h5 (F1 0) (w.at d) (by have := hI.hid 0 (.inl rfl); rwa [hS0] at this) ⟨hI.based.os, hI.based.tape, hI.based.output, hI.based.size, fun b hb => ⟨(hI.based.held b hb).1, (hI.based.held b hb).2.1, fun _ _ => (hI.based.held b hb).2.2 0 (.inl rfl)⟩, hI.based.new⟩
        have hrunT := runT_many_ended (P := P) (sl := sl') (i := 0) hi (show stepG P (0 == 0) g (w.at d) = _ from hstp)
        have hP' := hI.law.step (fn := g.frame.fn) (pos := g.frame.place) (g := 0) hI.apt (.inl rfl) (by rw [hS0]; exact hev)
        refine .inl ⟨_, _, _, hst.trans hrunT, x, rfl, hpost, hP'.clean, handed_of_pt hP' hL, ⟨fun y hy => ?_, rfl⟩, fun j y hy hj => ?_⟩
        · obtain ⟨j, hj⟩ := List.mem_iff_getElem?.1 hy
          rw [List.getElem?_drop] at hj
          obtain ⟨n, _, hq⟩ := hI.old (1 + j) y (by omega) (by simp) (by simpa [crowd] using hj)
          exact ⟨_, hq.leaves⟩
        · obtain ⟨n, _, hq⟩ := hI.old j y (by omega) (by simp) hy
          refine ⟨n, ?_⟩
          have e : (t ++ MemOp.ofEvents 0 g.frame.fn g.frame.place es).deaf j (t ++ MemOp.ofEvents 0 g.frame.fn g.frame.place es).size = Deaf t j :=
            Deaf_other t (g := j) (g' := 0) (by omega) _ (fun op hop => by obtain ⟨e, _, rfl⟩ := Go.Conc.mem_ofEvents hop; rfl)
          rw [e]
          exact hq.hears _
      · obtain ⟨m', ops, μ', h3, h4, h5⟩ := x
        exact .inr ⟨m', ops, μ', hst.trans h3, h4, h5⟩
    · cases hg
  · by_cases hin : i ∈ ids
    · obtain ⟨m', ops, μ', h3, h4, h5⟩ := (worker_moves (sl := sl') hd hS hin hi hg).many
      exact .inr ⟨m', ops, μ', hst.trans h3, h4, h5⟩
    · obtain ⟨m', ops, μ', h3, h4, h5⟩ := (leaver_moves (sl := sl') hd hS hpos hin hi hg).many
      exact .inr ⟨m', ops, μ', hst.trans h3, h4, h5⟩
/-- One who receives, beside whom nobody has been started yet: the run ends, in whatever order they go. -/
theorem many_ends (K : Prot) {a : Goroutine} {v : World} (hKW : K.low = W.heap.size) (hv : Hid H (fun _ => False) W v) (ho : v.output = Gst.enc ⟨0, [], []⟩) (hG : @Gs P (mSys P K) (EndAt P W H Post) a v) :
    ∃ N last o w' t', runNT P (N + 1) (solo a W) #[] = (.ended o w', t') ∧ runN P N (solo a W) = .next last ∧ step P last = .ended o w' ∧ Go.Conc.Good P Post last o w' t' := by
  obtain ⟨tr, hT⟩ := gs_tree hG
  have wf : WellFounded (Relation.TransGen (Prod.Lex Mt.Lt Ls)) := WellFounded.transGen muWf
  refine run_of_inv wf (MM P K (EndAt P W H Post) W H) (Go.Conc.Good P Post) (many_step hKW) (.live tr true, [.live tr true]) (crowd #[a] W none) #[] ⟨#[a], W, none, ⟨0, [], []⟩, [], fun _ => H, fun _ _ => False, fun _ => v, rfl, ?_⟩
  have hL : ∀ g, Liv [] g → g = 0 := fun g hg => hg.elim id fun x => by cases x
  refine ⟨rfl, .nil, fun i hi => (by cases hi), rfl, fun i _ => hv, ⟨a, rfl, ho, .inl ⟨tr, rfl, hT⟩⟩, fun k i l hk _ => (by simp at hk), fun i g hi _ hg => ?_, fun _ _ => rfl, fun a b ha hb hne => absurd ((hL a ha).trans (hL b hb).symm) hne, ?_, fun hp => absurd rfl hp, fun b => (by simp), fun b hb => (by cases hb), fun _ h => (by cases h), ⟨rfl, rfl, rfl, Nat.le_refl _, fun b hb => ⟨hv.fitF b hb, rfl, fun _ _ => hb⟩, fun b _ hF => hF⟩, fun hp => absurd rfl hp⟩
  · have : i < 1 := by simpa using (Array.getElem?_eq_some_iff.1 hg).1
    omega
  · exact ⟨fun said => (by rintro ⟨i, j, _, ⟨a, b, ha, _⟩, _⟩; simp [Trace.act?] at ha), fun g _ i a b ha => (by simp [touchAt, Trace.act?] at ha), fun g _ i a b ha => (by simp [touchAt, Trace.act?] at ha), fun i a ha => (by simp [touchAt, Trace.act?] at ha), fun _ _ => rfl, by simp⟩
end
end Go.Proofs.YtofkhehcnfiopaaDoor.N
namespace Go.Proofs.YtofkhehcnfiopaaDoor.N
open Go Go.RowKit Go.Conc
set_option autoImplicit false
set_option linter.unusedSectionVars false

/-! Operations that the others take part in. -/
section
variable {P : Program} {K : Prot} {c : Nat} {a : Act} {o : Oper} {v : World} {Kt : Value → World → Prop}
theorem served_at {b : Frame} {a₁ : Act} {ops : Array Oper} {i : Nat} {rest : List Nat} {k : List Item} {cs : List Frame} {o₁ : Oper} (h3 : ops[i]? = some o₁) (x : Value) :
    Go.Conc.served (G (b.at a₁ (.inRegion ops (i :: rest) :: k)) cs) x = G (b.at (a₁.put o₁.dst x) (.inRegion ops rest :: k)) cs := by
  show G ((b.at a₁ (.inRegion ops (i :: rest) :: k)).finish x) cs = _
  rw [Frame.finish_at, h3]
  rfl
theorem listed_ok {fn : FuncId} {n : Next} {F S : Nat → Prop} {w : World} (ht : Tame P (execOp a.eval o)) (hop : ∀ w, (execOp a.eval o).run P w = .ok n w) (hw : Hid F S w v) : ∀ e ∈ listed P fn a o w, EvOk F S w.heap.size e := by
  obtain ⟨w', h1, h2, h3, h4, h5⟩ := ht.ok (hop v) hw
  unfold listed
  rw [h2, ← hw.size]
  exact fun e he => h5 e (Go.Conc.mem_seen he)
theorem sy_send {x : UInt8} {l : List UInt8} (hout : v.output = #[enc1 (x :: l)]) (hx : x ≠ K.done) (ht : Tame P (execOp a.eval o))
    (hop : ∀ w : World, (execOp a.eval o).run P w = .ok (.comm #[scase c (K.msg x) K.z] true .send) w) (hk : Kt undef (saying v #[enc1 l])) : @SyOp P (wSys P K c) o a v Kt := by
  intro a₁ o₁ h1 h2 ops i rest b k cs h3 h4 h5
  refine ⟨rfl, x, l, hout, fun F S w hw => ⟨listed P b.fn a₁ o₁ w, stepG_comm h3 h4 h5 (by rw [h1]; exact hop w), listed_ok (n := .comm #[scase c (K.msg x) K.z] true .send) (by rw [h1]; exact ht) (fun w => by rw [h1]; exact hop w) hw⟩, fun e => absurd e hx, undef, ?_, hk⟩
  rw [served_at h3, h2]
theorem sy_recv {s : Gst} (hout : v.output = s.enc) (hp : s.pend ≠ []) (ht : Tame P (execOp a.eval o)) (hop : ∀ w : World, (execOp a.eval o).run P w = .ok (.comm #[rcase s.c K.zr] true (.recv false)) w)
    (hk : ∀ i x l, s.pend[i]? = some (x :: l) → Kt (K.msg x) (saying v (s.after K i x l).enc)) : @SyOp P (mSys P K) o a v Kt := by
  intro a₁ o₁ h1 h2 ops i rest b k cs h3 h4 h5
  refine .inl ⟨rfl, s, hout, hp, fun F S w hw => ⟨listed P b.fn a₁ o₁ w, stepG_comm h3 h4 h5 (by rw [h1]; exact hop w), listed_ok (n := .comm #[rcase s.c K.zr] true (.recv false)) (by rw [h1]; exact ht) (fun w => by rw [h1]; exact hop w) hw⟩, fun j x l hj => ⟨K.msg x, ?_, hk j x l hj⟩⟩
  rw [served_at h3, h2]
theorem sy_go {s : Gst} {l : List UInt8} {sl : List Nat} {d : Deferred} {f : Fn} {cap : Array Value} (hout : v.output = s.enc) (hc : (s.pend = [] ∧ s.sl = [] ∧ v.heap[c]? = some (.chan 0 #[] false 0 0 false)) ∨ (s.pend ≠ [] ∧ s.c = c))
    (hlo : K.low ≤ c) (hcs : c ∉ sl) (hgv : Givable sl v) (hun : ∀ b ∈ sl, b ∈ s.sl ∨ ∃ cs t, v.heap[b]? = some (.cells cs t (0, 0))) (hsd : Said K l) (ht : Tame P (execOp a.eval o)) (hop : ∀ w : World, (execOp a.eval o).run P w = .ok (.spawn d) w)
    (hd : d.target = .fn f cap) (hw : Works P K c (born P d) (saying (onlyV sl v) #[enc1 l])) (hk : Kt undef (saying (hideB c (chill sl v)) (Gst.enc ⟨c, s.sl ++ sl, s.pend ++ [l]⟩))) : @SyOp P (mSys P K) o a v Kt := by
  intro a₁ o₁ h1 h2 ops i rest b k cs h3 h4 h5
  refine .inr (.inl ⟨rfl, s, c, l, sl, _, born P d, hout, hc, hlo, hcs, hgv, hun, hsd, rfl, fun F S w hw => ⟨listed P b.fn a₁ o₁ w, stepG_spawn h3 h4 h5 (by rw [h1]; exact hop w) hd, listed_ok (n := .spawn d) (by rw [h1]; exact ht) (fun w => by rw [h1]; exact hop w) hw⟩, hw, undef, by rw [h2], hk⟩)
end

/-! .. in the walk. -/
section
variable [I : Sys] {C : Ctx} {fr : List (Nat × Value)} {hp hp' : List Res} {a : Act} {w : World} {ops : Array Oper} {Q : Exit → Act → World → Prop} {rest : List Oper} {d : Nat} {ty : TypeId} {pos : String} {after : Array Edge}
/-- The same walk, from another beginning. -/
abbrev Ctx.re (C : Ctx) (B : Nat) (w0 : World) : Ctx := ⟨C.P, B, w0, C.N, C.ds⟩
theorem At.said (ha : At C fr hp a w) (o : Array (Nat × ByteArray)) : At (C.re C.B (saying C.w0 o)) fr hp a (saying w o) :=
  ⟨ha.size, ha.defs, ha.slots, ⟨ha.below.os, ha.below.tape, rfl, ha.below.size, ha.below.block⟩, ha.base, fun r hr => by
    have := ha.own r hr
    cases r <;> exact this, ha.apart⟩
/-- One operation that the others take part in, and yields a value. -/
theorem lst_sync {T : Type} {op : Op} (p : T → Prop) (Cf : T → Ctx) (X : T → Value) (fn : T → List Res) (hP : ∀ g, (Cf g).P = C.P) (hN : ∀ g, (Cf g).N = C.N) (hd : Nat.blt d C.N = true)
    (h : ∀ a w, At C fr hp a w → SyOp C.P ⟨some d, op, ty, pos, after, none⟩ a w fun x w' => ∃ g, p g ∧ x = X g ∧ At (Cf g) fr (fn g) a w')
    (k : ∀ g, p g → Lst (Cf g) ops Q rest ((d, X g) :: fr) (fn g)) : Lst C ops Q (⟨some d, op, ty, pos, after, none⟩ :: rest) fr hp := by
  intro a w ha
  simp only [wpList]
  rw [if_pos (show Region.wanted _ _ = true from rfl)]
  refine .inr ⟨fun x w' => ∃ g, p g ∧ x = X g ∧ At (Cf g) fr (fn g) a w', fun x w' ⟨g, hg, hx, ha'⟩ => ?_, fun v₁ h1 => h a v₁ (ha.later h1)⟩
  subst hx
  have := k g hg _ _ (ha'.put (by rw [hN g]; exact lt_of_blt hd) (X g))
  rw [hP g] at this
  exact this
/-- .. and yields none. -/
theorem lst_sync0 {T : Type} {op : Op} (p : T → Prop) (Cf : T → Ctx) (fn : T → List Res) (hP : ∀ g, (Cf g).P = C.P)
    (h : ∀ a w, At C fr hp a w → SyOp C.P ⟨none, op, ty, pos, after, none⟩ a w fun _ w' => ∃ g, p g ∧ At (Cf g) fr (fn g) a w')
    (k : ∀ g, p g → Lst (Cf g) ops Q rest fr (fn g)) : Lst C ops Q (⟨none, op, ty, pos, after, none⟩ :: rest) fr hp := by
  intro a w ha
  simp only [wpList]
  rw [if_pos (show Region.wanted _ _ = true from rfl)]
  refine .inr ⟨fun _ w' => ∃ g, p g ∧ At (Cf g) fr (fn g) a w', fun x w' ⟨g, hg, ha'⟩ => ?_, fun v₁ h1 => h a v₁ (ha.later h1)⟩
  have := k g hg _ _ ha'
  rw [hP g] at this
  exact this
/-- Loops and ghosts whose beginning turns. -/
def RndC {T : Type} (p : T → Prop) (μ : T → Nat) (Cf : T → Ctx) (f : T → List (Nat × Value)) (h : T → List Res) (g : T) (a : Act) (w : World) : Prop := ∃ g', p g' ∧ μ g' < μ g ∧ At (Cf g') (f g') (h g') a w
theorem cod_loopC {T : Type} {c : Code} (p : T → Prop) (μ : T → Nat) (Cf : T → Ctx) (f : T → List (Nat × Value)) (h : T → List Res) (hP : ∀ g, (Cf g).P = C.P) (g0 : T) (h0 : p g0) (hC : Cf g0 = C) (hs : Sub (f g0) fr) (hh : Pck (h g0) hp)
    (round : ∀ g, p g → Cod (Cf g) c (Exit.then (RndC p μ Cf f h g) Q) (f g) (h g)) : Cod C (.loop c) Q fr hp := by
  intro a w ha
  refine wp_loop_ghost (fun n a w => ∃ g, p g ∧ μ g = n ∧ At (Cf g) (f g) (h g) a w) (μ g0) ⟨g0, h0, rfl, by rw [hC]; exact (ha.drop_slots hs).pck hh⟩ ?_
  rintro n a w ⟨g, hg, rfl, hag⟩
  have := round g hg a w hag
  rw [hP g] at this
  refine wp_mono this fun e a w he => ?_
  cases e with
  | normal => obtain ⟨g', h1, h2, h3⟩ := he; exact ⟨μ g', h2, g', h1, rfl, h3⟩
  | _ => exact he
theorem ex_roundC {T : Type} {p : T → Prop} {μ : T → Nat} {g : T} {Cf : T → Ctx} {f : T → List (Nat × Value)} {h : T → List Res} (g' : T) (hC : Cf g' = C) (h0 : p g') (hm : μ g' < μ g) (hs : Sub (f g') fr) (hh : Pck (h g') hp) :
    Ex C (Exit.then (RndC p μ Cf f h g) Q) .normal fr hp := fun _ _ ha => ⟨g', h0, hm, by rw [hC]; exact (ha.drop_slots hs).pck hh⟩
/-- A row's type is a channel's. -/
theorem run_recv {t : TypeId} {dir : ChanDir} {elem : TypeId} {z : Value} {x : Operand} {n : Nat} {size bytes : Nat} (hx : ev fr x = some (.chan (some n))) (ht : C.P.underlying t = some (.chan dir elem)) (hz : TI C.P elem z size bytes) (ha : At C fr hp a w) (w' : World) :
    (execOp a.eval ⟨some d, .recv t x false, ty, pos, after, none⟩).run C.P w' = .ok (.comm #[rcase n z] true (.recv false)) w' := by
  obtain ⟨i, hi, hz0, _, _⟩ := hz
  simp [execOp, ha.eval hx, run_underlying ht, zeroValue, typeInfo, hi, hz0, rcase]
theorem run_send {x y : Operand} {n : Nat} {u : Value} (hx : ev fr x = some (.chan (some n))) (hy : ev fr y = some u) (ha : At C fr hp a w) (w' : World) :
    (execOp a.eval ⟨none, .send x y, ty, pos, after, none⟩).run C.P w' = .ok (.comm #[scase n u (.tuple #[])] true .send) w' := by
  simp [execOp, ha.eval hx, ha.eval hy, scase]
theorem run_go {x : Operand} {fn : Fn} {first captured : Array Value} {ts : Array TypeId} (hx : ev fr x = some (.func fn first captured)) (ha : At C fr hp a w) (w' : World) :
    (execOp a.eval ⟨none, .go { callee := .value x, args := #[], argTypes := ts }, ty, pos, after, none⟩).run C.P w' = .ok (.spawn { target := .fn fn captured, args := first }) w' := by
  simp [execOp, resolve, Deferred.ofValue, ha.eval hx]
end
end Go.Proofs.YtofkhehcnfiopaaDoor.N
namespace Go.Proofs.YtofkhehcnfiopaaDoor.N
open Go Go.RowKit Go.Conc
set_option autoImplicit false
set_option linter.unusedSectionVars false

/-! The receiver's walk: its beginning, as the ghost says. -/
/-- Where the walk began, what is lent seen frozen. -/
abbrev Cr (P : Program) (B N : Nat) (ds : List Deferred) (v0 : World) (s : Gst) : Ctx := ⟨P, B, saying (chill s.sl v0) s.enc, N, ds⟩
theorem chill_chill (o : Obj) : Obj.chill (Obj.chill o) = Obj.chill o := by cases o <;> rfl
theorem thaw_chill {c : Array Value} {t : TypeId} : Obj.thaw (Obj.chill (.cells c t (0, 0))) = .cells c t (0, 0) := rfl
section
variable {P : Program} {B N : Nat} {ds : List Deferred} {v0 v : World} {s : Gst} {fr : List (Nat × Value)} {hp hp' : List Res} {a : Act}
theorem At.outs (ha : At (Cr P B N ds v0 s) fr hp a v) : v.output = s.enc := ha.below.output
theorem At.oldR (ha : At (Cr P B N ds v0 s) fr hp a v) {b : Nat} (hb : b < B) : v.heap[b]? = (v0.heap[b]?).map fun o => if b ∈ s.sl then Obj.chill o else o := by
  rw [ha.below.block b hb]
  exact heap_chill s.sl v0 b
/-- Behind a go statement. -/
theorem At.hired (ha : At (Cr P B N ds v0 s) fr hp a v) {c : Nat} {l : List UInt8} {sl : List Nat} (hcB : B ≤ c) (hr : ∀ r ∈ hp', r.ok B (hideB c (chill sl v))) (hn : (hp'.filterMap Res.id).Nodup) :
    At (Cr P B N ds v0 ⟨c, s.sl ++ sl, s.pend ++ [l]⟩) fr hp' a (saying (hideB c (chill sl v)) (Gst.enc ⟨c, s.sl ++ sl, s.pend ++ [l]⟩)) := by
  refine ⟨ha.size, ha.defs, ha.slots, ⟨ha.below.os, ha.below.tape, rfl, ?_, fun k hk => ?_⟩, ?_, fun r h => ?_, hn⟩
  · have := ha.below.size
    simp only [saying, chill, hideB, Array.size_mapIdx] at this ⊢
    exact this
  · show (hideB c (chill sl v)).heap[k]? = (chill (s.sl ++ sl) v0).heap[k]?
    have hk' : k < B := hk
    have hkc : k ≠ c := by omega
    rw [heap_hideB, heap_chill, ha.oldR hk', heap_chill]
    cases v0.heap[k]? with
    | none => rfl
    | some o =>
      simp only [Option.map_some, hkc, if_false, List.mem_append]
      by_cases h1 : k ∈ s.sl <;> by_cases h2 : k ∈ sl <;> simp [h1, h2, chill_chill]
  · have := ha.base
    simp only [saying, chill, hideB, Array.size_mapIdx] at this ⊢
    exact this
  · have := hr r h
    cases r <;> exact this
/-- All is said: what was lent is one's own again. -/
theorem At.settled (ha : At (Cr P B N ds v0 s) fr hp a v) (hfz : ∀ b ∈ s.sl, b < B → ∃ cs t, v0.heap[b]? = some (.cells cs t (0, 0))) (hr : ∀ r ∈ hp', r.ok B (thaw s.sl v)) (hn : (hp'.filterMap Res.id).Nodup) :
    At (Cr P B N ds v0 ⟨0, [], []⟩) fr hp' a (saying (thaw s.sl v) (Gst.enc ⟨0, [], []⟩)) := by
  refine ⟨ha.size, ha.defs, ha.slots, ⟨ha.below.os, ha.below.tape, rfl, ?_, fun k hk => ?_⟩, ?_, fun r h => ?_, hn⟩
  · have := ha.below.size
    simp only [saying, chill, thaw, Array.size_mapIdx] at this ⊢
    exact this
  · show (thaw s.sl v).heap[k]? = (chill [] v0).heap[k]?
    have hk' : k < B := hk
    rw [heap_thaw, ha.oldR hk', heap_chill]
    cases hv : v0.heap[k]? with
    | none => rfl
    | some o =>
      by_cases h1 : k ∈ s.sl
      · obtain ⟨cs, t, h2⟩ := hfz k h1 hk'
        rw [hv] at h2
        cases h2
        simp [h1, thaw_chill]
      · simp [h1]
  · have := ha.base
    simp only [saying, thaw, Array.size_mapIdx] at this ⊢
    exact this
  · have := hr r h
    cases r <;> exact this
theorem At.startR (hout : v0.output = Gst.enc ⟨0, [], []⟩) (ha : At ⟨P, B, v0, N, ds⟩ fr hp a v) : At (Cr P B N ds v0 ⟨0, [], []⟩) fr hp a v :=
  ⟨ha.size, ha.defs, ha.slots, ⟨ha.below.os, ha.below.tape, ha.below.output.trans hout, by
    have := ha.below.size
    simp only [saying, chill, Array.size_mapIdx] at this ⊢
    exact this, fun k hk => by
      rw [ha.below.block k hk]
      show _ = (chill [] v0).heap[k]?
      rw [heap_chill]
      cases v0.heap[k]? <;> simp⟩, ha.base, ha.own, ha.apart⟩
theorem At.endR (hout : v0.output = Gst.enc ⟨0, [], []⟩) (ha : At (Cr P B N ds v0 ⟨0, [], []⟩) fr hp a v) : At ⟨P, B, v0, N, ds⟩ fr hp a v :=
  ⟨ha.size, ha.defs, ha.slots, ⟨ha.below.os, ha.below.tape, ha.below.output.trans hout.symm, by
    have := ha.below.size
    simp only [saying, chill, Array.size_mapIdx] at this ⊢
    exact this, fun k hk => by
      rw [ha.below.block k hk]
      show (chill [] v0).heap[k]? = _
      rw [heap_chill]
      cases v0.heap[k]? <;> simp⟩, ha.base, ha.own, ha.apart⟩
/-- What is not lent stays as it is when something is lent. -/
theorem Res.held {r : Res} {sl : List Nat} {c : Nat} (h : r.ok B v) (hn : ∀ k, r.id = some k → k ∉ sl ∧ k ≠ c) : r.ok B (hideB c (chill sl v)) :=
  Res.keep h fun k hk => by
    rw [heap_hideB, heap_chill]
    cases v.heap[k]? with
    | none => rfl
    | some o => simp [(hn k hk).1, (hn k hk).2]
theorem Res.lent {b c : Nat} {cs : Array Value} {t : TypeId} {fz : Nat × Nat} {sl : List Nat} (h : (Res.blk b (.cells cs t fz)).ok B v) (hb : b ∈ sl) (hc : b ≠ c) : (Res.blk b (.cells cs t (0, cs.size))).ok B (hideB c (chill sl v)) := by
  refine ⟨h.1, ?_⟩
  rw [heap_hideB, heap_chill, h.2]
  simp [hb, hc, Obj.chill]
theorem Res.gone {c : Nat} {o : Obj} {sl : List Nat} (h : (Res.blk c o).ok B v) : (Res.blk c blank).ok B (hideB c (chill sl v)) := by
  refine ⟨h.1, ?_⟩
  rw [heap_hideB, heap_chill, h.2]
  simp
/-- What is not frozen stays as it is when all comes back. -/
theorem Res.kept {r : Res} {sl : List Nat} (h : r.ok B v) (hw : ∀ b o, r = .blk b o → b ∉ sl) : r.ok B (thaw sl v) := by
  cases r with
  | blk b o =>
    refine ⟨h.1, ?_⟩
    rw [heap_thaw, h.2]
    simp [hw b o rfl]
  | row e size A n c xs =>
    obtain ⟨h1, h2⟩ := h
    refine ⟨h1, ?_⟩
    rcases h2 with h2 | ⟨g, cap, cur, hv, hg, hh, r⟩
    · exact .inl h2
    · refine .inr ⟨g, cap, cur, hv, hg, ?_, r⟩
      rw [heap_thaw, hh]
      simp only [Option.map_some]
      split <;> rfl
  | que e size A n c xs =>
    obtain ⟨h1, h2⟩ := h
    refine ⟨h1, ?_⟩
    rcases h2 with h2 | ⟨g, o, cur, hv, hg, hh, r⟩
    · exact .inl h2
    · refine .inr ⟨g, o, cur, hv, hg, ?_, r⟩
      rw [heap_thaw, hh]
      simp only [Option.map_some]
      split <;> rfl
theorem Res.back {b : Nat} {cs : Array Value} {t : TypeId} {fz : Nat × Nat} {sl : List Nat} (h : (Res.blk b (.cells cs t fz)).ok B v) (hb : b ∈ sl) : (Res.blk b (.cells cs t (0, 0))).ok B (thaw sl v) := by
  refine ⟨h.1, ?_⟩
  rw [heap_thaw, h.2]
  simp [hb, Obj.thaw]
/-- All is said: the walk goes on from what has come back. -/
theorem cod_settle {K : Prot} {code : Code} {Q : Exit → Act → World → Prop} (hp' : List Res) (hpe : s.pend = [])
    (h : ∀ a v, At (Cr P B N ds v0 s) fr hp a v → At (Cr P B N ds v0 ⟨0, [], []⟩) fr hp' a (saying (thaw s.sl v) (Gst.enc ⟨0, [], []⟩)))
    (k : @Cod (mSys P K) (Cr P B N ds v0 ⟨0, [], []⟩) code Q fr hp') : @Cod (mSys P K) (Cr P B N ds v0 s) code Q fr hp := by
  intro a v ha b kk cs hb
  refine @Gs.sync' P (mSys P K) _ _ _ fun v₁ h1 => ?_
  have ha1 := ha.later h1
  exact .inr (.inr ⟨rfl, s, ha1.outs, hpe, k a _ (h a v₁ ha1) b kk cs hb⟩)
end
end Go.Proofs.YtofkhehcnfiopaaDoor.N
