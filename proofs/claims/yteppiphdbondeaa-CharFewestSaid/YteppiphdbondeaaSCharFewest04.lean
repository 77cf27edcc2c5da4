/- Parts of the walk of the law CharFewest: C5, W1, W2, W3, W4, W5, G1, G2. -/
import Derived.Test.YteppiphdbondeaaSCharFewest03
import Derived.Conc.EventLaws
import Derived.Conc.WgArith
import Derived.Test.YteppiphdbondeaaProg
namespace Go.Proofs.Yteppiphdbondeaa.N
open Go Go.RowKit Go.Conc
set_option linter.unusedSectionVars false
set_option linter.unusedVariables false
set_option linter.unusedSimpArgs false

variable {d e f k m : Nat}
section
variable {low : Nat} {tW : TypeId} {msg : Nat -> Value} {σ σ' : Cst} {i : Nat}
theorem zV0 (h : σ.gh 0 = some [0]) : σ.mn = .rest := by
 rw [zAn] at h
 cases hm : σ.mn <;> rw [hm] at h <;> simp [Mn.enc] at h
theorem zYm {W : Nat} (h : σ.gh 0 = some [1, W]) : σ.mn = .sh1 ∧ W = σ.W := by
 rw [zAn] at h
 cases hm : σ.mn <;> rw [hm] at h <;> simp [Mn.enc] at h
 exact ⟨rfl, h.symm⟩
theorem zYh {W : Nat} (h : σ.gh 0 = some [2, W, f]) : σ.mn = .sh2 ∧ W = σ.W ∧ f = σ.f := by
 rw [zAn] at h
 cases hm : σ.mn <;> rw [hm] at h <;> simp [Mn.enc] at h
 exact ⟨rfl, h.1.symm, h.2.symm⟩
theorem zGn {W : Nat} {o : List Nat} (h : σ.gh 0 = some (3 :: W :: f :: d :: k :: m :: e :: o)) : σ.mn = .hire k m ∧ W = σ.W ∧ f = σ.f ∧ d = σ.d ∧ o = σ.owed ∧ e = cde σ.lent := by
 rw [zAn] at h
 cases hm : σ.mn <;> rw [hm] at h <;> simp [Mn.enc] at h
 obtain ⟨rfl, rfl, rfl, rfl, rfl, rfl, rfl⟩ := h
 exact ⟨rfl, rfl, rfl, rfl, rfl, rfl⟩
theorem zVu {W : Nat} (h : σ.gh 0 = some [5, W, f, d, e]) : σ.mn = .over ∧ W = σ.W ∧ f = σ.f ∧ d = σ.d ∧ e = cde σ.lent := by
 rw [zAn] at h
 cases hm : σ.mn <;> rw [hm] at h <;> simp [Mn.enc] at h
 exact ⟨rfl, h.1.symm, h.2.1.symm, h.2.2.1.symm, h.2.2.2.symm⟩
theorem zA4 (h : Cok low σ) (hm : σ.mn = .rest ∨ σ.mn = .sh1 ∨ σ.mn = .sh2) : σ.blank := by
 have hp := h.phase
 unfold Cst.phase at hp
 rcases hm with hm | hm | hm <;> rw [hm] at hp <;> exact hp
theorem zCn (h : Cok low σ) {k m : Nat} (hm : σ.mn = .hire k m) : σ.early ∧ (∀ j p, σ.oth j ≠ some (.wt p)) ∧ σ.shut = false ∧ σ.ow = 0 ∧ σ.js.length <= m := by
 have hp := h.phase
 unfold Cst.phase at hp
 rw [hm] at hp
 exact hp
theorem zEp (hm : σ.mn = .hire k m) (h : σ.early ∧ (∀ j p, σ.oth j ≠ some (.wt p)) ∧ σ.shut = false ∧ σ.ow = 0 ∧ σ.js.length <= m) : σ.phase := by
 unfold Cst.phase
 rw [hm]
 exact h
def Cst.step (σ : Cst) (k m cnt : Nat) : Cst := { σ with mn := .hire k m, cnt := cnt }
theorem zGj (h : Cok low σ) {k k' m cnt : Nat} {acts : List MemAct} (hm : σ.mn = .hire k m) (hc : cnt + (Mn.hire k m).more = σ.cnt + (Mn.hire k' m).more) (hs : cnt < 1000000)
  (hq : ∀ B, (∀ b, b ∈ σ.pubs -> b < B) -> ∃ s1, Tqs (· ∈ σ.pubs) σ.ow B 0 σ.ts acts s1 ∧ s1.D 0 = (Mn.hire k' m).deaf ∧ (∀ j, j ≠ 0 -> s1.D j = σ.ts.D j) ∧ s1.Dn = σ.ts.Dn ∧ ∀ c, s1.Ca c -> σ.ts.Ca c) :
  (Cp low tW msg).Moves 0 σ acts none (σ.step k' m cnt) := by
 have hp := zCn h hm
 refine ⟨⟨h.nodup, h.zero, h.jin, h.one, h.lows, fun _ => h.hasW (by rw [hm]; rfl), fun _ => h.hasF (by rw [hm]; rfl), fun _ => h.hasD (by rw [hm]; rfl), hs, ?_, h.owed, zEp (σ := σ.step k' m cnt) rfl hp⟩, fun j hj => ?_, rfl, rfl, fun c => ?_, fun c hc => (by cases hc), rfl, fun j _ => Iff.rfl, fun B hB => ?_⟩
 ·have := h.cnt
  rw [hm] at this
  show cnt = σ.js.countP (fun j => counts (σ.oth j)) + (Mn.hire k' m).more
  omega
 ·show Cst.gh _ j = Cst.gh σ j
  unfold Cst.gh
  rw [if_neg hj, if_neg hj]
  rfl
 ·rw [if_neg (by simp)]
  simp [Cp, Cst.step, hm, Mn.hasF, Mn.hasD]
 ·obtain ⟨s1, h1, h2, h3, h4, h5⟩ := hq B hB
  refine ⟨s1, h1, fun j hj => ?_, fun j hj => by rw [h4]; exact hj, h5, fun e => by cases e⟩
  by_cases e : j = 0
  ·subst e
   rw [h2]
   rfl
  ·rw [h3 j e]
   simp [Cp, Cst.ts, e, Cst.step]
theorem zEe (hm : σ.mn = .hire k m) : σ.ts.D 0 = (Mn.hire k m).deaf := by simp [Cst.ts, hm]
theorem zWn (h : Cok low σ) {m : Nat} (hm : σ.mn = .hire 0 m) : (Cp low tW msg).Moves 0 σ [.mark .disable] none (σ.step 1 m σ.cnt) := by
 refine zGj h hm rfl h.small fun B hB => ⟨_, .cons .off (by simp [MemAct.low]) .nil, ?_, fun j e => by simp [Ts.deaf, e], rfl, fun c x => x⟩
 simp [Ts.deaf, zEe hm, Mn.deaf]
theorem zOh (h : Cok low σ) {m k : Nat} (hm : σ.mn = .hire 1 m) (hk : k = 2 ∨ k = 3) (hs : m + 1 < 1000000) : (Cp low tW msg).Moves 0 σ [.access ⟨.cell ⟨σ.W, 0, none⟩, false, true⟩, .access ⟨.cell ⟨σ.W, 0, none⟩, true, true⟩] none (σ.step k m (σ.cnt + 1)) := by
 have hw := h.hasW (by rw [hm]; rfl)
 have hp := zCn h hm
 have hle : σ.cnt <= m := by
  have := h.cnt
  rw [hm] at this
  have h2 : σ.js.countP (fun j => counts (σ.oth j)) <= σ.js.length := List.countP_le_length
  have h3 : (Mn.hire 1 m).more = 0 := rfl
  omega
 have hd : σ.ts.D 0 = 1 := by rw [zEe hm]; rfl
 refine zGj h hm ?_ (by omega) fun B hB => ⟨_, .cons (.atom hw (qX hw hB) fun _ => by rw [hd]; exact Nat.one_pos) (by simp [MemAct.low, Loc.low, qX hw hB]) (.cons (.atom hw (qX hw hB) fun _ => by rw [hd]; exact Nat.one_pos) (by simp [MemAct.low, Loc.low, qX hw hB]) .nil), ?_, fun j _ => rfl, rfl, fun c x => x⟩
 ·rcases hk with rfl | rfl <;> simp [Mn.more]
 ·rw [hd]
  rcases hk with rfl | rfl <;> rfl
theorem zTu (h : Cok low σ) {m : Nat} (hm : σ.mn = .hire 2 m) : (Cp low tW msg).Moves 0 σ [.mark (.read ⟨σ.W, 1, none⟩)] none (σ.step 3 m σ.cnt) := by
 have hw := h.hasW (by rw [hm]; rfl)
 have hp := zCn h hm
 refine zGj h hm rfl h.small fun B hB => ⟨_, .cons (.reads hw (qX hw hB) hp.2.2.2.1.symm ?_) (by simp [MemAct.low, qX hw hB]) .nil, ?_, fun j _ => rfl, rfl, fun c x => x⟩
 ·rintro ⟨p, x, _⟩
  rw [h.zero] at x
  cases x
 ·rw [zEe hm]
  rfl
theorem zXv (h : Cok low σ) {m : Nat} (hm : σ.mn = .hire 3 m) : (Cp low tW msg).Moves 0 σ [.mark .enable] none (σ.step 4 m σ.cnt) := by
 refine zGj h hm rfl h.small fun B hB => ⟨_, .cons .on (by simp [MemAct.low]) .nil, ?_, fun j e => by simp [Ts.deaf, e], rfl, fun c x => x⟩
 simp [Ts.deaf, zEe hm, Mn.deaf]
def Cst.hired (σ : Cst) (n m : Nat) (l sl : List Nat) : Cst := { σ with mn := .hire 0 (m + 1), owed := σ.owed ++ l, js := n :: σ.js, oth := fun j => if j = n then some (.wk (.send l)) else σ.oth j, lent := σ.lent ++ sl }
theorem zKu (h : Cok low σ) {n : Nat} (hn : n ≠ 0) (hg : σ.gh n = none) : σ.oth n = none := by
 unfold Cst.gh at hg
 rw [if_neg hn] at hg
 cases ho : σ.oth n with
 | none => rfl
 | some p => rw [ho] at hg; cases hg
theorem zXg (h : Cok low σ) {m n : Nat} {l sl : List Nat} (hm : σ.mn = .hire 4 m) (hn : n ≠ 0) (hg : σ.oth n = none) :
  Hires (Cp low tW msg) n σ sl (3 :: σ.W :: σ.f :: σ.d :: 0 :: (m + 1) :: cde (σ.lent ++ sl) :: (σ.owed ++ l)) (10 :: σ.W :: σ.f :: l) (σ.hired n m l sl) := by
 have hp := zCn h hm
 have hnj : n ∉ σ.js := fun x => by obtain ⟨p, hp⟩ := (h.jin n).1 x; rw [hg] at hp; cases hp
 have hoff : ∀ j ∈ σ.js, (if j = n then some (Ph.wk (.send l)) else σ.oth j) = σ.oth j := fun j hj => by
  have : j ≠ n := fun e => hnj (e ▸ hj)
  rw [if_neg this]
 refine ⟨⟨List.nodup_cons.2 ⟨hnj, h.nodup⟩, by rw [show (σ.hired n m l sl).oth 0 = _ from if_neg (Ne.symm hn)]; exact h.zero, fun j => ?_, fun j p hj => ?_, h.lows, fun _ => h.hasW (by rw [hm]; rfl), fun _ => h.hasF (by rw [hm]; rfl), fun _ => h.hasD (by rw [hm]; rfl), h.small, ?_, ?_, zEp (σ := σ.hired n m l sl) rfl ⟨⟨hp.1.1, hp.1.2.1, fun j => ?_, hp.1.2.2.2⟩, fun j p => ?_, hp.2.2.1, hp.2.2.2.1, ?_⟩⟩, rfl, ?_, fun j hj0 hjn => ?_, fun j hj => ?_, ?_, ?_, ?_, rfl, .inl rfl, rfl, ?_, ?_, rfl⟩
 ·by_cases e : j = n
  ·subst e; simp [Cst.hired]
  ·simp [Cst.hired, e, h.jin j]
 ·by_cases e : j = n
  ·subst e; simp [Cst.hired] at hj
  ·simp only [Cst.hired, e, if_false] at hj; exact h.one j p hj
 ·have := h.cnt
  rw [hm] at this
  have h3 : (Mn.hire 4 m).more = 1 := rfl
  have h4 : (Mn.hire 0 (m + 1)).more = 0 := rfl
  have h5 : σ.js.countP (fun j => counts (if j = n then some (Ph.wk (.send l)) else σ.oth j)) = σ.js.countP fun j => counts (σ.oth j) := List.countP_congr fun j hj => by rw [hoff j hj]
  simp only [Cst.hired, List.countP_cons, if_true, h4, h5]
  rw [if_pos (show counts (some (Ph.wk (.send l))) = true from rfl)]
  omega
 ·have h5 : σ.js.flatMap (fun j => leftOf (if j = n then some (Ph.wk (.send l)) else σ.oth j)) = σ.js.flatMap fun j => leftOf (σ.oth j) := by
   simp only [List.flatMap]
   rw [List.map_congr_left fun j hj => by rw [hoff j hj]]
  simp only [Cst.hired, List.flatMap_cons, if_true, h5]
  simp only [leftOf]
  exact (h.owed.append_right l).trans List.perm_append_comm
 ·by_cases e : j = n
  ·subst e; simp [Cst.hired]
  ·simp only [Cst.hired, e, if_false]; exact hp.1.2.2.1 j
 ·by_cases e : j = n
  ·subst e; simp [Cst.hired]
  ·simp only [Cst.hired, e, if_false]; exact hp.2.1 j p
 ·simp only [Cst.hired, List.length_cons]
  have := hp.2.2.2.2
  omega
 ·exact zA1 (σ := σ.hired n m l sl) (p := .wk (.send l)) hn (by simp [Cst.hired])
 ·show Cst.gh _ j = Cst.gh σ j
  simp [Cst.gh, hj0, Cst.hired, hjn]
 ·simp only [Cp, Cst.ts, Cst.hired]
  by_cases e0 : j = 0
  ·subst e0
   have : (0 : Nat) ≠ n := Ne.symm hn
   simp [this, hm, Mn.deaf]
  ·by_cases e : j = n
   ·subst e; simp [e0, Ph.deaf, Wkr.deaf]
   ·simp [e0, e]
 ·show σ.ts.D 0 = 0
  rw [zEe hm]
  rfl
 ·simp only [Cp, Cst.ts, Cst.hired]
  funext j
  by_cases e : j = n
  ·subst e; simp [hg, Wkr.quiet]
  ·simp [e]
 ·rintro ⟨p, x, _⟩
  rw [hg] at x
  cases x
 ·funext b
  simp [Cp, Cst.hired, hm, Mn.hasW, Cst.cells, Cst.state]
 ·funext b
  simp [Cp, Cst.hired, hm, Mn.hasF, Mn.hasD]
def Cst.manned (σ : Cst) (n : Nat) (sl : List Nat) : Cst := { σ with mn := .hear, ow := n, oth := fun j => if j = n then some (.wt .new) else σ.oth j, lent := σ.lent ++ sl }
theorem zYn (h : Cok low σ) {m n : Nat} {sl : List Nat} (hm : σ.mn = .hire 0 m) (hn : n ≠ 0) (hg : σ.oth n = none) :
  Hires (Cp low tW msg) n σ sl (4 :: σ.W :: σ.f :: σ.d :: cde (σ.lent ++ sl) :: σ.owed) [20, σ.W, σ.d] (σ.manned n sl) := by
 have hp := zCn h hm
 have hnj : n ∉ σ.js := fun x => by obtain ⟨p, hp⟩ := (h.jin n).1 x; rw [hg] at hp; cases hp
 have hoff : ∀ j ∈ σ.js, (if j = n then some (Ph.wt .new) else σ.oth j) = σ.oth j := fun j hj => by
  have : j ≠ n := fun e => hnj (e ▸ hj)
  rw [if_neg this]
 have hwk : ∀ j (r : Wkr), (σ.manned n sl).oth j = some (.wk r) ↔ σ.oth j = some (.wk r) := fun j r => by
  by_cases e : j = n
  ·subst e; simp [Cst.manned, hg]
  ·simp [Cst.manned, e]
 refine ⟨⟨h.nodup, by rw [show (σ.manned n sl).oth 0 = _ from if_neg (Ne.symm hn)]; exact h.zero, fun j => ?_, fun j p hj => ?_, h.lows, fun _ => h.hasW (by rw [hm]; rfl), fun _ => h.hasF (by rw [hm]; rfl), fun _ => h.hasD (by rw [hm]; rfl), h.small, ?_, ?_, zI0 (σ := σ.manned n sl) rfl (.inl ⟨hp.2.2.1, .new, by simp [Cst.manned], hp.1.1, hp.1.2.1, fun j => ?_, hp.1.2.2.2⟩)⟩, rfl, ?_, fun j hj0 hjn => ?_, fun j hj => ?_, ?_, ?_, ?_, rfl, .inr ⟨hp.2.2.2.1, rfl⟩, rfl, ?_, ?_, rfl⟩
 ·rw [show (σ.manned n sl).js = σ.js from rfl, h.jin j]
  exact ⟨fun ⟨p, hp⟩ => ⟨p, (hwk j p).2 hp⟩, fun ⟨p, hp⟩ => ⟨p, (hwk j p).1 hp⟩⟩
 ·by_cases e : j = n
  ·exact e
  ·simp only [Cst.manned, e, if_false] at hj
   exact (hp.2.1 j p hj).elim
 ·have := h.cnt
  rw [hm] at this
  have h5 : σ.js.countP (fun j => counts (if j = n then some (Ph.wt .new) else σ.oth j)) = σ.js.countP fun j => counts (σ.oth j) := List.countP_congr fun j hj => by rw [hoff j hj]
  simp only [Cst.manned, h5]
  exact this
 ·have h5 : σ.js.flatMap (fun j => leftOf (if j = n then some (Ph.wt .new) else σ.oth j)) = σ.js.flatMap fun j => leftOf (σ.oth j) := by
   simp only [List.flatMap]
   rw [List.map_congr_left fun j hj => by rw [hoff j hj]]
  simp only [Cst.manned, h5]
  exact h.owed
 ·exact ⟨fun e => (hp.1.2.2.1 j).1 ((hwk j _).1 e), fun e => (hp.1.2.2.1 j).2.1 ((hwk j _).1 e), fun e => (hp.1.2.2.1 j).2.2 ((hwk j _).1 e)⟩
 ·exact zA1 (σ := σ.manned n sl) (p := .wt .new) hn (by simp [Cst.manned])
 ·show Cst.gh _ j = Cst.gh σ j
  simp [Cst.gh, hj0, Cst.manned, hjn]
 ·simp only [Cp, Cst.ts, Cst.manned]
  by_cases e0 : j = 0
  ·subst e0
   have : (0 : Nat) ≠ n := Ne.symm hn
   simp [this, hm, Mn.deaf]
  ·by_cases e : j = n
   ·subst e; simp [e0, Ph.deaf, Wt.deaf]
   ·simp [e0, e]
 ·show σ.ts.D 0 = 0
  rw [zEe hm]
  rfl
 ·simp only [Cp, Cst.ts, Cst.manned]
  funext j
  by_cases e : j = n
  ·subst e; simp [hg]
  ·simp [e]
 ·rintro ⟨p, x, _⟩
  rw [hg] at x
  cases x
 ·funext b
  simp [Cp, Cst.manned, hm, Mn.hasW, Cst.cells, Cst.state]
 ·funext b
  simp [Cp, Cst.manned, hm, Mn.hasF, Mn.hasD]
theorem zBi (h : Cok low σ) (hb : ∀ j, σ.oth j = none) (hd : σ.ts.D 0 = 0) : Alone (Cp low tW msg) σ := ⟨fun j hj => zAg hj hb, hd⟩
theorem zYf (h : Cok low σ) (hm : σ.mn = .rest) {b : Nat} (hb : low <= b) : Shares (Cp low tW msg) σ b (.cells #[.int .u64 0, .int .u32 0] tW (0, 0)) [1, b] { σ with mn := .sh1, W := b, pubs := b :: σ.pubs } := by
 have hp := zA4 h (.inl hm)
 have hc : σ.cnt = 0 := by
  have := h.cnt
  rw [hp.2.1, hm] at this
  exact this
 refine ⟨⟨h.nodup, h.zero, h.jin, h.one, fun k hk => ?_, fun _ => by simp, fun x => (by cases x), fun x => (by cases x), h.small, ?_, h.owed, hp⟩, rfl, fun j hj => zAi (σ := { σ with mn := .sh1, W := b, pubs := b :: σ.pubs }) hj (hp.1 j), ?_, hp.2.2.2.2.2.2.2.1, hp.2.2.2.2.2.2.2.1, ?_, fun k => ?_, fun k x hk => ?_, fun c x hk => ?_, rfl⟩
 ·rcases List.mem_cons.1 hk with rfl | hk
  ·exact hb
  ·exact h.lows k hk
 ·have := h.cnt
  rw [hm] at this
  exact this
 ·simp [Cp, Cst.ts, hp.2.2.2.2.2.2.1, hm, Mn.deaf]
 ·show b ∉ σ.lent
  rw [hp.2.2.2.2.2.2.2.2]; simp
 ·show k ∈ b :: σ.pubs ↔ _
  rw [List.mem_cons]
  exact Or.comm
 ·simp only [Cp, Mn.hasW, true_and] at hk
  split at hk
  ·rename_i e
   refine .inr ⟨e, ?_⟩
   cases hk
   simp [Cst.cells, Cst.state, hc, hp.2.2.2.1, hp.2.2.2.2.1]
  ·cases hk
 ·simp [Cp, Mn.hasF, Mn.hasD] at hk
theorem zX9 (h : Cok low σ) (hm : σ.mn = .sh1) {b : Nat} (hb : low <= b) (hW : b ≠ σ.W) : Shares (Cp low tW msg) σ b (.chan 0 #[] false 0 0 false) [2, σ.W, b] { σ with mn := .sh2, f := b, pubs := b :: σ.pubs } := by
 have hp := zA4 h (.inr (.inl hm))
 refine ⟨⟨h.nodup, h.zero, h.jin, h.one, fun k hk => ?_, fun _ => List.mem_cons_of_mem _ (h.hasW (by rw [hm]; rfl)), fun _ => ⟨by simp, hW⟩, fun x => (by cases x), h.small, ?_, h.owed, hp⟩, rfl, fun j hj => zAi (σ := { σ with mn := .sh2, f := b, pubs := b :: σ.pubs }) hj (hp.1 j), ?_, hp.2.2.2.2.2.2.2.1, hp.2.2.2.2.2.2.2.1, ?_, fun k => ?_, fun k x hk => ?_, fun c x hk => ?_, rfl⟩
 ·rcases List.mem_cons.1 hk with rfl | hk
  ·exact hb
  ·exact h.lows k hk
 ·have := h.cnt
  rw [hm] at this
  exact this
 ·simp [Cp, Cst.ts, hp.2.2.2.2.2.2.1, hm, Mn.deaf]
 ·show b ∉ σ.lent
  rw [hp.2.2.2.2.2.2.2.2]; simp
 ·show k ∈ b :: σ.pubs ↔ _
  rw [List.mem_cons]
  exact Or.comm
 ·refine .inl ?_
  simp only [Cp, Mn.hasW, true_and, hm, Cst.cells, Cst.state] at hk ⊢
  exact hk
 ·simp only [Cp, Mn.hasF, Mn.hasD, true_and, Bool.false_eq_true, false_and, if_false] at hk
  split at hk
  ·rename_i e
   cases hk
   exact .inr ⟨e, 0, rfl⟩
  ·cases hk
theorem zYx (h : Cok low σ) (hm : σ.mn = .sh2) {b : Nat} (hb : low <= b) (hW : b ≠ σ.W) (hf : b ≠ σ.f) : Shares (Cp low tW msg) σ b (.chan 0 #[] false 0 0 false) (3 :: σ.W :: σ.f :: b :: 0 :: 0 :: 0 :: []) { σ with mn := .hire 0 0, d := b, pubs := b :: σ.pubs } := by
 have hp := zA4 h (.inr (.inr hm))
 have hF := h.hasF (by rw [hm]; rfl)
 refine ⟨⟨h.nodup, h.zero, h.jin, h.one, fun k hk => ?_, fun _ => List.mem_cons_of_mem _ (h.hasW (by rw [hm]; rfl)), fun _ => ⟨List.mem_cons_of_mem _ hF.1, hF.2⟩, fun _ => ⟨by simp, hW, hf⟩, h.small, ?_, h.owed, ?_⟩, ?_, fun j hj => zAi (σ := { σ with mn := .hire 0 0, d := b, pubs := b :: σ.pubs }) hj (hp.1 j), ?_, hp.2.2.2.2.2.2.2.1, hp.2.2.2.2.2.2.2.1, ?_, fun k => ?_, fun k x hk => ?_, fun c x hk => ?_, rfl⟩
 ·rcases List.mem_cons.1 hk with rfl | hk
  ·exact hb
  ·exact h.lows k hk
 ·have := h.cnt
  rw [hm] at this
  exact this
 ·refine zEp (k := 0) (m := 0) rfl ⟨⟨hp.2.2.2.1, hp.2.2.2.2.1, fun j => ?_, ?_⟩, fun j p => ?_, hp.2.2.2.2.2.1, hp.2.2.2.2.2.2.2.1, ?_⟩
  ·show σ.oth j ≠ _ ∧ _
   rw [show ({ σ with mn := .hire 0 0, d := b, pubs := b :: σ.pubs } : Cst).oth j = none from hp.1 j]
   simp
  ·show σ.car <= 1
   rw [hp.2.2.2.2.2.2.1]
   exact Nat.zero_le _
  ·show σ.oth j ≠ _
   rw [hp.1 j]
   simp
  ·show σ.js.length <= 0
   rw [hp.2.1]
   exact Nat.le_refl _
 ·show some (Mn.enc _ _ _ _ _ _) = _
  simp [Mn.enc, hp.2.2.1, hp.2.2.2.2.2.2.2.2, cde]
 ·simp [Cp, Cst.ts, hp.2.2.2.2.2.2.1, hm, Mn.deaf]
 ·show b ∉ σ.lent
  rw [hp.2.2.2.2.2.2.2.2]; simp
 ·show k ∈ b :: σ.pubs ↔ _
  rw [List.mem_cons]
  exact Or.comm
 ·refine .inl ?_
  simp only [Cp, Mn.hasW, true_and, hm, Cst.cells, Cst.state] at hk ⊢
  exact hk
 ·simp only [Cp, Mn.hasF, Mn.hasD, true_and] at hk
  split at hk
  ·rename_i e
   cases hk
   refine .inl ?_
   simp [Cp, hm, Mn.hasF, e]
  ·split at hk
   ·rename_i _ e
    cases hk
    exact .inr ⟨e, 0, by rw [show σ.shut = false from hp.2.2.2.2.2.1]⟩
   ·cases hk
theorem zXc (h : Cok low σ) {W f d e : Nat} {o : List Nat} (hg : σ.gh 0 = some (4 :: W :: f :: d :: e :: o)) {c : Nat} (hc : (Cp low tW msg).ch σ c = some true) : c = d ∧ o = [] ∧ Finds (Cp low tW msg) σ c [5, W, f, d, e] { σ with mn := .over, car := 0 } := by
 obtain ⟨hm, rfl, rfl, rfl, rfl, rfl⟩ := zGw hg
 have hcd : c = σ.d ∧ σ.shut = true := by
  simp only [Cp] at hc
  split at hc
  ·cases hc
  ·split at hc
   ·rename_i e
    exact ⟨e.2, by simpa using hc⟩
   ·cases hc
 have hp := h.phase
 unfold Cst.phase at hp
 rw [hm] at hp
 rcases hp with ⟨x, _⟩ | ⟨_, hno, hcar, hw, hs⟩
 ·rw [hcd.2] at x; cases x
 have ho : σ.owed = [] := by
  have := h.owed
  have e : σ.js.flatMap (fun j => leftOf (σ.oth j)) = [] := by
   rw [List.flatMap_eq_nil_iff]
   intro j _
   rw [hno j]
   rfl
  rw [e] at this
  exact this.eq_nil
 refine ⟨hcd.1, ho, ⟨h.nodup, h.zero, h.jin, h.one, h.lows, fun _ => h.hasW (by rw [hm]; rfl), fun _ => h.hasF (by rw [hm]; rfl), fun _ => h.hasD (by rw [hm]; rfl), h.small, ?_, h.owed, hno, rfl⟩, rfl, fun j hj => zAi (σ := { σ with mn := .over, car := 0 }) hj (hno j), ⟨h.deaf_hear hm, rfl⟩, fun x hx hne => ?_, rfl, rfl, ?_, ?_, rfl⟩
 ·have := h.cnt
  rw [hm] at this
  exact this
 ·rcases hx with ⟨x1, _⟩ | ⟨_, x1⟩
  ·rw [hcar] at x1; cases x1
  ·exact absurd (x1.trans (congrArg Car.cls hcd.1.symm)) hne
 ·funext b
  simp [Cp, hm, Mn.hasW, Cst.cells, Cst.state]
 ·funext b
  simp [Cp, hm, Mn.hasF, Mn.hasD]
theorem zRt (h : Cok low σ) (hm : σ.mn = .over) : Alone (Cp low tW msg) σ ∧ Settles (Cp low tW msg) σ [0] { σ with mn := .rest, owed := [], js := [], cnt := 0, wtr := false, sem := false, shut := false, car := 0, ow := 0, lent := [] } := by
 have hp := h.phase
 unfold Cst.phase at hp
 rw [hm] at hp
 obtain ⟨hno, hcar⟩ := hp
 have hd : σ.ts.D 0 = 0 := by simp [Cst.ts, hm, Mn.deaf]
 refine ⟨zBi h hno hd, ⟨List.nodup_nil, h.zero, fun j => ?_, fun j p hj => ?_, h.lows, fun x => (by cases x), fun x => (by cases x), fun x => (by cases x), by simp, rfl, .refl _, hno, rfl, rfl, rfl, rfl, rfl, rfl, rfl, rfl⟩, rfl, fun j hj => ?_, fun c x => ?_, ?_, ?_, rfl, rfl, fun k x hk => ?_, fun c x hk => ?_, rfl⟩
 ·constructor
  ·intro x; cases x
  ·rintro ⟨p, hp⟩
   have := (hno j).symm.trans hp
   cases this
 ·have := (hno j).symm.trans hj
  cases this
 ·show Cst.gh _ j = none
  unfold Cst.gh
  rw [if_neg hj, show _ = none from hno j]
  rfl
 ·rcases x with ⟨x, _⟩ | ⟨x, _⟩ <;> rw [hcar] at x <;> cases x
 ·show Mn.deaf .rest = σ.ts.D 0
  rw [hd]
  rfl
 ·rintro ⟨p, x, _⟩
  have := h.zero.symm.trans x
  cases this
 ·simp [Cp, Mn.hasW] at hk
 ·simp [Cp, Mn.hasF, Mn.hasD] at hk
end
end Go.Proofs.Yteppiphdbondeaa.N
namespace Go.Proofs.Yteppiphdbondeaa.N
open Go Go.RowKit Go.Conc
set_option linter.unusedSectionVars false
set_option linter.unusedVariables false
set_option linter.unusedSimpArgs false

def Ent (P : Program) (f : FuncId) (e : Array Value -> Sem Value) : Prop := ∃ fn, P.funcs[f]? = some fn ∧ (fn.name == "runtime.NumGoroutine") = false ∧ fn.body.isNone = true ∧ Extern.findNext fn = none ∧ Extern.find fn = some e
def Does (K : Pro) (P : Program) (main : Bool) (g g' : Goroutine) (σ : K.St) (acts : List MemAct) (σ' : K.St) : Prop :=
 ∀ w, K.shows σ w -> ∃ w' es, stepG P main g w = .go g' w' es ∧ es.toList.map MemAct.ofEvent = acts ∧ K.turns σ σ' w w'
section
variable {low : Nat} {tW : TypeId} {msg : Nat -> Value} {σ σ' : Cst}
theorem zBl (hW : σ.mn.hasW = true) {w : World} (h : (Cp low tW msg).shows σ w) : w.heap[σ.W]? = some (σ.cells tW) := h.1 σ.W _ (by simp [Cp, hW])
theorem wE (hW : σ.mn.hasW = true) {w : World} (h : (Cp low tW msg).shows σ w) : w.cell? ⟨σ.W, 0, none⟩ = some (.int .u64 (σ.state : Int)) := by
 rw [cell_of_row w σ.W 0 _ _ _ (zBl hW h)]
 rfl
theorem zBa (hW : σ.mn.hasW = true) {w : World} (h : (Cp low tW msg).shows σ w) : w.cell? ⟨σ.W, 1, none⟩ = some (.int .u32 (σ.sem.toNat : Int)) := by
 rw [cell_of_row w σ.W 1 _ _ _ (zBl hW h)]
 rfl
theorem wO (hW : σ.mn.hasW = true) {w : World} (h : (Cp low tW msg).shows σ w) (o : Nat) : w.frozen? ⟨σ.W, o, none⟩ = false := by
 have := zBl hW h
 simp [World.frozen?, this, Cst.cells]
theorem wX {w : World} (h : (Cp low tW msg).shows σ w) (e1 : (Cp low tW msg).sh σ' = (Cp low tW msg).sh σ) (e2 : (Cp low tW msg).ch σ' = (Cp low tW msg).ch σ) : (Cp low tW msg).turns σ σ' w w :=
 ⟨⟨fun b o hb => h.1 b o (by rw [<- e1]; exact hb), fun c x hc => h.2 c x (by rw [<- e2]; exact hc)⟩, rfl, rfl, rfl, rfl, rfl, fun _ _ => rfl⟩
theorem zAx (hk : Cok low σ) (hW : σ.mn.hasW = true) {w : World} (h : (Cp low tW msg).shows σ w) {o : Nat} {u : Value} (e1 : ∀ b, (Cp low tW msg).sh σ' b = if b = σ.W then some (.cells ((#[.int .u64 (σ.state : Int), .int .u32 (σ.sem.toNat : Int)] : Array Value).setIfInBounds o u) tW (0, 0)) else none) (e2 : (Cp low tW msg).ch σ' = (Cp low tW msg).ch σ) :
  (Cp low tW msg).turns σ σ' w (w.setCell ⟨σ.W, o, none⟩ u) := by
 have hc := zBl hW h
 have hoff : ∀ b, b ≠ σ.W -> (w.setCell ⟨σ.W, o, none⟩ u).heap[b]? = w.heap[b]? := fun b hb => Below.heap_setCell w _ u b (fun e => hb e)
 refine ⟨⟨fun b ob hb => ?_, fun c x hcx => ?_⟩, by simp [World.setCell], rfl, rfl, rfl, rfl, fun b hb => hoff b fun e => hb (by rw [e]; exact hk.hasW hW)⟩
 ·rw [e1] at hb
  split at hb
  ·rename_i e
   subst e
   cases hb
   exact zIa hc u
  ·cases hb
 ·rw [e2] at hcx
  obtain ⟨r, hr⟩ := h.2 c x hcx
  refine ⟨r, ?_⟩
  rw [hoff c ?_]
  ·exact hr
  ·rintro rfl
   rw [hc] at hr
   cases hr
variable {P : Program} {main : Bool} {b : Frame} {a : Act} {k : List Item} {cs : List Frame} {ops : Array Oper} {j : Nat} {rest : List Nat} {o : Oper} {f : FuncId} {ats : Array TypeId} {aS : Array Operand}
theorem zCc (m : Mark) (hm : ∀ g, m ≠ .extern g) (ho : ops[j]? = some o) (hw : Region.wanted o (yielded ops a.tmps) = true) (hk : b.kind ≠ .early) (hop : o.op = .call { callee := .value (.func f), args := aS, argTypes := ats })
  (he : Ent P f (fun _ => do mark m; pure Extern.Race.none_)) (e1 : (Cp low tW msg).sh σ' = (Cp low tW msg).sh σ) (e2 : (Cp low tW msg).ch σ' = (Cp low tW msg).ch σ) :
  Does (Cp low tW msg) P main (G (b.at a (.inRegion ops (j :: rest) :: k)) cs) (G (b.at (a.put o.dst (.tuple #[])) (.inRegion ops rest :: k)) cs) σ [.mark m] σ' := fun w h => by
 obtain ⟨fn, h1, h2, h3, h4, h5⟩ := he
 exact ⟨w, _, stepG_mark0 m hm ho hw hk hop h1 h2 h3 h4 h5, rfl, wX h e1 e2⟩
theorem zDn (mk : Addr -> Mark) (hm : ∀ ad g, mk ad ≠ .extern g) {ad : Addr} (hx : (aS.map a.eval)[0]? = some (.pointer (some ad))) (ho : ops[j]? = some o) (hw : Region.wanted o (yielded ops a.tmps) = true) (hk : b.kind ≠ .early) (hop : o.op = .call { callee := .value (.func f), args := aS, argTypes := ats })
  (he : Ent P f (Extern.Race.marked mk)) (e1 : (Cp low tW msg).sh σ' = (Cp low tW msg).sh σ) (e2 : (Cp low tW msg).ch σ' = (Cp low tW msg).ch σ) :
  Does (Cp low tW msg) P main (G (b.at a (.inRegion ops (j :: rest) :: k)) cs) (G (b.at (a.put o.dst (.tuple #[])) (.inRegion ops rest :: k)) cs) σ [.mark (mk ad)] σ' := fun w h => by
 obtain ⟨fn, h1, h2, h3, h4, h5⟩ := he
 exact ⟨w, _, stepG_markAt mk hm ho hw hk hop h1 h2 h3 h4 h5 hx, rfl, wX h e1 e2⟩
theorem zEh (hc : Cok low σ) (hW : σ.mn.hasW = true) {x y : Operand} {dl : Int} {s : Nat} (hx : a.eval x = .pointer (some ⟨σ.W, 0, none⟩)) (hy : a.eval y = .int .u64 dl) (hs : IntKind.u64.wrap ((σ.state : Int) + dl) = (s : Int)) (ho : ops[j]? = some o) (hw : Region.wanted o (yielded ops a.tmps) = true) (hk : b.kind ≠ .early) (hop : o.op = .call { callee := .value (.func f), args := #[x, y], argTypes := ats })
  (he : Ent P f (Extern.Atomic.update (Op.intArith .add) .u64 true)) (e1 : ∀ b, (Cp low tW msg).sh σ' b = if b = σ.W then some (.cells #[.int .u64 (s : Int), .int .u32 (σ.sem.toNat : Int)] tW (0, 0)) else none) (e2 : (Cp low tW msg).ch σ' = (Cp low tW msg).ch σ) :
  Does (Cp low tW msg) P main (G (b.at a (.inRegion ops (j :: rest) :: k)) cs) (G (b.at (a.put o.dst (.int .u64 (s : Int))) (.inRegion ops rest :: k)) cs) σ [.access ⟨.cell ⟨σ.W, 0, none⟩, false, true⟩, .access ⟨.cell ⟨σ.W, 0, none⟩, true, true⟩] σ' := fun w h => by
 obtain ⟨fn, h1, h2, h3, h4, h5⟩ := he
 have := stepG_add_atomic (main := main) (cs := cs) (rest := rest) (kk := k) (w := w) ho hw hk hop h1 h2 h3 h4 .u64 h5 hx hy (wE hW h) (wO hW h 0)
 rw [hs] at this
 exact ⟨_, _, this, rfl, zAx hc hW h e1 e2⟩
theorem zDb (hW : σ.mn.hasW = true) {x : Operand} (hx : a.eval x = .pointer (some ⟨σ.W, 0, none⟩)) (ho : ops[j]? = some o) (hw : Region.wanted o (yielded ops a.tmps) = true) (hk : b.kind ≠ .early) (hop : o.op = .call { callee := .value (.func f), args := #[x], argTypes := ats })
  (he : Ent P f (Extern.Atomic.loadT (.int .u64))) (e1 : (Cp low tW msg).sh σ' = (Cp low tW msg).sh σ) (e2 : (Cp low tW msg).ch σ' = (Cp low tW msg).ch σ) :
  Does (Cp low tW msg) P main (G (b.at a (.inRegion ops (j :: rest) :: k)) cs) (G (b.at (a.put o.dst (.int .u64 (σ.state : Int))) (.inRegion ops rest :: k)) cs) σ [.access ⟨.cell ⟨σ.W, 0, none⟩, false, true⟩] σ' := fun w h => by
 obtain ⟨fn, h1, h2, h3, h4, h5⟩ := he
 exact ⟨w, _, stepG_load_atomic ho hw hk hop h1 h2 h3 h4 .u64 h5 hx (wE hW h), rfl, wX h e1 e2⟩
theorem zPy (hc : Cok low σ) (hW : σ.mn.hasW = true) {x y : Operand} {s : Nat} (hx : a.eval x = .pointer (some ⟨σ.W, 0, none⟩)) (hy : a.eval y = .int .u64 (s : Int)) (ho : ops[j]? = some o) (hw : Region.wanted o (yielded ops a.tmps) = true) (hk : b.kind ≠ .early) (hop : o.op = .call { callee := .value (.func f), args := #[x, y], argTypes := ats })
  (he : Ent P f Extern.Atomic.storeT) (e1 : ∀ b, (Cp low tW msg).sh σ' b = if b = σ.W then some (.cells #[.int .u64 (s : Int), .int .u32 (σ.sem.toNat : Int)] tW (0, 0)) else none) (e2 : (Cp low tW msg).ch σ' = (Cp low tW msg).ch σ) :
  Does (Cp low tW msg) P main (G (b.at a (.inRegion ops (j :: rest) :: k)) cs) (G (b.at (a.put o.dst (.tuple #[])) (.inRegion ops rest :: k)) cs) σ [.access ⟨.cell ⟨σ.W, 0, none⟩, true, true⟩] σ' := fun w h => by
 obtain ⟨fn, h1, h2, h3, h4, h5⟩ := he
 exact ⟨_, _, stepG_store_atomic ho hw hk hop h1 h2 h3 h4 h5 hx hy (wE hW h) (wO hW h 0), rfl, zAx hc hW h e1 e2⟩
theorem zUq (hc : Cok low σ) (hW : σ.mn.hasW = true) {x y z : Operand} {s : Nat} (hx : a.eval x = .pointer (some ⟨σ.W, 0, none⟩)) (hy : a.eval y = .int .u64 (σ.state : Int)) (hz : a.eval z = .int .u64 (s : Int)) (ho : ops[j]? = some o) (hw : Region.wanted o (yielded ops a.tmps) = true) (hk : b.kind ≠ .early) (hop : o.op = .call { callee := .value (.func f), args := #[x, y, z], argTypes := ats })
  (he : Ent P f (Extern.Atomic.casT (.int .u64))) (e1 : ∀ b, (Cp low tW msg).sh σ' b = if b = σ.W then some (.cells #[.int .u64 (s : Int), .int .u32 (σ.sem.toNat : Int)] tW (0, 0)) else none) (e2 : (Cp low tW msg).ch σ' = (Cp low tW msg).ch σ) :
  Does (Cp low tW msg) P main (G (b.at a (.inRegion ops (j :: rest) :: k)) cs) (G (b.at (a.put o.dst (.bool true)) (.inRegion ops rest :: k)) cs) σ [.access ⟨.cell ⟨σ.W, 0, none⟩, false, true⟩, .access ⟨.cell ⟨σ.W, 0, none⟩, true, true⟩] σ' := fun w h => by
 obtain ⟨fn, h1, h2, h3, h4, h5⟩ := he
 exact ⟨_, _, stepG_cas_hit ho hw hk hop h1 h2 h3 h4 .u64 h5 hx hy hz (wE hW h) (wO hW h 0), rfl, zAx hc hW h e1 e2⟩
theorem zR0 (hc : Cok low σ) (hW : σ.mn.hasW = true) {x y z : Operand} {s s' : Nat} (hx : a.eval x = .pointer (some ⟨σ.W, 0, none⟩)) (hy : a.eval y = .int .u64 (s' : Int)) (hz : a.eval z = .int .u64 (s : Int)) (hne : σ.state ≠ s') (ho : ops[j]? = some o) (hw : Region.wanted o (yielded ops a.tmps) = true) (hk : b.kind ≠ .early) (hop : o.op = .call { callee := .value (.func f), args := #[x, y, z], argTypes := ats })
  (he : Ent P f (Extern.Atomic.casT (.int .u64))) (e1 : (Cp low tW msg).sh σ' = (Cp low tW msg).sh σ) (e2 : (Cp low tW msg).ch σ' = (Cp low tW msg).ch σ) :
  Does (Cp low tW msg) P main (G (b.at a (.inRegion ops (j :: rest) :: k)) cs) (G (b.at (a.put o.dst (.bool false)) (.inRegion ops rest :: k)) cs) σ [.access ⟨.cell ⟨σ.W, 0, none⟩, false, true⟩] σ' := fun w h => by
 obtain ⟨fn, h1, h2, h3, h4, h5⟩ := he
 exact ⟨_, _, stepG_cas_miss ho hw hk hop h1 h2 h3 h4 .u64 h5 hx hy hz (wE hW h) (wO hW h 0) (by omega), rfl, wX h e1 e2⟩
theorem zN3 (hc : Cok low σ) (hW : σ.mn.hasW = true) (hs : σ.sem = false) (hx : (aS.map a.eval)[0]? = some (.pointer (some ⟨σ.W, 1, none⟩))) (ho : ops[j]? = some o) (hw : Region.wanted o (yielded ops a.tmps) = true) (hk : b.kind ≠ .early) (hop : o.op = .call { callee := .value (.func f), args := aS, argTypes := ats })
  (he : Ent P f Extern.Sync.semrelease) (e1 : ∀ b, (Cp low tW msg).sh σ' b = if b = σ.W then some (.cells #[.int .u64 (σ.state : Int), .int .u32 1] tW (0, 0)) else none) (e2 : (Cp low tW msg).ch σ' = (Cp low tW msg).ch σ) :
  Does (Cp low tW msg) P main (G (b.at a (.inRegion ops (j :: rest) :: k)) cs) (G (b.at (a.put o.dst (.tuple #[])) (.inRegion ops rest :: k)) cs) σ (semActs σ.W) σ' := fun w h => by
 obtain ⟨fn, h1, h2, h3, h4, h5⟩ := he
 have hc1 := zBa hW h
 rw [hs] at hc1
 exact ⟨_, _, stepG_semrelease ho hw hk hop h1 h2 h3 h4 h5 hx hc1 (wO hW h 1), rfl, zAx hc hW h (fun b => by rw [e1 b, hs]; rfl) e2⟩
theorem zNy (hc : Cok low σ) (hW : σ.mn.hasW = true) (hs : σ.sem = true) (hx : (aS.map a.eval)[0]? = some (.pointer (some ⟨σ.W, 1, none⟩))) (ho : ops[j]? = some o) (hw : Region.wanted o (yielded ops a.tmps) = true) (hk : b.kind ≠ .early) (hop : o.op = .call { callee := .value (.func f), args := aS, argTypes := ats })
  (he : Ent P f Extern.Sync.semacquire) (e1 : ∀ b, (Cp low tW msg).sh σ' b = if b = σ.W then some (.cells #[.int .u64 (σ.state : Int), .int .u32 0] tW (0, 0)) else none) (e2 : (Cp low tW msg).ch σ' = (Cp low tW msg).ch σ) :
  Does (Cp low tW msg) P main (G (b.at a (.inRegion ops (j :: rest) :: k)) cs) (G (b.at (a.put o.dst (.tuple #[])) (.inRegion ops rest :: k)) cs) σ (semActs σ.W) σ' := fun w h => by
 obtain ⟨fn, h1, h2, h3, h4, h5⟩ := he
 have hc1 := zBa hW h
 rw [hs] at hc1
 exact ⟨_, _, stepG_semacquire ho hw hk hop h1 h2 h3 h4 h5 hx hc1 (by decide) (wO hW h 1), rfl, zAx hc hW h (fun b => by rw [e1 b, hs]; rfl) e2⟩
theorem stands (hW : σ.mn.hasW = true) (hs : σ.sem = false) (hx : (aS.map a.eval)[0]? = some (.pointer (some ⟨σ.W, 1, none⟩))) (ho : ops[j]? = some o) (hw : Region.wanted o (yielded ops a.tmps) = true) (hop : o.op = .call { callee := .value (.func f), args := aS, argTypes := ats })
  (he : Ent P f Extern.Sync.semacquire) {w : World} (h : (Cp low tW msg).shows σ w) : stepG P main (G (b.at a (.inRegion ops (j :: rest) :: k)) cs) w = .go { G (b.at a (.inRegion ops (j :: rest) :: k)) cs with status := .blocked } w := by
 obtain ⟨fn, h1, h2, h3, h4, h5⟩ := he
 have hc1 := zBa hW h
 rw [hs] at hc1
 exact stepG_semacquire_wait ho hw hop h1 h2 h3 h4 h5 hx hc1
theorem zEt {x : Operand} {s t e : TypeId} {dst : Option Nat} {ty : TypeId} {pos : String} {after : Array Edge} {gd : Option (Nat × Bool)} {off : Nat} (hW : σ.mn.hasW = true) (hx : a.eval x = .pointer (some ⟨σ.W, off, none⟩)) (ho : ops[j]? = some ⟨dst, .convert s t x, ty, pos, after, gd⟩) (hw : Region.wanted ⟨dst, .convert s t x, ty, pos, after, gd⟩ (yielded ops a.tmps) = true) (hk : b.kind ≠ .early)
  (hs : P.underlying s = some (.pointer e)) (hd : P.underlying t = some .unsafePointer) (hsz : (P.info? e).map (fun i => decide (i.size = 0)) = some false) (hoff : off = 0 ∨ off = 1) {w : World} (h : (Cp low tW msg).shows σ w) :
  stepG P main (G (b.at a (.inRegion ops (j :: rest) :: k)) cs) w = .go (G (b.at (a.put dst (.pointer (some ⟨σ.W, off, none⟩))) (.inRegion ops rest :: k)) cs) w := by
 have hc : ∃ u, w.cell? ⟨σ.W, off, none⟩ = some u := by
  rcases hoff with rfl | rfl
  ·exact ⟨_, wE hW h⟩
  ·exact ⟨_, zBa hW h⟩
 obtain ⟨u, hc⟩ := hc
 have hr : (execOp a.eval ⟨dst, .convert s t x, ty, pos, after, gd⟩).run P w = .ok (.value (.pointer (some ⟨σ.W, off, none⟩))) w := by
  simp [execOp, hx, run_convert_to_unsafe hs hd hsz hc]
 rw [stepG_value ho hw hk hr]
 have he : (execOp a.eval ⟨dst, .convert s t x, ty, pos, after, gd⟩).events P w #[] = #[] := by
  simp [execOp, hx, events_convert_to_unsafe hs hd hsz hc]
 unfold listed
 rw [he, seen_none]
end
variable {q : Wkr}
section
variable {P : Program} {K : Pro} {i : Nat} {γ : Gh} {v : World} {g : Goroutine} {Stop : Goroutine -> World -> Prop}
theorem zMv (hi : i ≠ 0) (hv : v.output = gout γ) (hr : g.status = .running) (hm : mayWake P g = true) (Nx : Gh -> Goroutine -> Prop)
  (h : ∀ σ, K.ok σ -> K.gh σ i = some γ -> ∃ acts cl σ' g', K.Moves i σ acts cl σ' ∧ Does K P false g g' σ acts σ' ∧
   ((∃ γ', K.gh σ' i = some γ' ∧ ¬ (K.ts σ').Dn i ∧ Nx γ' g') ∨ (∃ γ', K.gh σ' i = some γ' ∧ (K.ts σ').Dn i ∧ Quiet P K i γ' g') ∨ ∃ n, K.gh σ' i = none ∧ QuitsD P n (dacts ((K.ts σ).D i) acts) g'))
  (k : ∀ γ' g', Nx γ' g' -> @Gs P (nSys P K i) Stop g' (saying v (gout γ'))) : @Gs P (nSys P K i) Stop g v := by
 refine @Gs.sync' P (nSys P K i) _ _ _ fun v₁ h1 => ⟨hr, γ, h1.output.trans hv, .act hm fun σ ok hg => .inr ?_⟩
 obtain ⟨acts, cl, σ', g', hmv, hd, hf⟩ := h σ ok hg
 refine ⟨acts, cl, σ', g', hmv, fun F S w _ hs => hd w hs, ?_⟩
 rcases hf with ⟨γ', h2, h3, h4⟩ | ⟨γ', h2, h3, h4⟩ | ⟨n, h2, h3⟩
 ·exact .inl ⟨γ', h2, h3, @Gs.rely P (nSys P K i) _ _ _ _ (k γ' g' h4) (yB h1 _)⟩
 ·exact .inr (.inl ⟨hi, γ', h2, h3, h4⟩)
 ·exact .inr (.inr ⟨hi, n, h2, h3⟩)
theorem zRx (hi : i ≠ 0) (hv : v.output = gout γ) (hr : g.status = .running) (hof : g.offers = none) (hm : mayWake P g = true) (Nx : Gh -> Goroutine -> Prop)
  (h : ∀ σ, K.ok σ -> K.gh σ i = some γ -> (K.idle (K.sh σ) γ ∧ ∀ w, K.shows σ w -> stepG P false g w = .go { g with status := .blocked } w) ∨ ∃ acts cl σ' g', K.Moves i σ acts cl σ' ∧ Does K P false g g' σ acts σ' ∧ ∃ γ', K.gh σ' i = some γ' ∧ ¬ (K.ts σ').Dn i ∧ Nx γ' g')
  (k : ∀ γ' g', Nx γ' g' -> @Gs P (nSys P K i) Stop g' (saying v (gout γ'))) : @Gs P (nSys P K i) Stop g v := by
 refine @Gs.sync' P (nSys P K i) _ _ _ fun v₁ h1 => ⟨hr, γ, h1.output.trans hv, .act hm fun σ ok hg => ?_⟩
 rcases h σ ok hg with ⟨h2, h3⟩ | ⟨acts, cl, σ', g', hmv, hd, γ', h2, h3, h4⟩
 ·exact .inl ⟨h2, hof, fun F S w _ hs => h3 w hs⟩
 ·exact .inr ⟨acts, cl, σ', g', hmv, fun F S w _ hs => hd w hs, .inl ⟨γ', h2, h3, @Gs.rely P (nSys P K i) _ _ _ _ (k γ' g' h4) (yB h1 _)⟩⟩
theorem zOw (hv : v.output = gout γ) (hr : g.status = .running) {g' : Goroutine} (h : ∀ σ, K.ok σ -> K.gh σ i = some γ -> ∀ w, K.shows σ w -> stepG P false g w = .go g' w) (k : @Gs P (nSys P K i) Stop g' v) : @Gs P (nSys P K i) Stop g v :=
 @Gs.sync' P (nSys P K i) _ _ _ fun v₁ h1 => ⟨hr, γ, h1.output.trans hv, .look g' h (@Gs.rely P (nSys P K i) _ _ _ _ k h1)⟩
theorem zR7 (hv : v.output = gout γ) (hr : g.status = .running) (hm : mayWake P g = true) (Nx : Gh -> Goroutine -> Prop)
  (h : ∀ σ, K.ok σ -> K.gh σ 0 = some γ -> ∃ acts cl σ' g', K.Moves 0 σ acts cl σ' ∧ Does K P true g g' σ acts σ' ∧ ∃ γ', K.gh σ' 0 = some γ' ∧ ¬ (K.ts σ').Dn 0 ∧ Nx γ' g')
  (k : ∀ γ' g', Nx γ' g' -> @Gs P (zSys P K) Stop g' (saying v (gout γ'))) : @Gs P (zSys P K) Stop g v := by
 refine @Gs.sync' P (zSys P K) _ _ _ fun v₁ h1 => ⟨hr, γ, h1.output.trans hv, .common (.act hm fun σ ok hg => .inr ?_)⟩
 obtain ⟨acts, cl, σ', g', hmv, hd, γ', h2, h3, h4⟩ := h σ ok hg
 exact ⟨acts, cl, σ', g', hmv, fun F S w _ hs => hd w hs, .inl ⟨γ', h2, h3, @Gs.rely P (zSys P K) _ _ _ _ (k γ' g' h4) (yB h1 _)⟩⟩
theorem zV1 (hv : v.output = gout γ) (hr : g.status = .running) {g' : Goroutine} (h : ∀ σ, K.ok σ -> K.gh σ 0 = some γ -> ∀ w, K.shows σ w -> stepG P true g w = .go g' w) (k : @Gs P (zSys P K) Stop g' v) : @Gs P (zSys P K) Stop g v :=
 @Gs.sync' P (zSys P K) _ _ _ fun v₁ h1 => ⟨hr, γ, h1.output.trans hv, .common (.look g' h (@Gs.rely P (zSys P K) _ _ _ _ k h1))⟩
end
section
variable {P : Program} {b : Frame} {a : Act} {k : List Item} {cs : List Frame} {ops : Array Oper} {j : Nat} {rest : List Nat} {o : Oper} {f : FuncId} {ats : Array TypeId} {aS : Array Operand} {e : Array Value -> Sem Value}
theorem qN (ho : ops[j]? = some o) (hop : o.op = .call { callee := .value (.func f), args := aS, argTypes := ats }) (he : Ent P f e) : mayWake P (G (b.at a (.inRegion ops (j :: rest) :: k)) cs) = true := by
 obtain ⟨fn, h1, _, h3, _⟩ := he
 have h2 : fn.body = none := by simpa using h3
 have ef : (b.at a (.inRegion ops (j :: rest) :: k)).eval (.func f) = .func (.func f) #[] #[] := rfl
 simp [mayWake, G, Frame.at, ho, hop] at ef ⊢
 simp [ef, h1, h2]
theorem zIk {σ : Cst} {i : Nat} {γ : Gh} {W f : Nat} (h0 : σ.oth 0 = none) (hg : σ.gh i = some γ) (he : γ = q.enc W f) (hq : q.quiet = true) : i ≠ 0 ∧ σ.oth i = some (.wk q) ∧ W = σ.W := by
 subst he
 obtain ⟨p, h1, h2, h3⟩ := ghs h0 hg (fun W f d e o m => by cases q <;> cases m <;> simp [Wkr.enc, Mn.enc])
 refine ⟨h1, ?_⟩
 cases p with
 | wk p => cases q <;> cases p <;> first | (simp_all [Ph.enc, Wkr.enc]; done) | cases hq
 | wt p => cases q <;> cases p <;> first | (simp_all [Ph.enc, Wkr.enc, Wt.enc]; done) | cases hq
theorem zB9 {σ : Cst} {i : Nat} {γ : Gh} {q : Wt} {W d : Nat} (h0 : σ.oth 0 = none) (hg : σ.gh i = some γ) (he : γ = q.enc W d) : i ≠ 0 ∧ σ.oth i = some (.wt q) ∧ W = σ.W ∧ d = σ.d := by
 subst he
 obtain ⟨p, h1, h2, h3⟩ := ghs h0 hg (fun W f d e o m => by cases q <;> cases m <;> simp [Wt.enc, Mn.enc])
 refine ⟨h1, ?_⟩
 cases p with
 | wk p => cases q <;> cases p <;> simp_all [Ph.enc, Wkr.enc, Wt.enc]
 | wt p => cases q <;> cases p <;> simp_all [Ph.enc, Wt.enc]
end
section
variable {low : Nat} {tW : TypeId} {msg : Nat -> Value} {σ : Cst} {P : Program} {main : Bool} {b : Frame} {a : Act} {k : List Item} {cs : List Frame} {ops : Array Oper} {j : Nat} {rest : List Nat} {o : Oper}
theorem zIn {x : Builtin} {aS : Array Operand} {ats : Array TypeId} (ho : ops[j]? = some o) (hop : o.op = .call { callee := .builtin x, args := aS, argTypes := ats }) : mayWake P (G (b.at a (.inRegion ops (j :: rest) :: k)) cs) = true := by
 simp [mayWake, G, Frame.at, ho, hop]
theorem zQs {x : Operand} {ats : Array TypeId} (h0 : Cok low σ) (hm : σ.mn = .hear) (hsh : σ.shut = false) {σ' : Cst} (hx : a.eval x = .chan (some σ.d)) (ho : ops[j]? = some o) (hw : Region.wanted o (yielded ops a.tmps) = true) (hk : b.kind ≠ .early) (hop : o.op = .call { callee := .builtin .close, args := #[x], argTypes := ats })
  (e1 : (Cp low tW msg).sh σ' = (Cp low tW msg).sh σ) (e2 : ∀ c, (Cp low tW msg).ch σ' c = if c = σ.d then some true else (Cp low tW msg).ch σ c) :
  Does (Cp low tW msg) P main (G (b.at a (.inRegion ops (j :: rest) :: k)) cs) (G (b.at (a.put o.dst (.tuple #[])) (.inRegion ops rest :: k)) cs) σ [.access ⟨.obj σ.d, false, true⟩, .close σ.d] σ' := fun w h => by
 have hD := h0.hasD (by rw [hm]; rfl)
 obtain ⟨r, hr⟩ := h.2 σ.d false (by simp [Cp, hm, Mn.hasF, Mn.hasD, hD.2.2, hsh])
 have he : execOp a.eval o = Next.value <$> Builtin.close_ ats o.type #[.chan (some σ.d)] := by
  unfold execOp
  simp [hop, resolve, invoke, hx]
  rfl
 have hrun : (execOp a.eval o).run P w = .ok (.value (.tuple #[])) { w with heap := w.heap.setIfInBounds σ.d (.chan 0 #[] true r r false) } := by
  rw [he]
  simp [run_close_open (P := P) ats o.type hr]
 have hev : (execOp a.eval o).events P w #[] = #[⟨.obj σ.d, false, true⟩, ⟨.obj σ.d, true, true⟩] := by
  rw [he]
  simp [events_close_open (P := P) (es := #[]) ats o.type hr]
 have hlt := (Array.getElem?_eq_some_iff.1 hr).1
 refine ⟨_, _, stepG_value ho hw hk hrun, ?_, ⟨⟨fun c ob hb => ?_, fun c x hc => ?_⟩, by simp, rfl, rfl, rfl, rfl, fun c hc => ?_⟩⟩
 ·unfold listed
  rw [hev]
  have : seen P b.fn #[⟨.obj σ.d, false, true⟩, ⟨.obj σ.d, true, true⟩] = #[⟨.obj σ.d, false, true⟩, ⟨.obj σ.d, true, true⟩] := by
   rw [seen_def]
   simp [seenStep]
  rw [this]
  rfl
 ·rw [e1] at hb
  have hne : c ≠ σ.d := by
   rintro rfl
   simp only [Cp] at hb
   split at hb
   ·rename_i y
    exact hD.2.1 y.2
   ·cases hb
  show (w.heap.setIfInBounds σ.d _)[c]? = _
  rw [Array.getElem?_setIfInBounds_ne (Ne.symm hne)]
  exact h.1 c ob hb
 ·rw [e2] at hc
  show ∃ r, (w.heap.setIfInBounds σ.d _)[c]? = _
  by_cases e : c = σ.d
  ·rw [if_pos e] at hc
   cases hc
   subst e
   exact ⟨r, Array.getElem?_setIfInBounds_self_of_lt hlt⟩
  ·rw [if_neg e] at hc
   rw [Array.getElem?_setIfInBounds_ne (Ne.symm e)]
   exact h.2 c x hc
 ·show (w.heap.setIfInBounds σ.d _)[c]? = _
  refine Array.getElem?_setIfInBounds_ne fun e => hc ?_
  rw [<- e]
  exact hD.1
end
section
variable {low : Nat} {tW : TypeId} {msg : Nat -> Value} {σ : Cst} {i : Nat} {p : Option Ph} {cnt car : Nat} {wtr sem : Bool}
theorem zCg (hW : σ.mn.hasW = true) (b : Nat) : (Cp low tW msg).sh (σ.turn i p cnt wtr sem car) b = if b = σ.W then some (.cells #[.int .u64 ((cnt * 4294967296 + wtr.toNat : Nat) : Int), .int .u32 (sem.toNat : Int)] tW (0, 0)) else none := by
 show (if _ then _ else _ : Option Obj) = _
 have : (σ.turn i p cnt wtr sem car).mn.hasW = true := hW
 by_cases e : b = σ.W
 ·rw [if_pos ⟨this, e⟩, if_pos e]
  rfl
 ·rw [if_neg (fun x => e x.2), if_neg e]
theorem wD : (Cp low tW msg).sh (σ.turn i p σ.cnt σ.wtr σ.sem car) = (Cp low tW msg).sh σ := rfl
theorem vA : (Cp low tW msg).ch (σ.turn i p cnt wtr sem car) = (Cp low tW msg).ch σ := rfl
theorem vO {q : Ph} (hi : i ≠ 0) : (Cp low tW msg).gh (σ.turn i (some q) cnt wtr sem car) i = some (q.enc σ.W σ.f σ.d) := zA1 (σ := σ.turn i (some q) cnt wtr sem car) hi xM
theorem zPa (hi : i ≠ 0) : (Cp low tW msg).gh (σ.turn i none cnt wtr sem car) i = none := zAi (σ := σ.turn i none cnt wtr sem car) hi xM
theorem zCb {q : Wt} : ¬ ((Cp low tW msg).ts (σ.turn i (some (.wt q)) cnt wtr sem car)).Dn i := zIl (σ := σ.turn i (some (.wt q)) cnt wtr sem car) xM
theorem zI1 (hq : q.quiet = true) : ((Cp low tW msg).ts (σ.turn i (some (.wk q)) cnt wtr sem car)).Dn i := (zE7 (σ := σ.turn i (some (.wk q)) cnt wtr sem car) xM).2 hq
end
end Go.Proofs.Yteppiphdbondeaa.N
namespace Go.Proofs.Yteppiphdbondeaa.N
open Go Go.RowKit Go.Conc
set_option linter.unusedSectionVars false
set_option linter.unusedVariables false
set_option linter.unusedSimpArgs false

variable {n : Nat} {q q' : Wt} {x : Operand}
def ΦN (P : Program) (K : Pro) (i : Nat) (Stop : Goroutine -> World -> Prop) (v : World) (γ : Gh) (g : Goroutine) : Prop := @Gs P (nSys P K i) Stop g (saying v (gout γ))
def ΦZ (P : Program) (K : Pro) (Stop : Goroutine -> World -> Prop) (v : World) (γ : Gh) (g : Goroutine) : Prop := @Gs P (zSys P K) Stop g (saying v (gout γ))
def ΦX (P : Program) (d : Nat) (g : Goroutine) : Prop := ∃ n, QuitsD P n d g
section
variable {P : Program} {K : Pro} {i d : Nat} {Stop : Goroutine -> World -> Prop} {v : World} {γ : Gh}
instance : Stl P (ΦN P K i Stop v γ) := ⟨fun _ _ hr h k => @Gs.one P (nSys P K i) _ _ _ _ hr (h false) k⟩
instance : Stl P (ΦZ P K Stop v γ) := ⟨fun _ _ hr h k => @Gs.one P (zSys P K) _ _ _ _ hr (h true) k⟩
instance : Stl P (ΦX P d) := ⟨fun _ _ hr h ⟨n, k⟩ => ⟨n + 1, .ctl hr (h false) k⟩⟩
end
abbrev stt (c w : Nat) : Int := ((c * 4294967296 + w : Nat) : Int)
section
variable {low : Nat} {tW : TypeId} {msg : Nat -> Value}
variable {P : Program} {Stop : Goroutine -> World -> Prop} {v : World} {i : Nat} {b : Frame} {N : Nat} {ds : List Deferred} {fr : List (Nat × Value)} {k : List Item} {cs : List Frame} {ops : Array Oper} {j : Nat} {rest : List Nat} {d : Nat} {o : Oper} {f : FuncId} {ats : Array TypeId} {aS : Array Operand} {e : Array Value -> Sem Value} {γ : Gh} {W0 f0 d0 : Nat}
theorem zD1 (hi : i ≠ 0) (hmw : ∀ a, mayWake P (G (b.at a (.inRegion ops (j :: rest) :: k)) cs) = true) (R : Gh -> Value -> Prop)
  (h : ∀ a, Sl N ds fr a -> ∀ σ : Cst, Cok low σ -> σ.gh i = some γ -> ∃ (acts : List MemAct) (cl : Option Nat) (σ' : Cst) (x : Value), (Cp low tW msg).Moves i σ acts cl σ' ∧ Does (Cp low tW msg) P false (G (b.at a (.inRegion ops (j :: rest) :: k)) cs) (G (b.at (a.put (some d) x) (.inRegion ops rest :: k)) cs) σ acts σ' ∧
   ∃ γ', (Cp low tW msg).gh σ' i = some γ' ∧ ¬ ((Cp low tW msg).ts σ').Dn i ∧ R γ' x) (hd : Nat.blt d N = true)
  (k' : ∀ γ' x, R γ' x -> W P (ΦN P (Cp low tW msg) i Stop v γ') b N ds ((d, x) :: fr) (.inRegion ops rest :: k) cs) : W P (ΦN P (Cp low tW msg) i Stop v γ) b N ds fr (.inRegion ops (j :: rest) :: k) cs := by
 intro a ha
 refine zMv (K := Cp low tW msg) (γ := γ) hi rfl rfl (hmw a) (fun γ' g' => ∃ x, R γ' x ∧ g' = G (b.at (a.put (some d) x) (.inRegion ops rest :: k)) cs) (fun σ ok hg => ?_) ?_
 ·obtain ⟨acts, cl, σ', x, h1, h2, γ', h3, h4, h5⟩ := h a ha σ ok hg
  exact ⟨acts, cl, σ', _, h1, h2, .inl ⟨γ', h3, h4, x, h5, rfl⟩⟩
 ·rintro γ' g' ⟨x, h1, rfl⟩
  exact k' γ' x h1 _ (ha.put hd x)
theorem zM7 (hmw : ∀ a, mayWake P (G (b.at a (.inRegion ops (j :: rest) :: k)) cs) = true) (R : Gh -> Value -> Prop)
  (h : ∀ a, Sl N ds fr a -> ∀ σ : Cst, Cok low σ -> σ.gh 0 = some γ -> ∃ (acts : List MemAct) (cl : Option Nat) (σ' : Cst) (x : Value), (Cp low tW msg).Moves 0 σ acts cl σ' ∧ Does (Cp low tW msg) P true (G (b.at a (.inRegion ops (j :: rest) :: k)) cs) (G (b.at (a.put (some d) x) (.inRegion ops rest :: k)) cs) σ acts σ' ∧
   ∃ γ', (Cp low tW msg).gh σ' 0 = some γ' ∧ R γ' x) (hd : Nat.blt d N = true)
  (k' : ∀ γ' x, R γ' x -> W P (ΦZ P (Cp low tW msg) Stop v γ') b N ds ((d, x) :: fr) (.inRegion ops rest :: k) cs) : W P (ΦZ P (Cp low tW msg) Stop v γ) b N ds fr (.inRegion ops (j :: rest) :: k) cs := by
 intro a ha
 refine zR7 (K := Cp low tW msg) (γ := γ) rfl rfl (hmw a) (fun γ' g' => ∃ x, R γ' x ∧ g' = G (b.at (a.put (some d) x) (.inRegion ops rest :: k)) cs) (fun σ ok hg => ?_) ?_
 ·obtain ⟨acts, cl, σ', x, h1, h2, γ', h3, h5⟩ := h a ha σ ok hg
  exact ⟨acts, cl, σ', _, h1, h2, γ', h3, (zW6.zero σ' h1.ok).2, x, h5, rfl⟩
 ·rintro γ' g' ⟨x, h1, rfl⟩
  exact k' γ' x h1 _ (ha.put hd x)
section waiter
theorem zQ6 (mk : Mark) (hm : ∀ g, mk ≠ .extern g) (hmv : ∀ σ : Cst, Cok low σ -> σ.oth i = some (.wt q) -> ∃ car, (Cp low tW msg).Moves i σ [.mark mk] none (σ.turn i (some (.wt q')) σ.cnt σ.wtr σ.sem car)) (hi : i ≠ 0) (ho : ops[j]? = some o) (hg : Wants ops fr o true) (hk : b.kind ≠ .early) (hop : o.op = .call { callee := .value (.func f), args := aS, argTypes := ats }) (hdst : o.dst = some d) (hd : Nat.blt d N = true)
  (he : Ent P f (fun _ => do mark mk; pure Extern.Race.none_)) (k' : W P (ΦN P (Cp low tW msg) i Stop v (q'.enc W0 d0)) b N ds ((d, .tuple #[]) :: fr) (.inRegion ops rest :: k) cs) : W P (ΦN P (Cp low tW msg) i Stop v (q.enc W0 d0)) b N ds fr (.inRegion ops (j :: rest) :: k) cs := by
 refine zD1 (R := fun γ' x => γ' = q'.enc W0 d0 ∧ x = .tuple #[]) hi (fun a => qN ho hop he) (fun a ha σ ok hgh => ?_) hd (by rintro γ' x ⟨rfl, rfl⟩; exact k')
 obtain ⟨hi0, h1, rfl, rfl⟩ := zB9 ok.zero hgh rfl
 obtain ⟨car, hmv⟩ := hmv σ ok h1
 exact ⟨_, _, _, _, hmv, by rw [<- hdst]; exact zCc mk hm ho (hg.eq ha.slots) hk hop he wD vA, _, vO hi0, zCb, rfl, rfl⟩
theorem zHz (mk : Addr -> Mark) (hm : ∀ ad g, mk ad ≠ .extern g) (off : Nat) (hmv : ∀ σ : Cst, Cok low σ -> σ.oth i = some (.wt q) -> ∃ car, (Cp low tW msg).Moves i σ [.mark (mk ⟨σ.W, off, none⟩)] none (σ.turn i (some (.wt q')) σ.cnt σ.wtr σ.sem car)) (hi : i ≠ 0) (ho : ops[j]? = some o) (hg : Wants ops fr o true) (hk : b.kind ≠ .early) (hop : o.op = .call { callee := .value (.func f), args := aS, argTypes := ats }) (hdst : o.dst = some d) (hd : Nat.blt d N = true)
  (hx : aS.toList.map (ev fr) = [some (.pointer (some ⟨W0, off, none⟩))]) (he : Ent P f (Extern.Race.marked mk)) (k' : W P (ΦN P (Cp low tW msg) i Stop v (q'.enc W0 d0)) b N ds ((d, .tuple #[]) :: fr) (.inRegion ops rest :: k) cs) : W P (ΦN P (Cp low tW msg) i Stop v (q.enc W0 d0)) b N ds fr (.inRegion ops (j :: rest) :: k) cs := by
 refine zD1 (R := fun γ' x => γ' = q'.enc W0 d0 ∧ x = .tuple #[]) hi (fun a => qN ho hop he) (fun a ha σ ok hgh => ?_) hd (by rintro γ' x ⟨rfl, rfl⟩; exact k')
 obtain ⟨hi0, h1, rfl, rfl⟩ := zB9 ok.zero hgh rfl
 obtain ⟨car, hmv⟩ := hmv σ ok h1
 have hx' := zDr ha.slots (vs := [.pointer (some ⟨σ.W, off, none⟩)]) hx
 exact ⟨_, _, _, _, hmv, by rw [<- hdst]; exact zDn mk hm (by rw [hx']; rfl) ho (hg.eq ha.slots) hk hop he wD vA, _, vO hi0, zCb, rfl, rfl⟩
theorem zBz {σ : Cst} (h : Cok low σ) {q : Wt} (hi : σ.oth i = some (.wt q)) : σ.mn.hasW = true := (wY h hi).2.1
theorem zZo (hi : i ≠ 0) (ho : ops[j]? = some o) (hg : Wants ops fr o true) (hk : b.kind ≠ .early) (hop : o.op = .call { callee := .value (.func f), args := aS, argTypes := ats }) (hdst : o.dst = some d) (hd : Nat.blt d N = true)
  (he : Ent P f (fun _ => do mark .disable; pure Extern.Race.none_)) (k' : ∀ n, W P (ΦN P (Cp low tW msg) i Stop v (Wt.enc W0 d0 (.load n))) b N ds ((d, .tuple #[]) :: fr) (.inRegion ops rest :: k) cs) : W P (ΦN P (Cp low tW msg) i Stop v (Wt.enc W0 d0 .new)) b N ds fr (.inRegion ops (j :: rest) :: k) cs := by
 refine zD1 (R := fun γ' x => ∃ n, γ' = Wt.enc W0 d0 (.load n) ∧ x = .tuple #[]) hi (fun a => qN ho hop he) (fun a ha σ ok hgh => ?_) hd (by rintro γ' x ⟨n, rfl, rfl⟩; exact k' n)
 obtain ⟨hi0, h1, rfl, rfl⟩ := zB9 (q := .new) ok.zero hgh rfl
 exact ⟨_, _, _, _, zWi ok h1, by rw [<- hdst]; exact zCc .disable (by simp) ho (hg.eq ha.slots) hk hop he wD vA, _, vO hi0, zCb, _, rfl, rfl⟩
theorem zYy (hi : i ≠ 0) (ho : ops[j]? = some o) (hg : Wants ops fr o true) (hk : b.kind ≠ .early) (hop : o.op = .call { callee := .value (.func f), args := #[x], argTypes := ats }) (hdst : o.dst = some d) (hd : Nat.blt d N = true)
  (hx : ev fr x = some (pt W0)) (he : Ent P f (Extern.Atomic.loadT (.int .u64))) (k0 : W P (ΦN P (Cp low tW msg) i Stop v (Wt.enc W0 d0 .on)) b N ds ((d, .int .u64 (stt 0 0)) :: fr) (.inRegion ops rest :: k) cs)
  (k1 : ∀ c, 0 < c -> c < 1000000 -> c <= n -> W P (ΦN P (Cp low tW msg) i Stop v (Wt.enc W0 d0 (.cas c))) b N ds ((d, .int .u64 (stt c 0)) :: fr) (.inRegion ops rest :: k) cs) : W P (ΦN P (Cp low tW msg) i Stop v (Wt.enc W0 d0 (.load n))) b N ds fr (.inRegion ops (j :: rest) :: k) cs := by
 refine zD1 (R := fun γ' x => (γ' = Wt.enc W0 d0 .on ∧ x = .int .u64 (stt 0 0)) ∨ ∃ c, 0 < c ∧ c < 1000000 ∧ c <= n ∧ γ' = Wt.enc W0 d0 (.cas c) ∧ x = .int .u64 (stt c 0)) hi (fun a => qN ho hop he) (fun a ha σ ok hgh => ?_) hd ?_
 ·obtain ⟨hi0, h1, rfl, rfl⟩ := zB9 (q := .load n) ok.zero hgh rfl
  obtain ⟨_, _, _, ha1⟩ := xR ok h1
  have hW := zBz ok h1
  have hs : (σ.state : Int) = stt σ.cnt 0 := by simp [Cst.state, ha1.1.1, stt]
  by_cases hc : σ.cnt = 0
  ·rw [hc] at hs
   refine ⟨_, _, _, _, zT6 ok h1 hc, ?_, _, vO hi0, zCb, .inl ⟨rfl, rfl⟩⟩
   rw [<- hdst, <- hs]
   exact zDb hW (kY ha.slots hx) ho (hg.eq ha.slots) hk hop he wD vA
  ·refine ⟨_, _, _, _, zTo ok h1 (by omega), ?_, _, vO hi0, zCb, .inr ⟨σ.cnt, by omega, ok.small, ha1.2, rfl, rfl⟩⟩
   rw [<- hdst, <- hs]
   exact zDb hW (kY ha.slots hx) ho (hg.eq ha.slots) hk hop he wD vA
 ·rintro γ' x (⟨rfl, rfl⟩ | ⟨c, h1, h2, h3, rfl, rfl⟩)
  ·exact k0
  ·exact k1 c h1 h2 h3
theorem zZh {y z : Operand} (hi : i ≠ 0) (ho : ops[j]? = some o) (hg : Wants ops fr o true) (hk : b.kind ≠ .early) (hop : o.op = .call { callee := .value (.func f), args := #[x, y, z], argTypes := ats }) (hdst : o.dst = some d) (hd : Nat.blt d N = true)
  (hx : ev fr x = some (pt W0)) (hy : ev fr y = some (.int .u64 (stt n 0))) (hz : ev fr z = some (.int .u64 (stt n 1))) (he : Ent P f (Extern.Atomic.casT (.int .u64))) (k0 : W P (ΦN P (Cp low tW msg) i Stop v (Wt.enc W0 d0 .writ)) b N ds ((d, .bool true) :: fr) (.inRegion ops rest :: k) cs)
  (k1 : W P (ΦN P (Cp low tW msg) i Stop v (Wt.enc W0 d0 (.load (n - 1)))) b N ds ((d, .bool false) :: fr) (.inRegion ops rest :: k) cs) : W P (ΦN P (Cp low tW msg) i Stop v (Wt.enc W0 d0 (.cas n))) b N ds fr (.inRegion ops (j :: rest) :: k) cs := by
 refine zD1 (R := fun γ' x => (γ' = Wt.enc W0 d0 .writ ∧ x = .bool true) ∨ (γ' = Wt.enc W0 d0 (.load (n - 1)) ∧ x = .bool false)) hi (fun a => qN ho hop he) (fun a ha σ ok hgh => ?_) hd ?_
 ·obtain ⟨hi0, h1, rfl, rfl⟩ := zB9 (q := .cas n) ok.zero hgh rfl
  obtain ⟨_, _, _, ha1⟩ := xR ok h1
  have hW := zBz ok h1
  have hs : (σ.state : Int) = stt σ.cnt 0 := by simp [Cst.state, ha1.1.1, stt]
  by_cases hc : σ.cnt = n
  ·rw [hc] at hs
   refine ⟨_, _, _, _, zW4 ok h1 hc, ?_, _, vO hi0, zCb, .inl ⟨rfl, rfl⟩⟩
   rw [<- hdst]
   exact zUq ok hW (kY ha.slots hx) (by rw [hs]; exact kY ha.slots hy) (kY ha.slots hz) ho (hg.eq ha.slots) hk hop he (fun b => by rw [zCg hW, hc]; rfl) vA
  ·refine ⟨_, _, _, _, zS8 ok h1 hc, ?_, _, vO hi0, zCb, .inr ⟨rfl, rfl⟩⟩
   rw [<- hdst]
   refine zR0 (s' := n * 4294967296 + 0) ok hW (kY ha.slots hx) (kY ha.slots hy) (kY ha.slots hz) ?_ ho (hg.eq ha.slots) hk hop he wD vA
   simp only [Cst.state, ha1.1.1, Bool.toNat_false]
   omega
 ·rintro γ' x (⟨rfl, rfl⟩ | ⟨rfl, rfl⟩)
  ·exact k0
  ·exact k1
theorem zWd (hi : i ≠ 0) (ho : ops[j]? = some o) (hg : Wants ops fr o true) (hk : b.kind ≠ .early) (hop : o.op = .call { callee := .value (.func f), args := #[x], argTypes := ats }) (hdst : o.dst = some d) (hd : Nat.blt d N = true)
  (hx : ev fr x = some (pt W0)) (he : Ent P f (Extern.Atomic.loadT (.int .u64))) (k0 : W P (ΦN P (Cp low tW msg) i Stop v (Wt.enc W0 d0 .on)) b N ds ((d, .int .u64 (stt 0 0)) :: fr) (.inRegion ops rest :: k) cs) : W P (ΦN P (Cp low tW msg) i Stop v (Wt.enc W0 d0 .again)) b N ds fr (.inRegion ops (j :: rest) :: k) cs := by
 refine zD1 (R := fun γ' x => γ' = Wt.enc W0 d0 .on ∧ x = .int .u64 (stt 0 0)) hi (fun a => qN ho hop he) (fun a ha σ ok hgh => ?_) hd ?_
 ·obtain ⟨hi0, h1, rfl, rfl⟩ := zB9 (q := .again) ok.zero hgh rfl
  obtain ⟨_, hm, _, ha1⟩ := xR ok h1
  have hW := zBz ok h1
  have hs : (σ.state : Int) = stt 0 0 := by simp [Cst.state, ha1.1.1, stt, zNa ok hm ha1.1.2.2]
  refine ⟨_, _, _, _, zRd ok h1, ?_, _, vO hi0, zCb, rfl, rfl⟩
  rw [<- hdst, <- hs]
  exact zDb hW (kY ha.slots hx) ho (hg.eq ha.slots) hk hop he wD vA
 ·rintro γ' x ⟨rfl, rfl⟩
  exact k0
theorem zZ4 {xs : List Value} (hi : i ≠ 0) (ho : ops[j]? = some o) (hg : Wants ops fr o true) (hk : b.kind ≠ .early) (hop : o.op = .call { callee := .value (.func f), args := aS, argTypes := ats }) (hdst : o.dst = some d) (hd : Nat.blt d N = true)
  (hx : aS.toList.map (ev fr) = (Value.pointer (some ⟨W0, 1, none⟩) :: xs).map some) (he : Ent P f Extern.Sync.semacquire) (k0 : W P (ΦN P (Cp low tW msg) i Stop v (Wt.enc W0 d0 .again)) b N ds ((d, .tuple #[]) :: fr) (.inRegion ops rest :: k) cs) : W P (ΦN P (Cp low tW msg) i Stop v (Wt.enc W0 d0 .sleep)) b N ds fr (.inRegion ops (j :: rest) :: k) cs := by
 intro a ha
 refine zRx (K := Cp low tW msg) (γ := Wt.enc W0 d0 .sleep) hi rfl rfl rfl (qN ho hop he) (fun γ' g' => γ' = Wt.enc W0 d0 .again ∧ g' = G (b.at (a.put (some d) (.tuple #[])) (.inRegion ops rest :: k)) cs) (fun σ ok hgh => ?_) ?_
 ·obtain ⟨hi0, h1, rfl, rfl⟩ := zB9 (q := .sleep) ok.zero hgh rfl
  have hW := zBz ok h1
  have hx' : (aS.map a.eval)[0]? = some (.pointer (some ⟨σ.W, 1, none⟩)) := by rw [zDr ha.slots hx]; rfl
  cases hs : σ.sem with
  | false =>
   refine .inl ⟨⟨σ.W, σ.d, .int .u64 (σ.state : Int), tW, rfl, ?_⟩, fun w hw => stands hW hs hx' ho (hg.eq ha.slots) hop he hw⟩
   simp [Cp, hW, Cst.cells, hs]
  | true =>
   refine .inr ⟨_, _, _, _, zV5 ok h1 hs, ?_, _, vO hi0, zCb, rfl, rfl⟩
   rw [<- hdst]
   exact zNy ok hW hs hx' ho (hg.eq ha.slots) hk hop he (fun b => by rw [zCg hW]; rfl) vA
 ·rintro γ' g' ⟨rfl, rfl⟩
  exact k0 _ (ha.put hd _)
theorem zM1 {s t : TypeId} {e' : TypeId} {ty : TypeId} {pos : String} {after : Array Edge} {gd : Option (Nat × Bool)} {off : Nat} (ho : ops[j]? = some ⟨some d, .convert s t x, ty, pos, after, gd⟩) (hg : Wants ops fr ⟨some d, .convert s t x, ty, pos, after, gd⟩ true) (hk : b.kind ≠ .early) (hd : Nat.blt d N = true)
  (hx : ev fr x = some (.pointer (some ⟨W0, off, none⟩))) (hs : P.underlying s = some (.pointer e')) (ht : P.underlying t = some .unsafePointer) (hsz : (P.info? e').map (fun i => decide (i.size = 0)) = some false) (hoff : off = 0 ∨ off = 1)
  (k0 : W P (ΦN P (Cp low tW msg) i Stop v (q.enc W0 d0)) b N ds ((d, .pointer (some ⟨W0, off, none⟩)) :: fr) (.inRegion ops rest :: k) cs) : W P (ΦN P (Cp low tW msg) i Stop v (q.enc W0 d0)) b N ds fr (.inRegion ops (j :: rest) :: k) cs := by
 intro a ha
 refine zOw (K := Cp low tW msg) (γ := q.enc W0 d0) rfl rfl (fun σ ok hgh w hw => ?_) (k0 _ (ha.put hd _))
 obtain ⟨hi0, h1, rfl, rfl⟩ := zB9 ok.zero hgh rfl
 exact zEt (zBz ok h1) (kY ha.slots hx) ho (hg.eq ha.slots) hk hs ht hsz hoff hw
end waiter
end
end Go.Proofs.Yteppiphdbondeaa.N
namespace Go.Proofs.Yteppiphdbondeaa.N
open Go Go.RowKit Go.Conc
set_option linter.unusedSectionVars false
set_option linter.unusedVariables false
set_option linter.unusedSimpArgs false
variable {after : Array Edge} {c cnt k' off w : Nat} {e' s t ty : TypeId} {gd : Option (Nat × Bool)} {pos : String} {x y : Operand} {σ : Cst}
section
variable {low : Nat} {tW : TypeId} {msg : Nat -> Value}
variable {P : Program} {Stop : Goroutine -> World -> Prop} {v : World} {i : Nat} {b : Frame} {N : Nat} {ds : List Deferred} {fr : List (Nat × Value)} {k : List Item} {cs : List Frame} {ops : Array Oper} {j : Nat} {rest : List Nat} {d : Nat} {o : Oper} {f : FuncId} {ats : Array TypeId} {aS : Array Operand} {e : Array Value -> Sem Value} {γ : Gh} {W0 f0 d0 e0 : Nat}
theorem zNc {W f : Nat} (h0 : σ.oth 0 = none) (hg : σ.gh i = some (Wkr.enc W f (.send []))) : i ≠ 0 ∧ σ.oth i = some (.wk (.send [])) ∧ W = σ.W ∧ f = σ.f := zJy h0 hg
theorem zZq (hi : i ≠ 0) (ho : ops[j]? = some o) (hg : Wants ops fr o true) (hk : b.kind ≠ .early) (hop : o.op = .call { callee := .value (.func f), args := aS, argTypes := ats }) (hdst : o.dst = some d) (hd : Nat.blt d N = true)
  (hx : aS.toList.map (ev fr) = [some (pt W0)]) (he : Ent P f (Extern.Race.marked .releaseMerge)) (k' : W P (Quiet P (Cp low tW msg) i (Wkr.enc W0 f0 .rel)) b N ds ((d, .tuple #[]) :: fr) (.inRegion ops rest :: k) cs) : W P (ΦN P (Cp low tW msg) i Stop v (Wkr.enc W0 f0 (.send []))) b N ds fr (.inRegion ops (j :: rest) :: k) cs := by
 intro a ha
 refine zMv (K := Cp low tW msg) (γ := Wkr.enc W0 f0 (.send [])) hi rfl rfl (qN ho hop he) (fun _ _ => False) (fun σ ok hgh => ?_) (fun _ _ x => x.elim)
 obtain ⟨hi0, h1, rfl, rfl⟩ := zNc ok.zero hgh
 have hx' := zDr ha.slots (vs := [.pointer (some ⟨σ.W, 0, none⟩)]) hx
 refine ⟨_, _, _, G (b.at (a.put (some d) (.tuple #[])) (.inRegion ops rest :: k)) cs, zXs ok h1, ?_, .inr (.inl ⟨_, vO hi0, zI1 rfl, k' _ (ha.put hd _)⟩)⟩
 rw [<- hdst]
 exact zDn .releaseMerge (by simp) (by rw [hx']; rfl) ho (hg.eq ha.slots) hk hop he wD vA
theorem zXp (ho : ops[j]? = some ⟨some d, .convert s t x, ty, pos, after, gd⟩) (hg : Wants ops fr ⟨some d, .convert s t x, ty, pos, after, gd⟩ true) (hk : b.kind ≠ .early) (hd : Nat.blt d N = true)
  (hx : ev fr x = some (.pointer (some ⟨W0, off, none⟩))) (hs : P.underlying s = some (.pointer e')) (ht : P.underlying t = some .unsafePointer) (hsz : (P.info? e').map (fun i => decide (i.size = 0)) = some false) (hoff : off = 0 ∨ off = 1)
  (k0 : W P (ΦN P (Cp low tW msg) i Stop v (Wkr.enc W0 f0 (.send []))) b N ds ((d, .pointer (some ⟨W0, off, none⟩)) :: fr) (.inRegion ops rest :: k) cs) : W P (ΦN P (Cp low tW msg) i Stop v (Wkr.enc W0 f0 (.send []))) b N ds fr (.inRegion ops (j :: rest) :: k) cs := by
 intro a ha
 refine zOw (K := Cp low tW msg) (γ := Wkr.enc W0 f0 (.send [])) rfl rfl (fun σ ok hgh w hw => ?_) (k0 _ (ha.put hd _))
 obtain ⟨hi0, h1, rfl, rfl⟩ := zNc ok.zero hgh
 exact zEt (yL ok h1).2 (kY ha.slots hx) ho (hg.eq ha.slots) hk hs ht hsz hoff hw
theorem zZj (ho : ops[j]? = some o) (hg : Wants ops fr o true) (hk : b.kind ≠ .early) (hop : o.op = .call { callee := .value (.func f), args := aS, argTypes := ats }) (hdst : o.dst = some d) (hd : Nat.blt d N = true)
  (he : Ent P f (fun _ => do mark .disable; pure Extern.Race.none_)) (k' : W P (Quiet P (Cp low tW msg) i (Wkr.enc W0 f0 .off)) b N ds ((d, .tuple #[]) :: fr) (.inRegion ops rest :: k) cs) : W P (Quiet P (Cp low tW msg) i (Wkr.enc W0 f0 .rel)) b N ds fr (.inRegion ops (j :: rest) :: k) cs := by
 intro a ha
 refine .act (fun _ γ' g' => γ' = Wkr.enc W0 f0 .off ∧ g' = G (b.at (a.put (some d) (.tuple #[])) (.inRegion ops rest :: k)) cs) rfl (qN ho hop he) (fun σ ok hgh => ?_) ?_
 ·obtain ⟨hi0, h1, rfl⟩ := zIk (q := .rel) (f := f0) (Cok.zero ok) hgh rfl rfl
  refine ⟨_, _, _, zY6 ok h1, ?_, .inl ⟨_, vO hi0, zI1 rfl, rfl, rfl⟩⟩
  rw [<- hdst]
  exact zCc .disable (by simp) ho (hg.eq ha.slots) hk hop he wD vA
 ·rintro σ γ' g' ⟨rfl, rfl⟩
  exact k' _ (ha.put hd _)
theorem zU3 (hc : 0 < c) (h1 : c < 1000000) (hw : w <= 1) : IntKind.u64.wrap (stt c w + 18446744069414584320) = stt (c - 1) w := by
 rw [IntKind.wrap_u64]
 simp only [stt]
 omega
theorem zT9 (h1 : c < 1000000) (hw : w <= 1) : IntKind.u64.wrap (stt c w + 4294967296) = stt (c + 1) w := by
 rw [IntKind.wrap_u64]
 simp only [stt]
 omega
theorem zVt (h : Cok low σ) {q : Wkr} (hi : σ.oth i = some (.wk q)) (hq : counts (some (.wk q)) = true) : 0 < σ.cnt := by
 have h1 := wZ (o := σ.oth) ((h.jin i).2 ⟨_, hi⟩)
 rw [hi, hq] at h1
 have h2 := h.cnt
 have h3 : Bool.toNat true = 1 := rfl
 omega
theorem zZ1 (ho : ops[j]? = some o) (hg : Wants ops fr o true) (hk : b.kind ≠ .early) (hop : o.op = .call { callee := .value (.func f), args := #[x, y], argTypes := ats }) (hdst : o.dst = some d) (hd : Nat.blt d N = true)
  (hx : ev fr x = some (pt W0)) (hy : ev fr y = some (.int .u64 18446744069414584320)) (he : Ent P f (Extern.Atomic.update (Op.intArith .add) .u64 true))
  (k1 : ∀ c w, c < 1000000 -> w <= 1 -> (0 < c ∨ w = 0) -> W P (ΦX P 1) b N ds ((d, .int .u64 (stt c w)) :: fr) (.inRegion ops rest :: k) cs)
  (k2 : W P (Quiet P (Cp low tW msg) i (Wkr.enc W0 f0 .l1)) b N ds ((d, .int .u64 (stt 0 1)) :: fr) (.inRegion ops rest :: k) cs) : W P (Quiet P (Cp low tW msg) i (Wkr.enc W0 f0 .off)) b N ds fr (.inRegion ops (j :: rest) :: k) cs := by
 intro a ha
 refine .act (fun _ γ' g' => γ' = Wkr.enc W0 f0 .l1 ∧ g' = G (b.at (a.put (some d) (.int .u64 (stt 0 1))) (.inRegion ops rest :: k)) cs) rfl (qN ho hop he) (fun σ ok hgh => ?_) ?_
 ·obtain ⟨hi0, h1, rfl⟩ := zIk (q := .off) (f := f0) (Cok.zero ok) hgh rfl rfl
  have hW := (yL ok h1).2
  have hpos := zVt ok h1 rfl
  have hsm := ok.small
  have hwt : σ.wtr.toNat <= 1 := Bool.toNat_le _
  have hwr : IntKind.u64.wrap ((σ.state : Int) + 18446744069414584320) = (((σ.cnt - 1) * 4294967296 + σ.wtr.toNat : Nat) : Int) := zU3 hpos hsm hwt
  have hD : σ.ts.D i = 1 := by rw [vG hi0 h1]; rfl
  by_cases hl : σ.wtr = false ∨ 2 <= σ.cnt
  ·obtain ⟨n, hq⟩ := k1 (σ.cnt - 1) σ.wtr.toNat (by omega) hwt (hl.elim (fun x => .inr (by rw [x]; rfl)) fun x => .inl (by omega)) _ (ha.put hd _)
   refine ⟨_, _, G (b.at (a.put (some d) (.int .u64 (stt (σ.cnt - 1) σ.wtr.toNat))) (.inRegion ops rest :: k)) cs, zTi ok h1 hl, ?_, .inr ⟨n, zPa hi0, ?_⟩⟩
   ·rw [<- hdst]
    exact zEh ok hW (kY ha.slots hx) (kY ha.slots hy) hwr ho (hg.eq ha.slots) hk hop he (zCg hW) vA
   ·have e1 : dacts (((Cp low tW msg).ts σ).D i) [.access ⟨.cell ⟨σ.W, 0, none⟩, false, true⟩, .access ⟨.cell ⟨σ.W, 0, none⟩, true, true⟩] = 1 := hD
    rw [e1]
    exact hq
  ·have hw : σ.wtr = true := by
    cases h : σ.wtr with
    | true => rfl
    | false => exact absurd (.inl h) hl
   have hc : σ.cnt = 1 := by omega
   refine ⟨_, _, _, zV7 ok h1 hw hc, ?_, .inl ⟨_, vO hi0, zI1 rfl, rfl, rfl⟩⟩
   rw [<- hdst]
   rw [hc, hw] at hwr
   exact zEh (s := 0 * 4294967296 + 1) ok hW (kY ha.slots hx) (kY ha.slots hy) hwr ho (hg.eq ha.slots) hk hop he (zCg hW) vA
 ·rintro σ γ' g' ⟨rfl, rfl⟩
  exact k2 _ (ha.put hd _)
theorem zYe (ho : ops[j]? = some o) (hg : Wants ops fr o true) (hk : b.kind ≠ .early) (hop : o.op = .call { callee := .value (.func f), args := #[x], argTypes := ats }) (hdst : o.dst = some d) (hd : Nat.blt d N = true)
  (hx : ev fr x = some (pt W0)) (he : Ent P f (Extern.Atomic.loadT (.int .u64)))
  (k2 : W P (Quiet P (Cp low tW msg) i (Wkr.enc W0 f0 .l2)) b N ds ((d, .int .u64 (stt 0 1)) :: fr) (.inRegion ops rest :: k) cs) : W P (Quiet P (Cp low tW msg) i (Wkr.enc W0 f0 .l1)) b N ds fr (.inRegion ops (j :: rest) :: k) cs := by
 intro a ha
 refine .act (fun _ γ' g' => γ' = Wkr.enc W0 f0 .l2 ∧ g' = G (b.at (a.put (some d) (.int .u64 (stt 0 1))) (.inRegion ops rest :: k)) cs) rfl (qN ho hop he) (fun σ ok hgh => ?_) ?_
 ·obtain ⟨hi0, h1, rfl⟩ := zIk (q := .l1) (f := f0) (Cok.zero ok) hgh rfl rfl
  obtain ⟨_, _, _, h4, h5, _⟩ := zCe ok h1 rfl
  have hs : (σ.state : Int) = stt 0 1 := by simp [Cst.state, h4, h5, stt]
  refine ⟨_, _, _, zZk ok h1, ?_, .inl ⟨_, vO hi0, zI1 rfl, rfl, rfl⟩⟩
  rw [<- hdst, <- hs]
  exact zDb (yL ok h1).2 (kY ha.slots hx) ho (hg.eq ha.slots) hk hop he wD vA
 ·rintro σ γ' g' ⟨rfl, rfl⟩
  exact k2 _ (ha.put hd _)
theorem zWb (ho : ops[j]? = some o) (hg : Wants ops fr o true) (hk : b.kind ≠ .early) (hop : o.op = .call { callee := .value (.func f), args := #[x, y], argTypes := ats }) (hdst : o.dst = some d) (hd : Nat.blt d N = true)
  (hx : ev fr x = some (pt W0)) (hy : ev fr y = some (.int .u64 0)) (he : Ent P f Extern.Atomic.storeT)
  (k2 : W P (Quiet P (Cp low tW msg) i (Wkr.enc W0 f0 .l3)) b N ds ((d, .tuple #[]) :: fr) (.inRegion ops rest :: k) cs) : W P (Quiet P (Cp low tW msg) i (Wkr.enc W0 f0 .l2)) b N ds fr (.inRegion ops (j :: rest) :: k) cs := by
 intro a ha
 refine .act (fun _ γ' g' => γ' = Wkr.enc W0 f0 .l3 ∧ g' = G (b.at (a.put (some d) (.tuple #[])) (.inRegion ops rest :: k)) cs) rfl (qN ho hop he) (fun σ ok hgh => ?_) ?_
 ·obtain ⟨hi0, h1, rfl⟩ := zIk (q := .l2) (f := f0) (Cok.zero ok) hgh rfl rfl
  obtain ⟨_, _, _, h4, h5, _⟩ := zCe ok h1 rfl
  have hW := (yL ok h1).2
  refine ⟨_, _, _, zZv ok h1, ?_, .inl ⟨_, vO hi0, zI1 rfl, rfl, rfl⟩⟩
  rw [<- hdst]
  exact zPy (s := 0) ok hW (kY ha.slots hx) (kY ha.slots hy) ho (hg.eq ha.slots) hk hop he (fun b => by rw [zCg hW, h4]; rfl) vA
 ·rintro σ γ' g' ⟨rfl, rfl⟩
  exact k2 _ (ha.put hd _)
theorem zZ7 {xs : List Value} (ho : ops[j]? = some o) (hg : Wants ops fr o true) (hk : b.kind ≠ .early) (hop : o.op = .call { callee := .value (.func f), args := aS, argTypes := ats }) (hdst : o.dst = some d) (hd : Nat.blt d N = true)
  (hx : aS.toList.map (ev fr) = (Value.pointer (some ⟨W0, 1, none⟩) :: xs).map some) (he : Ent P f Extern.Sync.semrelease)
  (k2 : W P (ΦX P 1) b N ds ((d, .tuple #[]) :: fr) (.inRegion ops rest :: k) cs) : W P (Quiet P (Cp low tW msg) i (Wkr.enc W0 f0 .l3)) b N ds fr (.inRegion ops (j :: rest) :: k) cs := by
 intro a ha
 refine .act (fun _ γ' g' => False) rfl (qN ho hop he) (fun σ ok hgh => ?_) (fun _ _ _ x => x.elim)
 obtain ⟨hi0, h1, rfl⟩ := zIk (q := .l3) (f := f0) (Cok.zero ok) hgh rfl rfl
 obtain ⟨_, _, h3, h4, _, h5⟩ := zCe ok h1 rfl
 have hW := (yL ok h1).2
 have hx' : (aS.map a.eval)[0]? = some (.pointer (some ⟨σ.W, 1, none⟩)) := by rw [zDr ha.slots hx]; rfl
 have hD : σ.ts.D i = 1 := by rw [vG hi0 h1]; rfl
 obtain ⟨n, hq⟩ := k2 _ (ha.put hd _)
 refine ⟨_, _, G (b.at (a.put (some d) (.tuple #[])) (.inRegion ops rest :: k)) cs, zZf ok h1, ?_, .inr ⟨n, zPa hi0, ?_⟩⟩
 ·rw [<- hdst]
  exact zN3 ok hW h3 hx' ho (hg.eq ha.slots) hk hop he (fun b => by rw [zCg hW]; rfl) vA
 ·have e1 : dacts (((Cp low tW msg).ts σ).D i) (semActs σ.W) = 1 := by
   show dacts (σ.ts.D i) _ = 1
   rw [hD]
   rfl
  rw [e1]
  exact hq
theorem zLr {fn : Func} (he : Ent P f (fun _ => do mark .enable; pure Extern.Race.none_)) (h : Wr P (ΦX P 0) b N ds fr cs) : Wr P (ΦX P 1) b N (dcall f #[] :: ds) fr cs := by
 intro a todo ha
 obtain ⟨fn, h1, h2, h3, h4, h5⟩ := he
 obtain ⟨n, hq⟩ := h ⟨a.tmps, ds⟩ todo ⟨ha.size, rfl, ha.slots⟩
 exact ⟨n + 1, QuitsD.unwind_mark .enable rfl (by simp) ha.defs h1 h2 h3 h4 h5 hq⟩
theorem zD7 {W f d e k m : Nat} {ow : List Nat} (h : σ.gh 0 = some (Mn.enc W f d e ow (.hire k m))) : σ.mn = .hire k m ∧ W = σ.W ∧ f = σ.f ∧ d = σ.d ∧ ow = σ.owed ∧ e = cde σ.lent := zGn h
theorem zPi {k m : Nat} (hm : σ.mn = .hire k m) (b : Nat) : (Cp low tW msg).sh (σ.step k' m cnt) b = if b = σ.W then some (.cells #[.int .u64 ((cnt * 4294967296 + σ.wtr.toNat : Nat) : Int), .int .u32 (σ.sem.toNat : Int)] tW (0, 0)) else none := by
 show (if _ then _ else _ : Option Obj) = _
 by_cases e : b = σ.W
 ·rw [if_pos ⟨rfl, e⟩, if_pos e]
  rfl
 ·rw [if_neg (fun x => e x.2), if_neg e]
theorem zCw {k m : Nat} (hm : σ.mn = .hire k m) : (Cp low tW msg).sh (σ.step k' m σ.cnt) = (Cp low tW msg).sh σ := by
 funext b
 simp [Cp, hm, Cst.step, Mn.hasW, Cst.cells, Cst.state]
theorem zDt {k m : Nat} (hm : σ.mn = .hire k m) : (Cp low tW msg).ch (σ.step k' m cnt) = (Cp low tW msg).ch σ := by
 funext b
 simp [Cp, hm, Cst.step, Mn.hasF, Mn.hasD]
theorem zDu {k m : Nat} : (Cp low tW msg).gh (σ.step k m cnt) 0 = some (Mn.enc σ.W σ.f σ.d (cde σ.lent) σ.owed (.hire k m)) := rfl
variable {ow : List Nat} {m : Nat}
theorem zZp (ho : ops[j]? = some o) (hg : Wants ops fr o true) (hk : b.kind ≠ .early) (hop : o.op = .call { callee := .value (.func f), args := aS, argTypes := ats }) (hdst : o.dst = some d) (hd : Nat.blt d N = true)
  (he : Ent P f (fun _ => do mark .disable; pure Extern.Race.none_)) (k' : W P (ΦZ P (Cp low tW msg) Stop v (Mn.enc W0 f0 d0 e0 ow (.hire 1 m))) b N ds ((d, .tuple #[]) :: fr) (.inRegion ops rest :: k) cs) : W P (ΦZ P (Cp low tW msg) Stop v (Mn.enc W0 f0 d0 e0 ow (.hire 0 m))) b N ds fr (.inRegion ops (j :: rest) :: k) cs := by
 refine zM7 (R := fun γ' x => γ' = Mn.enc W0 f0 d0 e0 ow (.hire 1 m) ∧ x = .tuple #[]) (fun a => qN ho hop he) (fun a ha σ ok hgh => ?_) hd (by rintro γ' x ⟨rfl, rfl⟩; exact k')
 obtain ⟨hm, rfl, rfl, rfl, rfl, rfl⟩ := zD7 hgh
 exact ⟨_, _, _, _, zWn ok hm, by rw [<- hdst]; exact zCc .disable (by simp) ho (hg.eq ha.slots) hk hop he (zCw hm) (zDt hm), _, zDu, rfl, rfl⟩
theorem zZ6 (hsm : m + 1 < 1000000) (ho : ops[j]? = some o) (hg : Wants ops fr o true) (hk : b.kind ≠ .early) (hop : o.op = .call { callee := .value (.func f), args := #[x, y], argTypes := ats }) (hdst : o.dst = some d) (hd : Nat.blt d N = true)
  (hx : ev fr x = some (pt W0)) (hy : ev fr y = some (.int .u64 4294967296)) (he : Ent P f (Extern.Atomic.update (Op.intArith .add) .u64 true))
  (k1 : W P (ΦZ P (Cp low tW msg) Stop v (Mn.enc W0 f0 d0 e0 ow (.hire 2 m))) b N ds ((d, .int .u64 (stt 1 0)) :: fr) (.inRegion ops rest :: k) cs)
  (k2 : ∀ c, 1 < c -> c < 1000001 -> W P (ΦZ P (Cp low tW msg) Stop v (Mn.enc W0 f0 d0 e0 ow (.hire 3 m))) b N ds ((d, .int .u64 (stt c 0)) :: fr) (.inRegion ops rest :: k) cs) : W P (ΦZ P (Cp low tW msg) Stop v (Mn.enc W0 f0 d0 e0 ow (.hire 1 m))) b N ds fr (.inRegion ops (j :: rest) :: k) cs := by
 refine zM7 (R := fun γ' x => (γ' = Mn.enc W0 f0 d0 e0 ow (.hire 2 m) ∧ x = .int .u64 (stt 1 0)) ∨ ∃ c, 1 < c ∧ c < 1000001 ∧ γ' = Mn.enc W0 f0 d0 e0 ow (.hire 3 m) ∧ x = .int .u64 (stt c 0)) (fun a => qN ho hop he) (fun a ha σ ok hgh => ?_) hd ?_
 ·obtain ⟨hm, rfl, rfl, rfl, rfl, rfl⟩ := zD7 hgh
  have hp := zCn ok hm
  have hW : σ.mn.hasW = true := by rw [hm]; rfl
  have hsm' := ok.small
  have hw0 : σ.wtr.toNat = 0 := by rw [hp.1.1]; rfl
  have hwr : IntKind.u64.wrap ((σ.state : Int) + 4294967296) = (((σ.cnt + 1) * 4294967296 + 0 : Nat) : Int) := by
   have := zT9 (c := σ.cnt) (w := 0) hsm' (by omega)
   simp only [Cst.state, hw0]
   exact this
  by_cases hc : σ.cnt = 0
  ·refine ⟨_, _, _, _, zOh (k := 2) ok hm (.inl rfl) hsm, ?_, _, zDu, .inl ⟨rfl, rfl⟩⟩
   rw [<- hdst]
   rw [hc] at hwr
   exact zEh (s := (0 + 1) * 4294967296 + 0) ok hW (kY ha.slots hx) (kY ha.slots hy) hwr ho (hg.eq ha.slots) hk hop he (fun b => by rw [zPi hm, hw0, hc]) (zDt hm)
  ·refine ⟨_, _, _, _, zOh (k := 3) ok hm (.inr rfl) hsm, ?_, _, zDu, .inr ⟨σ.cnt + 1, by omega, by omega, rfl, rfl⟩⟩
   rw [<- hdst]
   exact zEh ok hW (kY ha.slots hx) (kY ha.slots hy) hwr ho (hg.eq ha.slots) hk hop he (fun b => by rw [zPi hm, hw0]) (zDt hm)
 ·rintro γ' x (⟨rfl, rfl⟩ | ⟨c, h1, h2, rfl, rfl⟩)
  ·exact k1
  ·exact k2 c h1 h2
theorem zYk (ho : ops[j]? = some o) (hg : Wants ops fr o true) (hk : b.kind ≠ .early) (hop : o.op = .call { callee := .value (.func f), args := aS, argTypes := ats }) (hdst : o.dst = some d) (hd : Nat.blt d N = true)
  (hx : aS.toList.map (ev fr) = [some (.pointer (some ⟨W0, 1, none⟩))]) (he : Ent P f (Extern.Race.marked .read)) (k' : W P (ΦZ P (Cp low tW msg) Stop v (Mn.enc W0 f0 d0 e0 ow (.hire 3 m))) b N ds ((d, .tuple #[]) :: fr) (.inRegion ops rest :: k) cs) : W P (ΦZ P (Cp low tW msg) Stop v (Mn.enc W0 f0 d0 e0 ow (.hire 2 m))) b N ds fr (.inRegion ops (j :: rest) :: k) cs := by
 refine zM7 (R := fun γ' x => γ' = Mn.enc W0 f0 d0 e0 ow (.hire 3 m) ∧ x = .tuple #[]) (fun a => qN ho hop he) (fun a ha σ ok hgh => ?_) hd (by rintro γ' x ⟨rfl, rfl⟩; exact k')
 obtain ⟨hm, rfl, rfl, rfl, rfl, rfl⟩ := zD7 hgh
 have hx' := zDr ha.slots (vs := [.pointer (some ⟨σ.W, 1, none⟩)]) hx
 exact ⟨_, _, _, _, zTu ok hm, by rw [<- hdst]; exact zDn .read (by simp) (by rw [hx']; rfl) ho (hg.eq ha.slots) hk hop he (zCw hm) (zDt hm), _, zDu, rfl, rfl⟩
theorem zY5 {kk : Nat} (ho : ops[j]? = some ⟨some d, .convert s t x, ty, pos, after, gd⟩) (hg : Wants ops fr ⟨some d, .convert s t x, ty, pos, after, gd⟩ true) (hk : b.kind ≠ .early) (hd : Nat.blt d N = true)
  (hx : ev fr x = some (.pointer (some ⟨W0, off, none⟩))) (hs : P.underlying s = some (.pointer e')) (ht : P.underlying t = some .unsafePointer) (hsz : (P.info? e').map (fun i => decide (i.size = 0)) = some false) (hoff : off = 0 ∨ off = 1)
  (k0 : W P (ΦZ P (Cp low tW msg) Stop v (Mn.enc W0 f0 d0 e0 ow (.hire kk m))) b N ds ((d, .pointer (some ⟨W0, off, none⟩)) :: fr) (.inRegion ops rest :: k) cs) : W P (ΦZ P (Cp low tW msg) Stop v (Mn.enc W0 f0 d0 e0 ow (.hire kk m))) b N ds fr (.inRegion ops (j :: rest) :: k) cs := by
 intro a ha
 refine zV1 (K := Cp low tW msg) (γ := Mn.enc W0 f0 d0 e0 ow (.hire kk m)) rfl rfl (fun σ ok hgh w hw => ?_) (k0 _ (ha.put hd _))
 obtain ⟨hm, rfl, rfl, rfl, rfl, rfl⟩ := zD7 hgh
 exact zEt (by rw [hm]; rfl) (kY ha.slots hx) ho (hg.eq ha.slots) hk hs ht hsz hoff hw
theorem z_on (he : Ent P f (fun _ => do mark .enable; pure Extern.Race.none_)) (h : Wr P (ΦZ P (Cp low tW msg) Stop v (Mn.enc W0 f0 d0 e0 ow (.hire 4 m))) b N ds fr cs) : Wr P (ΦZ P (Cp low tW msg) Stop v (Mn.enc W0 f0 d0 e0 ow (.hire 3 m))) b N (dcall f #[] :: ds) fr cs := by
 intro a todo ha
 refine zR7 (K := Cp low tW msg) (γ := Mn.enc W0 f0 d0 e0 ow (.hire 3 m)) rfl rfl rfl (fun γ' g' => γ' = Mn.enc W0 f0 d0 e0 ow (.hire 4 m) ∧ g' = G { b.at ⟨a.tmps, ds⟩ todo with mode := .returning } cs) (fun σ ok hgh => ?_) ?_
 ·obtain ⟨hm, rfl, rfl, rfl, rfl, rfl⟩ := zD7 hgh
  obtain ⟨fn, h1, h2, h3, h4, h5⟩ := he
  have hmv := zXv (tW := tW) (msg := msg) ok hm
  exact ⟨_, _, _, _, hmv, fun w hw => ⟨w, #[⟨.mark .enable, false, true⟩], stepG_unwind_entry (v := .tuple #[]) ha.defs h1 h2 h3 h4 h5 (by simp [Extern.Race.none_]) (by simp) (by
   intro x hx
   simp at hx
   subst hx
   exact ⟨rfl, fun g h => by cases h⟩), rfl, wX hw (zCw hm) (zDt hm)⟩, _, zDu, (zW6.zero _ hmv.ok).2, rfl, rfl⟩
 ·rintro γ' g' ⟨rfl, rfl⟩
  exact h _ todo ⟨ha.size, rfl, ha.slots⟩
theorem zOt (hi : i ≠ 0) (ho : ops[j]? = some o) (hg : Wants ops fr o true) (hk : b.kind ≠ .early) (hop : o.op = .call { callee := .builtin .close, args := #[x], argTypes := ats }) (hdst : o.dst = none)
  (hx : ev fr x = some (.chan (some d0))) (k2 : W P (ΦX P 0) b N ds fr (.inRegion ops rest :: k) cs) : W P (ΦN P (Cp low tW msg) i Stop v (Wt.enc W0 d0 .cls)) b N ds fr (.inRegion ops (j :: rest) :: k) cs := by
 intro a ha
 refine zMv (K := Cp low tW msg) (γ := Wt.enc W0 d0 .cls) hi rfl rfl (zIn ho hop) (fun _ _ => False) (fun σ ok hgh => ?_) (fun _ _ x => x.elim)
 obtain ⟨hi0, h1, rfl, rfl⟩ := zB9 (q := .cls) ok.zero hgh rfl
 obtain ⟨_, hm, hsh, ha1⟩ := xR ok h1
 obtain ⟨n, hq⟩ := k2 _ (ha.put0 (.tuple #[]))
 have hD : σ.ts.D i = 0 := by rw [vG hi0 h1]; rfl
 have hmv := zW8 (tW := tW) (msg := msg) ok h1
 refine ⟨_, _, _, G (b.at (a.put none (.tuple #[])) (.inRegion ops rest :: k)) cs, hmv, ?_, .inr (.inr ⟨n, zAi (σ := { σ.turn i none σ.cnt σ.wtr σ.sem 2 with shut := true }) hi0 (if_pos rfl), ?_⟩)⟩
 ·rw [<- hdst]
  refine zQs ok hm hsh (kY ha.slots hx) ho (hg.eq ha.slots) hk hop rfl (fun c => ?_)
  have := hmv.ch c
  rw [this]
  by_cases e : c = σ.d
  ·subst e; simp
  ·have e' : σ.d ≠ c := Ne.symm e
   simp [e, e']
 ·have e1 : dacts (((Cp low tW msg).ts σ).D i) [.access ⟨.obj σ.d, false, true⟩, .close σ.d] = 0 := hD
  rw [e1]
  exact hq
end
end Go.Proofs.Yteppiphdbondeaa.N
namespace Go.Proofs.Yteppiphdbondeaa.N
open Go Go.RowKit Go.Conc
set_option linter.unusedSectionVars false
set_option linter.unusedVariables false
set_option linter.unusedSimpArgs false
variable {N' c w : Nat} {o : Oper} {op : BinOp} {vs : List Value} {x : Int} {y : Code}
section
variable {P : Program} {Φ : Goroutine -> Prop} {b : Frame} {N : Nat} {ds : List Deferred} {fr : List (Nat × Value)} {k : List Item} {cs : List Frame} {ops : Array Oper} {i : Nat} {rest : List Nat} {d : Nat} {ty : TypeId} {pos : String} {after : Array Edge} {dst : Option Nat} {gd : Option (Nat × Bool)} [S : Stl P Φ]
theorem bk (f : FuncId) : (base f).kind ≠ .early := by intro h; cases h
theorem bkD (f : FuncId) : (baseD f).kind ≠ .early := by intro h; cases h
theorem wv {f : FuncId} {x : Value} (ho : ops[i]? = some o) (y : Pyl P fr o x) (h : W P Φ (base f) N ds ((d, x) :: fr) (.inRegion ops rest :: k) cs) (hg : Wants ops fr o true := by rfl) (hdst : o.dst = some d := by rfl) (hd : Nat.blt d N = true := by rfl) :
  W P Φ (base f) N ds fr (.inRegion ops (i :: rest) :: k) cs := qQ ho hg (bk f) hdst hd y h
theorem wo (ho : ops[i]? = some o) (h : W P Φ b N ds ((d, undef) :: fr) (.inRegion ops rest :: k) cs) (hg : Wants ops fr o false := by exact ⟨_, _, rfl, rfl, rfl⟩) (hdst : o.dst = some d := by rfl) (hd : Nat.blt d N = true := by rfl) :
  W P Φ b N ds fr (.inRegion ops (i :: rest) :: k) cs := zZt ho hg hdst hd h
theorem xJ {c : Operand} {x : Code} (hc : ev fr c = some (.bool true)) (h : W P Φ b N ds fr (.code x :: k) cs) : W P Φ b N ds fr (.code (.cond c x y) :: k) cs := zSb true hc h
theorem kK {c : Operand} {x : Code} (hc : ev fr c = some (.bool false)) (h : W P Φ b N ds fr (.code y :: k) cs) : W P Φ b N ds fr (.code (.cond c x y) :: k) cs := zSb false hc h
theorem qP {b₀ : Frame} {a₀ : Act} {ops₀ : Array Oper} {i₀ : Nat} {rest₀ : List Nat} {k₀ : List Item} {o₀ : Oper} {fn : Func} {x : Value} {N₀ d₀ : Nat} {ds₀ : List Deferred} {fr₀ : List (Nat × Value)} (hn : b.kind = .normal) (hf : P.funcs[b.fn]? = some fn) (hr : fn.results = #[] ∧ x = .tuple #[] ∨ ∃ t, fn.results = #[.tmp t] ∧ look fr t = some x)
  (ho : ops₀[i₀]? = some o₀) (hdst : o₀.dst = some d₀) (hd : Nat.blt d₀ N₀ = true) (h1 : Sl N₀ ds₀ fr₀ a₀) (h : W P Φ b₀ N₀ ds₀ ((d₀, x) :: fr₀) (.inRegion ops₀ rest₀ :: k₀) cs) : Wr P Φ b N [] fr (b₀.at a₀ (.inRegion ops₀ (i₀ :: rest₀) :: k₀) :: cs) :=
 zUt hn hf hr ho (by rw [hdst]; exact h _ (h1.put hd x))
end
def Bn (P : Program) (op : BinOp) (t : TypeId) (u u' v : Value) : Prop := ∀ w, (binOp op t u u').run P w = .ok v w ∧ (binOp op t u u').events P w #[] = #[]
section
variable {P : Program} {fr : List (Nat × Value)} {dst : Option Nat} {ty : TypeId} {pos : String} {after : Array Edge} {gd : Option (Nat × Bool)} {t t' : TypeId} {kd ke : IntKind} {m n : Int} {r : Bool}
theorem kB {x y : Operand} {v : Value} (hx : ev fr x = some (.int kd m)) (hy : ev fr y = some (.int kd n)) (h : Bn P op t (.int kd m) (.int kd n) v) : Pyl P fr ⟨dst, .binOp op t x y t', ty, pos, after, gd⟩ v := zWw hx hy (fun w => (h w).1) fun w => (h w).2
theorem zBj (hop : op = .shl ∨ op = .shr) {x y : Operand} {v : Value} (hx : ev fr x = some (.int kd m)) (hy : ev fr y = some (.int ke n)) (h : Bn P op t (.int kd m) (.int ke n) v) : Pyl P fr ⟨dst, .binOp op t x y t', ty, pos, after, gd⟩ v := zYg hop hx hy (fun w => (h w).1) fun w => (h w).2
theorem zBt (h : decide (m < n) = r) : Bn P .lss t (.int kd m) (.int kd n) (.bool r) := fun w => by subst h; simp [binOp, Op.intCmp]
theorem yC (h : decide (n < m) = r) : Bn P .gtr t (.int kd m) (.int kd n) (.bool r) := fun w => by subst h; simp [binOp, Op.intCmp]
theorem zBw (h : decide (m = n) = r) : Bn P .eql t (.int kd m) (.int kd n) (.bool r) := fun w => by
 have : (m == n) = decide (m = n) := by cases h : (m == n) <;> simp_all
 subst h
 simp [binOp, Op.intCmp, this]
theorem vC (h : decide (m ≠ n) = r) : Bn P .neq t (.int kd m) (.int kd n) (.bool r) := fun w => by
 have : (m != n) = decide (m ≠ n) := by cases h : (m != n) <;> simp_all
 subst h
 simp [binOp, Op.intCmp, this]
theorem zYo (h : kd.wrap (m + n) = x) : Bn P .add t (.int kd m) (.int kd n) (.int kd x) := fun w => by subst h; simp [binOp, Op.intArith]
theorem zX3 (h : kd.wrap (m - n) = x) : Bn P .sub t (.int kd m) (.int kd n) (.int kd x) := fun w => by subst h; simp [binOp, Op.intArith]
theorem zSd (h0 : 0 <= n) (h : kd.wrap (m * 2 ^ (min n.toNat kd.bits)) = x) : Bn P .shl t (.int kd m) (.int ke n) (.int kd x) := fun w => by subst h; simp [binOp, Op.shift, Int.not_lt.2 h0]
theorem zX8 (h0 : 0 <= n) (h : m.fdiv (2 ^ (min n.toNat kd.bits)) = x) : Bn P .shr t (.int kd m) (.int ke n) (.int kd x) := fun w => by subst h; simp [binOp, Op.shift, Int.not_lt.2 h0]
theorem zSe (h : bits .and kd m n = x) : Bn P .and t (.int kd m) (.int kd n) (.int kd x) := fun w => by subst h; simp [binOp, Op.intBits, bits]
theorem zAm (hc : c < 1000002) (hw : w <= 1) : Bn P .and t (.int .u64 (stt c w)) (.int .u64 2147483648) (.int .u64 0) := by
 refine zSe ?_
 have := Go.ConcN.st_flag c w (by omega) hw
 have e : stt c w = (c : Int) * 4294967296 + (w : Int) := by simp [stt]
 rw [e]
 exact this
theorem zAj (hc : c < 1000002) (hw : w <= 1) : Bn P .and t (.int .u64 (stt c w)) (.int .u64 2147483647) (.int .u64 (w : Int)) := by
 refine zSe ?_
 have := Go.ConcN.st_waiters c w (by omega) hw
 have e : stt c w = (c : Int) * 4294967296 + (w : Int) := by simp [stt]
 rw [e]
 exact this
theorem zAf (hw : w <= 1) : Bn P .shr t (.int .u64 (stt c w)) (.int .u64 32) (.int .u64 (c : Int)) := by
 refine zX8 (by decide) ?_
 have e : min (32 : Int).toNat IntKind.u64.bits = 32 := rfl
 rw [e, Int.fdiv_eq_ediv_of_nonneg _ (by decide)]
 have e2 : (2 : Int) ^ 32 = 4294967296 := by decide
 rw [e2]
 simp only [stt]
 omega
theorem zX2 (hc : c < 1000002) : Bn P .add t (.int .u64 (stt c 0)) (.int .u64 1) (.int .u64 (stt c 1)) := by
 refine zYo ?_
 rw [IntKind.wrap_u64]
 simp only [stt]
 omega
theorem yR (hc : c < 1000002) : IntKind.i32.wrap (c : Int) = (c : Int) := by
 rw [IntKind.wrap_i32]
 omega
theorem yQ (hc : c < 1000002) : IntKind.u32.wrap (c : Int) = (c : Int) := by
 rw [IntKind.wrap_u32]
 omega
end
section
variable {P : Program} {Φ : Goroutine -> Prop} {b : Frame} {N : Nat} {ds : List Deferred} {fr fr' : List (Nat × Value)} {k : List Item} {cs : List Frame} {f : FuncId} {fn : Func}
theorem zVf (hs : Sub fr' fr) (h : W P Φ b N ds fr' k cs) : W P Φ b N ds fr k cs := fun a ha => h a (ha.sub hs)
theorem zCl (hf : P.funcs[f]? = some fn) (hr : fn.results = #[]) : Wr P (ΦX P 0) (baseD f) N [] fr [bornF P] := by
 intro a todo ha
 refine ⟨2, .ctl (g' := G (bornF P) []) rfl (fun w => ?_) (.ctl (g' := { G (bornF P) [] with status := .finished }) rfl (fun w => ?_) ⟨rfl, rfl⟩)⟩
 ·have h1 := results_none hr a.tmps P w
  have h2 := events_results_none hr a.tmps #[] (P := P) (w := w)
  simp [G, stepG, unwind, doReturn, Frame.at, baseD, ha.defs, hf, h1, h2, seen, GStep.after, bornF, goexitEntry]
 ·have h0 : (default : Frame).todo = [] := rfl
  simp [G, stepG, unwind, bornF, Frame.catches, goexitEntry, h0]
theorem zL4 {c : Code} (hf : P.funcs[f]? = some fn) (hb : fn.body = some c) (hN : fn.ntmps = N') (hle : Nat.ble vs.length N' = true) (h : W P Φ (baseD f) N' [] (idx 0 vs) [.code c] cs) : Φ (G (Frame.enter P f vs.toArray .deferred) cs) := by
 subst hN
 rw [enter_atD vs.toArray hf hb]
 have := zGl (P := P) (I := ⟨false, fun _ _ _ => True⟩) (vs := vs) (v := default) hle
 exact h _ ⟨this.size, rfl, this.slots⟩
theorem zVl {c : Code} (hf : P.funcs[f]? = some fn) (hb : fn.body = some c) (hN : fn.ntmps = N') (hle : Nat.ble vs.length N' = true) (h : W P Φ (base f) N' [] (idx 0 vs) [.code c] cs) : Φ (G (Frame.enter P f vs.toArray .normal) cs) := by
 subst hN
 rw [enter_at vs.toArray hf hb]
 have := zGl (P := P) (I := ⟨false, fun _ _ _ => True⟩) (vs := vs) (v := default) hle
 exact h _ ⟨this.size, rfl, this.slots⟩
end
section
variable {low : Nat} {tW : TypeId} {msg : Nat -> Value} {P : Program} {Stop : Goroutine -> World -> Prop} {v : World} {i : Nat} {b : Frame} {N : Nat} {ds : List Deferred} {fr : List (Nat × Value)} {k : List Item} {cs : List Frame} {W0 d0 : Nat} {ops : Array Oper} {j : Nat} {rest : List Nat} {d : Nat} {γ : Gh}
theorem zY9 {c : Code} (h : ∀ n, (∀ m, m < n -> W P (ΦN P (Cp low tW msg) i Stop v (Wt.enc W0 d0 (.load m))) b N ds fr (.inLoop c :: k) cs) -> W P (ΦN P (Cp low tW msg) i Stop v (Wt.enc W0 d0 (.load n))) b N ds fr (.code c :: .inLoop c :: k) cs) (n : Nat) :
  W P (ΦN P (Cp low tW msg) i Stop v (Wt.enc W0 d0 (.load n))) b N ds fr (.code (.loop c) :: k) cs := by
 have key : ∀ n, W P (ΦN P (Cp low tW msg) i Stop v (Wt.enc W0 d0 (.load n))) b N ds fr (.code c :: .inLoop c :: k) cs := by
  intro n
  induction n using Nat.strongRecOn with
  | _ n ih => exact h n fun m hm => zLu (ih m hm)
 exact zQ5 (key n)
theorem zRr {x : Operand} {t : TypeId} {p : Addr} {u : Value} {ty : TypeId} {pos : String} {after : Array Edge} (ho : ops[j]? = some ⟨some d, .load t x, ty, pos, after, none⟩) (hk : b.kind ≠ .early) (hro : b.roundOf = none) (hd : Nat.blt d N = true) (hx : ev fr x = some (.pointer (some p))) (ht : One P t) (hc : v.cell? p = some u) (hlt : p.block < v.heap.size)
  (k' : W P (ΦN P (Cp low tW msg) i Stop v γ) b N ds ((d, u) :: fr) (.inRegion ops rest :: k) cs) : W P (ΦN P (Cp low tW msg) i Stop v γ) b N ds fr (.inRegion ops (j :: rest) :: k) cs := by
 intro a ha
 letI : Sys := nSys P (Cp low tW msg) i
 have hat : At ⟨P, v.heap.size, saying v (gout γ), N, ds⟩ fr [] a (saying v (gout γ)) := ⟨ha.size, ha.defs, ha.slots, Below.refl _ _, Nat.le_refl _, (fun r hr => by cases hr), List.nodup_nil⟩
 have e1 : ∀ a' k', b.at a' k' = b.atR a' k' := fun a' k' => by rw [Frame.atR_of_none hro]
 show @Gs P (nSys P (Cp low tW msg) i) Stop _ _
 rw [e1]
 refine zYs (C := ⟨P, v.heap.size, saying v (gout γ), N, ds⟩) (hp := []) (x := u) hat ho hk (.inl hro) (jP hx ht fun a w h => h.old (show (saying v (gout γ)).cell? p = some u from hc) hlt) ?_
 rw [<- e1]
 exact k' _ (ha.put hd u)
end
end Go.Proofs.Yteppiphdbondeaa.N
namespace Go.Proofs.Yteppiphdbondeaa.N
open Go Go.RowKit Go.Proofs Go.Conc
set_option linter.unusedSectionVars false
set_option linter.unusedVariables false
set_option maxRecDepth 4000
section
variable [I : Sys]
theorem F.fi128_2 : FI Try.prog 128 2 70 0 := ⟨_, _, Try.underlying128, rfl, rfl, rfl⟩
theorem F.fi131_1 : FI Try.prog 131 1 128 0 := ⟨_, _, Try.underlying131, rfl, rfl, rfl⟩
theorem F.fi131_2 : FI Try.prog 131 2 129 1 := ⟨_, _, Try.underlying131, rfl, rfl, rfl⟩
theorem F.one122 : One Try.prog 122 := ⟨by unfold aggB; rw [Try.underlying122], by rw [Try.underlying122]; simp⟩
theorem F.ti128 : TI Try.prog 128 (.agg [.int .u64 0].toArray) 1 8 := TI.of (by kernel_rfl)
theorem F.ti129 : TI Try.prog 129 (.int .u32 0) 1 4 := TI.of (by kernel_rfl)
theorem F.ti70 : TI Try.prog 70 (.int .u64 0) 1 8 := TI.of (by kernel_rfl)
end
theorem E.relMerge : Ent Try.prog 88 (Extern.Race.marked .releaseMerge) := ⟨_, Try.func88, by kernel_rfl, by kernel_rfl, by kernel_rfl, by kernel_rfl⟩
theorem E.acquire : Ent Try.prog 101 (Extern.Race.marked .acquire) := ⟨_, Try.func101, by kernel_rfl, by kernel_rfl, by kernel_rfl, by kernel_rfl⟩
theorem E.read : Ent Try.prog 96 (Extern.Race.marked .read) := ⟨_, Try.func96, by kernel_rfl, by kernel_rfl, by kernel_rfl, by kernel_rfl⟩
theorem E.write : Ent Try.prog 104 (Extern.Race.marked .write) := ⟨_, Try.func104, by kernel_rfl, by kernel_rfl, by kernel_rfl, by kernel_rfl⟩
theorem E.disable : Ent Try.prog 89 (fun _ => do mark .disable; pure Extern.Race.none_) := ⟨_, Try.func89, by kernel_rfl, by kernel_rfl, by kernel_rfl, by kernel_rfl⟩
theorem E.enable : Ent Try.prog 90 (fun _ => do mark .enable; pure Extern.Race.none_) := ⟨_, Try.func90, by kernel_rfl, by kernel_rfl, by kernel_rfl, by kernel_rfl⟩
theorem E.semrel : Ent Try.prog 100 Extern.Sync.semrelease := ⟨_, Try.func100, by kernel_rfl, by kernel_rfl, by kernel_rfl, by kernel_rfl⟩
theorem E.semacq : Ent Try.prog 105 Extern.Sync.semacquire := ⟨_, Try.func105, by kernel_rfl, by kernel_rfl, by kernel_rfl, by kernel_rfl⟩
theorem E.add : Ent Try.prog 111 (Extern.Atomic.update (Op.intArith .add) .u64 true) := ⟨_, Try.func111, by kernel_rfl, by kernel_rfl, by kernel_rfl, by kernel_rfl⟩
theorem E.load : Ent Try.prog 112 (Extern.Atomic.loadT (.int .u64)) := ⟨_, Try.func112, by kernel_rfl, by kernel_rfl, by kernel_rfl, by kernel_rfl⟩
theorem E.store : Ent Try.prog 113 Extern.Atomic.storeT := ⟨_, Try.func113, by kernel_rfl, by kernel_rfl, by kernel_rfl, by kernel_rfl⟩
theorem E.cas : Ent Try.prog 114 (Extern.Atomic.casT (.int .u64)) := ⟨_, Try.func114, by kernel_rfl, by kernel_rfl, by kernel_rfl, by kernel_rfl⟩
section
variable {low : Nat} {msg : Nat -> Value} {Stop : Goroutine -> World -> Prop} {v : World} {i : Nat} {W0 f0 d0 e0 : Nat}
theorem zVj (hi : i ≠ 0) {a : Act} {todo : List Item} (hs : Sl a.tmps.size [] [] a) : ΦN Try.prog (Cp low 131 msg) i Stop v (Wkr.enc W0 f0 (.send [])) (G (Frame.enter Try.prog 77 [pt W0].toArray .deferred) [{ (baseD 76).at a todo with mode := .returning }, bornF Try.prog]) := by
 letI : Sys := nSys Try.prog (Cp low 131 msg) i
 refine zL4 Try.func77 rfl rfl rfl ?_
 refine zU (l := [0, 1]) rfl ?_
 refine qQ (x := pt W0) rfl rfl (bkD _) rfl rfl (zK rfl) ?_
 refine zAq (vs := [pt W0, .int .i64 (-1)]) rfl rfl (bkD _) rfl Try.func75 (by kernel_rfl) rfl rfl rfl rfl (fun a1 h1 => ?_)
 refine zZ ?_
 refine xJ rfl ?_
 refine zZ ?_
 refine zZ ?_
 refine zU (l := [0, 1]) rfl ?_
 refine wv (x := .int .i64 (-1)) rfl (zK rfl) ?_
 refine wv (x := .bool true) rfl (kB rfl rfl (zBt (decide_eq_true (by omega)))) ?_
 refine jG ?_
 refine xJ rfl ?_
 refine zU (l := [0, 1, 2]) rfl ?_
 refine wv (x := pt W0) rfl (zK rfl) ?_
 refine zXp rfl rfl (bk _) rfl rfl Try.underlying144 Try.underlying146 (by kernel_rfl) (.inl rfl) ?_
 refine zZq hi rfl rfl (bk _) rfl rfl rfl rfl E.relMerge ?_
 refine jG ?_
 refine zZ ?_
 refine zU (l := [0]) rfl ?_
 refine zZj rfl rfl (bk _) rfl rfl rfl E.disable ?_
 refine jG ?_
 refine zU (l := [0]) rfl ?_
 refine zOv rfl rfl (bk _) rfl rfl ?_
 refine jG ?_
 refine zZ ?_
 refine zU (l := [0]) rfl ?_
 refine wv (x := .bool false) rfl (jL rfl) ?_
 refine jG ?_
 refine zZ ?_
 refine zZ ?_
 refine zU (l := [0]) rfl ?_
 refine zRi (.bool false) rfl rfl (bk _) rfl rfl rfl Try.func91 (by kernel_rfl) rfl (by kernel_rfl) (by kernel_rfl) ?_
 refine jG ?_
 refine kK rfl ?_
 refine qC ?_
 refine zZ ?_
 refine zU (l := [0, 1, 2, 3, 4, 5, 6, 7]) rfl ?_
 refine wv (x := pt W0) rfl (zK rfl) ?_
 refine wv (x := pt W0) rfl (kW rfl) ?_
 refine wv (x := pt W0) rfl (qS rfl F.fi131_1 F.ti128) ?_
 refine wv (x := .int .i64 (-1)) rfl (zK rfl) ?_
 refine wv (x := .int .u64 18446744073709551615) rfl (kV rfl Try.underlying3 Try.underlying70 (by decide)) ?_
 refine wv (x := .int .u64 18446744069414584320) rfl (zBj (.inl rfl) rfl rfl (zSd (by decide) (by decide))) ?_
 refine zAq (vs := [pt W0, .int .u64 18446744069414584320]) rfl rfl (bk _) rfl Try.func95 (by kernel_rfl) rfl rfl rfl rfl (fun a2 h2 => ?_)
 refine zZ ?_
 refine zU (l := [0]) rfl ?_
 refine wv (x := .int .u64 0) rfl (jL rfl) ?_
 refine jG ?_
 refine zZ ?_
 refine zU (l := [0, 1, 2, 3, 4, 5]) rfl ?_
 refine wv (x := pt W0) rfl (zK rfl) ?_
 refine wv (x := pt W0) rfl (kW rfl) ?_
 refine wv (x := pt W0) rfl (qS rfl F.fi128_2 F.ti70) ?_
 refine wv (x := .int .u64 18446744069414584320) rfl (zK rfl) ?_
 refine zZ1 rfl rfl (bk _) rfl rfl rfl rfl rfl E.add (fun c w hc hw hcw => ?_) ?_
 ·obtain rfl | rfl : w = 0 ∨ w = 1 := by omega
  ·rcases Nat.eq_zero_or_pos c with rfl | hc0
   ·
    refine wv (x := .int .u64 (stt 0 0)) rfl (jL rfl) ?_
    refine jG ?_
    refine vQ ?_
    refine qP rfl Try.func95 (.inr ⟨4, rfl, rfl⟩) rfl rfl rfl h2 ?_
    refine wv (x := .int .u64 (stt 0 0)) rfl (jL rfl) ?_
    refine jG ?_
    refine zZ ?_
    refine zZ ?_
    refine zU (l := [0, 1, 2, 3, 4, 5, 6]) rfl ?_
    refine wv (x := .int .u64 (stt 0 0)) rfl (zK rfl) ?_
    refine wv (x := .int .u64 0) rfl (kB rfl rfl (zAm (by omega) (by decide))) ?_
    refine wv (x := .bool false) rfl (kB rfl rfl (vC (decide_eq_false (by omega)))) ?_
    refine wv (x := .bool false) rfl (zK rfl) ?_
    refine wo rfl ?_
    refine wo rfl ?_
    refine wv (x := .bool false) rfl (kF false rfl rfl) ?_
    refine jG ?_
    refine kK rfl ?_
    refine qC ?_
    refine zZ ?_
    refine zU (l := [0, 1, 2, 3]) rfl ?_
    refine wv (x := .int .u64 (stt 0 0)) rfl (zK rfl) ?_
    refine wv (x := .int .u64 ((0 : Nat) : Int)) rfl (zBj (.inr rfl) rfl rfl (zAf (by decide))) ?_
    refine wv (x := .int .i32 ((0 : Nat) : Int)) rfl (kV rfl Try.underlying70 Try.underlying21 (yR (by omega))) ?_
    refine wv (x := .int .i32 ((0 : Nat) : Int)) rfl (jL rfl) ?_
    refine jG ?_
    refine zZ ?_
    refine zU (l := [0, 1, 2, 3]) rfl ?_
    refine wv (x := .int .u64 (stt 0 0)) rfl (zK rfl) ?_
    refine wv (x := .int .u64 ((0 : Nat) : Int)) rfl (kB rfl rfl (zAj (by omega) (by decide))) ?_
    refine wv (x := .int .u32 ((0 : Nat) : Int)) rfl (kV rfl Try.underlying70 Try.underlying129 (yQ (by omega))) ?_
    refine wv (x := .int .u32 ((0 : Nat) : Int)) rfl (jL rfl) ?_
    refine jG ?_
    refine zZ ?_
    refine zZ ?_
    refine zU (l := [0, 1, 2, 3, 4, 5, 6, 7, 8, 9]) rfl ?_
    refine wv (x := .bool true) rfl (zK rfl) ?_
    refine qQ (x := .int .i64 (-1)) rfl ⟨_, _, rfl, rfl, rfl⟩ (bk _) rfl rfl (zK rfl) ?_
    refine qQ (x := .bool false) rfl ⟨_, _, rfl, rfl, rfl⟩ (bk _) rfl rfl (kB rfl rfl (yC (decide_eq_false (by omega)))) ?_
    refine wv (x := .bool false) rfl (kF true rfl rfl) ?_
    refine wv (x := .bool false) rfl (zK rfl) ?_
    refine wo rfl ?_
    refine wo rfl ?_
    refine wo rfl ?_
    refine wo rfl ?_
    refine wv (x := .bool false) rfl (kF false rfl rfl) ?_
    refine jG ?_
    refine kK rfl ?_
    refine qC ?_
    refine zZ ?_
    refine zZ ?_
    refine zU (l := [0, 1]) rfl ?_
    refine wv (x := .int .i32 ((0 : Nat) : Int)) rfl (zK rfl) ?_
    refine wv (x := .bool false) rfl (kB rfl rfl (zBt (decide_eq_false (by omega)))) ?_
    refine jG ?_
    refine kK rfl ?_
    refine qC ?_
    refine zZ ?_
    refine zZ ?_
    refine zU (l := [0, 1, 2, 3, 4, 5, 6, 7, 8, 9, 10, 11]) rfl ?_
    refine wv (x := .int .u32 ((0 : Nat) : Int)) rfl (zK rfl) ?_
    refine wv (x := .bool false) rfl (kB rfl rfl (vC (decide_eq_false (by omega)))) ?_
    refine wv (x := .bool false) rfl (zK rfl) ?_
    refine wo rfl ?_
    refine wo rfl ?_
    refine wv (x := .bool false) rfl (kF false rfl rfl) ?_
    refine wv (x := .bool false) rfl (zK rfl) ?_
    refine wo rfl ?_
    refine wo rfl ?_
    refine wo rfl ?_
    refine wo rfl ?_
    refine wv (x := .bool false) rfl (kF false rfl rfl) ?_
    refine jG ?_
    refine kK rfl ?_
    refine qC ?_
    refine zZ ?_
    refine zZ ?_
    refine zU (l := [0, 1, 2, 3, 4, 5]) rfl ?_
    refine wv (x := .int .i32 ((0 : Nat) : Int)) rfl (zK rfl) ?_
    refine wv (x := .bool false) rfl (kB rfl rfl (yC (decide_eq_false (by omega)))) ?_
    refine wv (x := .bool false) rfl (zK rfl) ?_
    refine qQ (x := .int .u32 ((0 : Nat) : Int)) rfl ⟨_, _, rfl, rfl, rfl⟩ (bk _) rfl rfl (zK rfl) ?_
    refine qQ (x := .bool true) rfl ⟨_, _, rfl, rfl, rfl⟩ (bk _) rfl rfl (kB rfl rfl (zBw (decide_eq_true (by omega)))) ?_
    refine wv (x := .bool true) rfl (kF false rfl rfl) ?_
    refine jG ?_
    refine xJ rfl ?_
    refine vQ ?_
    refine zLr (fn := default) E.enable ?_
    refine qP rfl Try.func75 (.inl ⟨rfl, rfl⟩) rfl rfl rfl h1 ?_
    refine jG ?_
    refine zC5 ?_
    exact zDh rfl Try.func77 rfl rfl (zCl Try.func76 rfl (fr := []) _ _ hs)
   ·
    refine wv (x := .int .u64 (stt c 0)) rfl (jL rfl) ?_
    refine jG ?_
    refine vQ ?_
    refine qP rfl Try.func95 (.inr ⟨4, rfl, rfl⟩) rfl rfl rfl h2 ?_
    refine wv (x := .int .u64 (stt c 0)) rfl (jL rfl) ?_
    refine jG ?_
    refine zZ ?_
    refine zZ ?_
    refine zU (l := [0, 1, 2, 3, 4, 5, 6]) rfl ?_
    refine wv (x := .int .u64 (stt c 0)) rfl (zK rfl) ?_
    refine wv (x := .int .u64 0) rfl (kB rfl rfl (zAm (by omega) (by decide))) ?_
    refine wv (x := .bool false) rfl (kB rfl rfl (vC (decide_eq_false (by omega)))) ?_
    refine wv (x := .bool false) rfl (zK rfl) ?_
    refine wo rfl ?_
    refine wo rfl ?_
    refine wv (x := .bool false) rfl (kF false rfl rfl) ?_
    refine jG ?_
    refine kK rfl ?_
    refine qC ?_
    refine zZ ?_
    refine zU (l := [0, 1, 2, 3]) rfl ?_
    refine wv (x := .int .u64 (stt c 0)) rfl (zK rfl) ?_
    refine wv (x := .int .u64 ((c : Nat) : Int)) rfl (zBj (.inr rfl) rfl rfl (zAf (by decide))) ?_
    refine wv (x := .int .i32 ((c : Nat) : Int)) rfl (kV rfl Try.underlying70 Try.underlying21 (yR (by omega))) ?_
    refine wv (x := .int .i32 ((c : Nat) : Int)) rfl (jL rfl) ?_
    refine jG ?_
    refine zZ ?_
    refine zU (l := [0, 1, 2, 3]) rfl ?_
    refine wv (x := .int .u64 (stt c 0)) rfl (zK rfl) ?_
    refine wv (x := .int .u64 ((0 : Nat) : Int)) rfl (kB rfl rfl (zAj (by omega) (by decide))) ?_
    refine wv (x := .int .u32 ((0 : Nat) : Int)) rfl (kV rfl Try.underlying70 Try.underlying129 (yQ (by omega))) ?_
    refine wv (x := .int .u32 ((0 : Nat) : Int)) rfl (jL rfl) ?_
    refine jG ?_
    refine zZ ?_
    refine zZ ?_
    refine zU (l := [0, 1, 2, 3, 4, 5, 6, 7, 8, 9]) rfl ?_
    refine wv (x := .bool true) rfl (zK rfl) ?_
    refine qQ (x := .int .i64 (-1)) rfl ⟨_, _, rfl, rfl, rfl⟩ (bk _) rfl rfl (zK rfl) ?_
    refine qQ (x := .bool false) rfl ⟨_, _, rfl, rfl, rfl⟩ (bk _) rfl rfl (kB rfl rfl (yC (decide_eq_false (by omega)))) ?_
    refine wv (x := .bool false) rfl (kF true rfl rfl) ?_
    refine wv (x := .bool false) rfl (zK rfl) ?_
    refine wo rfl ?_
    refine wo rfl ?_
    refine wo rfl ?_
    refine wo rfl ?_
    refine wv (x := .bool false) rfl (kF false rfl rfl) ?_
    refine jG ?_
    refine kK rfl ?_
    refine qC ?_
    refine zZ ?_
    refine zZ ?_
    refine zU (l := [0, 1]) rfl ?_
    refine wv (x := .int .i32 ((c : Nat) : Int)) rfl (zK rfl) ?_
    refine wv (x := .bool false) rfl (kB rfl rfl (zBt (decide_eq_false (by omega)))) ?_
    refine jG ?_
    refine kK rfl ?_
    refine qC ?_
    refine zZ ?_
    refine zZ ?_
    refine zU (l := [0, 1, 2, 3, 4, 5, 6, 7, 8, 9, 10, 11]) rfl ?_
    refine wv (x := .int .u32 ((0 : Nat) : Int)) rfl (zK rfl) ?_
    refine wv (x := .bool false) rfl (kB rfl rfl (vC (decide_eq_false (by omega)))) ?_
    refine wv (x := .bool false) rfl (zK rfl) ?_
    refine wo rfl ?_
    refine wo rfl ?_
    refine wv (x := .bool false) rfl (kF false rfl rfl) ?_
    refine wv (x := .bool false) rfl (zK rfl) ?_
    refine wo rfl ?_
    refine wo rfl ?_
    refine wo rfl ?_
    refine wo rfl ?_
    refine wv (x := .bool false) rfl (kF false rfl rfl) ?_
    refine jG ?_
    refine kK rfl ?_
    refine qC ?_
    refine zZ ?_
    refine zZ ?_
    refine zU (l := [0, 1, 2, 3, 4, 5]) rfl ?_
    refine wv (x := .int .i32 ((c : Nat) : Int)) rfl (zK rfl) ?_
    refine wv (x := .bool true) rfl (kB rfl rfl (yC (decide_eq_true (by omega)))) ?_
    refine wv (x := .bool true) rfl (zK rfl) ?_
    refine wo rfl ?_
    refine wo rfl ?_
    refine wv (x := .bool true) rfl (kF true rfl rfl) ?_
    refine jG ?_
    refine xJ rfl ?_
    refine vQ ?_
    refine zLr (fn := default) E.enable ?_
    refine qP rfl Try.func75 (.inl ⟨rfl, rfl⟩) rfl rfl rfl h1 ?_
    refine jG ?_
    refine zC5 ?_
    exact zDh rfl Try.func77 rfl rfl (zCl Try.func76 rfl (fr := []) _ _ hs)
  ·have hc0 : 0 < c := by omega
   refine wv (x := .int .u64 (stt c 1)) rfl (jL rfl) ?_
   refine jG ?_
   refine vQ ?_
   refine qP rfl Try.func95 (.inr ⟨4, rfl, rfl⟩) rfl rfl rfl h2 ?_
   refine wv (x := .int .u64 (stt c 1)) rfl (jL rfl) ?_
   refine jG ?_
   refine zZ ?_
   refine zZ ?_
   refine zU (l := [0, 1, 2, 3, 4, 5, 6]) rfl ?_
   refine wv (x := .int .u64 (stt c 1)) rfl (zK rfl) ?_
   refine wv (x := .int .u64 0) rfl (kB rfl rfl (zAm (by omega) (by decide))) ?_
   refine wv (x := .bool false) rfl (kB rfl rfl (vC (decide_eq_false (by omega)))) ?_
   refine wv (x := .bool false) rfl (zK rfl) ?_
   refine wo rfl ?_
   refine wo rfl ?_
   refine wv (x := .bool false) rfl (kF false rfl rfl) ?_
   refine jG ?_
   refine kK rfl ?_
   refine qC ?_
   refine zZ ?_
   refine zU (l := [0, 1, 2, 3]) rfl ?_
   refine wv (x := .int .u64 (stt c 1)) rfl (zK rfl) ?_
   refine wv (x := .int .u64 ((c : Nat) : Int)) rfl (zBj (.inr rfl) rfl rfl (zAf (by decide))) ?_
   refine wv (x := .int .i32 ((c : Nat) : Int)) rfl (kV rfl Try.underlying70 Try.underlying21 (yR (by omega))) ?_
   refine wv (x := .int .i32 ((c : Nat) : Int)) rfl (jL rfl) ?_
   refine jG ?_
   refine zZ ?_
   refine zU (l := [0, 1, 2, 3]) rfl ?_
   refine wv (x := .int .u64 (stt c 1)) rfl (zK rfl) ?_
   refine wv (x := .int .u64 ((1 : Nat) : Int)) rfl (kB rfl rfl (zAj (by omega) (by decide))) ?_
   refine wv (x := .int .u32 ((1 : Nat) : Int)) rfl (kV rfl Try.underlying70 Try.underlying129 (yQ (by omega))) ?_
   refine wv (x := .int .u32 ((1 : Nat) : Int)) rfl (jL rfl) ?_
   refine jG ?_
   refine zZ ?_
   refine zZ ?_
   refine zU (l := [0, 1, 2, 3, 4, 5, 6, 7, 8, 9]) rfl ?_
   refine wv (x := .bool true) rfl (zK rfl) ?_
   refine qQ (x := .int .i64 (-1)) rfl ⟨_, _, rfl, rfl, rfl⟩ (bk _) rfl rfl (zK rfl) ?_
   refine qQ (x := .bool false) rfl ⟨_, _, rfl, rfl, rfl⟩ (bk _) rfl rfl (kB rfl rfl (yC (decide_eq_false (by omega)))) ?_
   refine wv (x := .bool false) rfl (kF true rfl rfl) ?_
   refine wv (x := .bool false) rfl (zK rfl) ?_
   refine wo rfl ?_
   refine wo rfl ?_
   refine wo rfl ?_
   refine wo rfl ?_
   refine wv (x := .bool false) rfl (kF false rfl rfl) ?_
   refine jG ?_
   refine kK rfl ?_
   refine qC ?_
   refine zZ ?_
   refine zZ ?_
   refine zU (l := [0, 1]) rfl ?_
   refine wv (x := .int .i32 ((c : Nat) : Int)) rfl (zK rfl) ?_
   refine wv (x := .bool false) rfl (kB rfl rfl (zBt (decide_eq_false (by omega)))) ?_
   refine jG ?_
   refine kK rfl ?_
   refine qC ?_
   refine zZ ?_
   refine zZ ?_
   refine zU (l := [0, 1, 2, 3, 4, 5, 6, 7, 8, 9, 10, 11]) rfl ?_
   refine wv (x := .int .u32 ((1 : Nat) : Int)) rfl (zK rfl) ?_
   refine wv (x := .bool true) rfl (kB rfl rfl (vC (decide_eq_true (by omega)))) ?_
   refine wv (x := .bool true) rfl (zK rfl) ?_
   refine qQ (x := .int .i64 (-1)) rfl ⟨_, _, rfl, rfl, rfl⟩ (bk _) rfl rfl (zK rfl) ?_
   refine qQ (x := .bool false) rfl ⟨_, _, rfl, rfl, rfl⟩ (bk _) rfl rfl (kB rfl rfl (yC (decide_eq_false (by omega)))) ?_
   refine wv (x := .bool false) rfl (kF true rfl rfl) ?_
   refine wv (x := .bool false) rfl (zK rfl) ?_
   refine wo rfl ?_
   refine wo rfl ?_
   refine wo rfl ?_
   refine wo rfl ?_
   refine wv (x := .bool false) rfl (kF false rfl rfl) ?_
   refine jG ?_
   refine kK rfl ?_
   refine qC ?_
   refine zZ ?_
   refine zZ ?_
   refine zU (l := [0, 1, 2, 3, 4, 5]) rfl ?_
   refine wv (x := .int .i32 ((c : Nat) : Int)) rfl (zK rfl) ?_
   refine wv (x := .bool true) rfl (kB rfl rfl (yC (decide_eq_true (by omega)))) ?_
   refine wv (x := .bool true) rfl (zK rfl) ?_
   refine wo rfl ?_
   refine wo rfl ?_
   refine wv (x := .bool true) rfl (kF true rfl rfl) ?_
   refine jG ?_
   refine xJ rfl ?_
   refine vQ ?_
   refine zLr (fn := default) E.enable ?_
   refine qP rfl Try.func75 (.inl ⟨rfl, rfl⟩) rfl rfl rfl h1 ?_
   refine jG ?_
   refine zC5 ?_
   exact zDh rfl Try.func77 rfl rfl (zCl Try.func76 rfl (fr := []) _ _ hs)
 ·
  refine wv (x := .int .u64 (stt 0 1)) rfl (jL rfl) ?_
  refine jG ?_
  refine vQ ?_
  refine qP rfl Try.func95 (.inr ⟨4, rfl, rfl⟩) rfl rfl rfl h2 ?_
  refine wv (x := .int .u64 (stt 0 1)) rfl (jL rfl) ?_
  refine jG ?_
  refine zZ ?_
  refine zZ ?_
  refine zU (l := [0, 1, 2, 3, 4, 5, 6]) rfl ?_
  refine wv (x := .int .u64 (stt 0 1)) rfl (zK rfl) ?_
  refine wv (x := .int .u64 0) rfl (kB rfl rfl (zAm (by omega) (by decide))) ?_
  refine wv (x := .bool false) rfl (kB rfl rfl (vC (decide_eq_false (by omega)))) ?_
  refine wv (x := .bool false) rfl (zK rfl) ?_
  refine wo rfl ?_
  refine wo rfl ?_
  refine wv (x := .bool false) rfl (kF false rfl rfl) ?_
  refine jG ?_
  refine kK rfl ?_
  refine qC ?_
  refine zZ ?_
  refine zU (l := [0, 1, 2, 3]) rfl ?_
  refine wv (x := .int .u64 (stt 0 1)) rfl (zK rfl) ?_
  refine wv (x := .int .u64 ((0 : Nat) : Int)) rfl (zBj (.inr rfl) rfl rfl (zAf (by decide))) ?_
  refine wv (x := .int .i32 ((0 : Nat) : Int)) rfl (kV rfl Try.underlying70 Try.underlying21 (yR (by omega))) ?_
  refine wv (x := .int .i32 ((0 : Nat) : Int)) rfl (jL rfl) ?_
  refine jG ?_
  refine zZ ?_
  refine zU (l := [0, 1, 2, 3]) rfl ?_
  refine wv (x := .int .u64 (stt 0 1)) rfl (zK rfl) ?_
  refine wv (x := .int .u64 ((1 : Nat) : Int)) rfl (kB rfl rfl (zAj (by omega) (by decide))) ?_
  refine wv (x := .int .u32 ((1 : Nat) : Int)) rfl (kV rfl Try.underlying70 Try.underlying129 (yQ (by omega))) ?_
  refine wv (x := .int .u32 ((1 : Nat) : Int)) rfl (jL rfl) ?_
  refine jG ?_
  refine zZ ?_
  refine zZ ?_
  refine zU (l := [0, 1, 2, 3, 4, 5, 6, 7, 8, 9]) rfl ?_
  refine wv (x := .bool true) rfl (zK rfl) ?_
  refine qQ (x := .int .i64 (-1)) rfl ⟨_, _, rfl, rfl, rfl⟩ (bk _) rfl rfl (zK rfl) ?_
  refine qQ (x := .bool false) rfl ⟨_, _, rfl, rfl, rfl⟩ (bk _) rfl rfl (kB rfl rfl (yC (decide_eq_false (by omega)))) ?_
  refine wv (x := .bool false) rfl (kF true rfl rfl) ?_
  refine wv (x := .bool false) rfl (zK rfl) ?_
  refine wo rfl ?_
  refine wo rfl ?_
  refine wo rfl ?_
  refine wo rfl ?_
  refine wv (x := .bool false) rfl (kF false rfl rfl) ?_
  refine jG ?_
  refine kK rfl ?_
  refine qC ?_
  refine zZ ?_
  refine zZ ?_
  refine zU (l := [0, 1]) rfl ?_
  refine wv (x := .int .i32 ((0 : Nat) : Int)) rfl (zK rfl) ?_
  refine wv (x := .bool false) rfl (kB rfl rfl (zBt (decide_eq_false (by omega)))) ?_
  refine jG ?_
  refine kK rfl ?_
  refine qC ?_
  refine zZ ?_
  refine zZ ?_
  refine zU (l := [0, 1, 2, 3, 4, 5, 6, 7, 8, 9, 10, 11]) rfl ?_
  refine wv (x := .int .u32 ((1 : Nat) : Int)) rfl (zK rfl) ?_
  refine wv (x := .bool true) rfl (kB rfl rfl (vC (decide_eq_true (by omega)))) ?_
  refine wv (x := .bool true) rfl (zK rfl) ?_
  refine qQ (x := .int .i64 (-1)) rfl ⟨_, _, rfl, rfl, rfl⟩ (bk _) rfl rfl (zK rfl) ?_
  refine qQ (x := .bool false) rfl ⟨_, _, rfl, rfl, rfl⟩ (bk _) rfl rfl (kB rfl rfl (yC (decide_eq_false (by omega)))) ?_
  refine wv (x := .bool false) rfl (kF true rfl rfl) ?_
  refine wv (x := .bool false) rfl (zK rfl) ?_
  refine wo rfl ?_
  refine wo rfl ?_
  refine wo rfl ?_
  refine wo rfl ?_
  refine wv (x := .bool false) rfl (kF false rfl rfl) ?_
  refine jG ?_
  refine kK rfl ?_
  refine qC ?_
  refine zZ ?_
  refine zZ ?_
  refine zU (l := [0, 1, 2, 3, 4, 5]) rfl ?_
  refine wv (x := .int .i32 ((0 : Nat) : Int)) rfl (zK rfl) ?_
  refine wv (x := .bool false) rfl (kB rfl rfl (yC (decide_eq_false (by omega)))) ?_
  refine wv (x := .bool false) rfl (zK rfl) ?_
  refine qQ (x := .int .u32 ((1 : Nat) : Int)) rfl ⟨_, _, rfl, rfl, rfl⟩ (bk _) rfl rfl (zK rfl) ?_
  refine qQ (x := .bool false) rfl ⟨_, _, rfl, rfl, rfl⟩ (bk _) rfl rfl (kB rfl rfl (zBw (decide_eq_false (by omega)))) ?_
  refine wv (x := .bool false) rfl (kF false rfl rfl) ?_
  refine jG ?_
  refine kK rfl ?_
  refine qC ?_
  refine zZ ?_
  refine zZ ?_
  refine zU (l := [0, 1, 2, 3, 4, 5]) rfl ?_
  refine wv (x := pt W0) rfl (zK rfl) ?_
  refine wv (x := pt W0) rfl (kW rfl) ?_
  refine wv (x := pt W0) rfl (qS rfl F.fi131_1 F.ti128) ?_
  refine zAq (vs := [pt W0]) rfl rfl (bk _) rfl Try.func97 (by kernel_rfl) rfl rfl rfl rfl (fun a3 h3 => ?_)
  refine zZ ?_
  refine zU (l := [0]) rfl ?_
  refine wv (x := .int .u64 0) rfl (jL rfl) ?_
  refine jG ?_
  refine zZ ?_
  refine zU (l := [0, 1, 2, 3, 4]) rfl ?_
  refine wv (x := pt W0) rfl (zK rfl) ?_
  refine wv (x := pt W0) rfl (kW rfl) ?_
  refine wv (x := pt W0) rfl (qS rfl F.fi128_2 F.ti70) ?_
  refine zYe rfl rfl (bk _) rfl rfl rfl rfl E.load ?_
  refine wv (x := .int .u64 (stt 0 1)) rfl (jL rfl) ?_
  refine jG ?_
  refine vQ ?_
  refine qP rfl Try.func97 (.inr ⟨2, rfl, rfl⟩) rfl rfl rfl h3 ?_
  refine wv (x := .int .u64 (stt 0 1)) rfl (zK rfl) ?_
  refine wv (x := .bool false) rfl (kB rfl rfl (vC (by decide))) ?_
  refine jG ?_
  refine kK rfl ?_
  refine qC ?_
  refine zZ ?_
  refine zU (l := [0, 1, 2, 3]) rfl ?_
  refine wv (x := pt W0) rfl (zK rfl) ?_
  refine wv (x := pt W0) rfl (kW rfl) ?_
  refine wv (x := pt W0) rfl (qS rfl F.fi131_1 F.ti128) ?_
  refine zAq (vs := [pt W0, .int .u64 0]) rfl rfl (bk _) rfl Try.func98 (by kernel_rfl) rfl rfl rfl rfl (fun a4 h4 => ?_)
  refine zU (l := [0, 1, 2, 3, 4]) rfl ?_
  refine wv (x := pt W0) rfl (zK rfl) ?_
  refine wv (x := pt W0) rfl (kW rfl) ?_
  refine wv (x := pt W0) rfl (qS rfl F.fi128_2 F.ti70) ?_
  refine wv (x := .int .u64 0) rfl (zK rfl) ?_
  refine zWb rfl rfl (bk _) rfl rfl rfl rfl rfl E.store ?_
  refine jG ?_
  refine zC5 ?_
  refine qP rfl Try.func98 (.inl ⟨rfl, rfl⟩) rfl rfl rfl h4 ?_
  refine jG ?_
  refine zZ ?_
  refine zZ ?_
  refine zU (l := [0]) rfl ?_
  refine wv (x := .bool false) rfl (zK rfl) ?_
  refine jG ?_
  refine kK rfl ?_
  refine qC ?_
  refine zGm ?_
  refine zQ5 ?_
  refine zZ ?_
  refine zZ ?_
  refine zU (l := [0, 1]) rfl ?_
  refine wv (x := .int .u32 ((1 : Nat) : Int)) rfl (zK rfl) ?_
  refine wv (x := .bool true) rfl (kB rfl rfl (vC (decide_eq_true (by omega)))) ?_
  refine jG ?_
  refine xJ rfl ?_
  refine qC ?_
  refine zZ ?_
  refine zGm ?_
  refine zU (l := [0, 1, 2, 3]) rfl ?_
  refine wv (x := pt W0) rfl (zK rfl) ?_
  refine wv (x := pt W0) rfl (kW rfl) ?_
  refine wv (x := .pointer (some ⟨W0, 1, none⟩)) rfl (qS rfl F.fi131_2 F.ti129) ?_
  refine zZ7 (xs := [_, _]) rfl rfl (bk _) rfl rfl rfl rfl E.semrel ?_
  refine jG ?_
  refine zKq ?_
  refine zU (l := [0, 1, 2]) rfl ?_
  refine wv (x := .int .u32 ((1 : Nat) : Int)) rfl (zK rfl) ?_
  refine wv (x := .int .u32 0) rfl (kB rfl rfl (zX3 (by decide))) ?_
  refine wv (x := .int .u32 0) rfl (jL rfl) ?_
  refine jG ?_
  refine zLu ?_
  refine zZ ?_
  refine zZ ?_
  refine zU (l := [0, 1]) rfl ?_
  refine wv (x := .int .u32 0) rfl (zK rfl) ?_
  refine wv (x := .bool false) rfl (kB rfl rfl (vC (decide_eq_false (by omega)))) ?_
  refine jG ?_
  refine kK rfl ?_
  refine zYz rfl ?_
  refine zC5 ?_
  refine zLr (fn := default) E.enable ?_
  refine qP rfl Try.func75 (.inl ⟨rfl, rfl⟩) rfl rfl rfl h1 ?_
  refine jG ?_
  refine zC5 ?_
  exact zDh rfl Try.func77 rfl rfl (zCl Try.func76 rfl (fr := []) _ _ hs)
theorem zXt {ow : List Nat} {m : Nat} {cs : List Frame} (hm : m + 1 < 1000000) (hend : ∀ fr : Frame, (fr.mode = .returning ∧ fr.defers = [] ∧ fr.kind = .normal ∧ fr.fn = 75) -> ΦZ Try.prog (Cp low 131 msg) Stop v (Mn.enc W0 f0 d0 e0 ow (.hire 4 m)) (G fr cs)) :
  ΦZ Try.prog (Cp low 131 msg) Stop v (Mn.enc W0 f0 d0 e0 ow (.hire 0 m)) (G (Frame.enter Try.prog 75 [pt W0, .int .i64 1].toArray .normal) cs) := by
 letI : Sys := zSys Try.prog (Cp low 131 msg)
 refine zVl Try.func75 rfl rfl rfl ?_
 refine zZ ?_
 refine xJ rfl ?_
 refine zZ ?_
 refine zZ ?_
 refine zU (l := [0, 1]) rfl ?_
 refine wv (x := .int .i64 1) rfl (zK rfl) ?_
 refine wv (x := .bool false) rfl (kB rfl rfl (zBt (decide_eq_false (by omega)))) ?_
 refine jG ?_
 refine kK rfl ?_
 refine qC ?_
 refine zZ ?_
 refine zU (l := [0]) rfl ?_
 refine zZp rfl rfl (bk _) rfl rfl rfl E.disable ?_
 refine jG ?_
 refine zU (l := [0]) rfl ?_
 refine zOv rfl rfl (bk _) rfl rfl ?_
 refine jG ?_
 refine zZ ?_
 refine zU (l := [0]) rfl ?_
 refine wv (x := .bool false) rfl (jL rfl) ?_
 refine jG ?_
 refine zZ ?_
 refine zZ ?_
 refine zU (l := [0]) rfl ?_
 refine zRi (.bool false) rfl rfl (bk _) rfl rfl rfl Try.func91 (by kernel_rfl) rfl (by kernel_rfl) (by kernel_rfl) ?_
 refine jG ?_
 refine kK rfl ?_
 refine qC ?_
 refine zZ ?_
 refine zU (l := [0, 1, 2, 3, 4, 5, 6, 7]) rfl ?_
 refine wv (x := pt W0) rfl (zK rfl) ?_
 refine wv (x := pt W0) rfl (kW rfl) ?_
 refine wv (x := pt W0) rfl (qS rfl F.fi131_1 F.ti128) ?_
 refine wv (x := .int .i64 1) rfl (zK rfl) ?_
 refine wv (x := .int .u64 1) rfl (kV rfl Try.underlying3 Try.underlying70 (by decide)) ?_
 refine wv (x := .int .u64 4294967296) rfl (zBj (.inl rfl) rfl rfl (zSd (by decide) (by decide))) ?_
 refine zAq (vs := [pt W0, .int .u64 4294967296]) rfl rfl (bk _) rfl Try.func95 (by kernel_rfl) rfl rfl rfl rfl (fun a1 h1 => ?_)
 refine zZ ?_
 refine zU (l := [0]) rfl ?_
 refine wv (x := .int .u64 0) rfl (jL rfl) ?_
 refine jG ?_
 refine zZ ?_
 refine zU (l := [0, 1, 2, 3, 4, 5]) rfl ?_
 refine wv (x := pt W0) rfl (zK rfl) ?_
 refine wv (x := pt W0) rfl (kW rfl) ?_
 refine wv (x := pt W0) rfl (qS rfl F.fi128_2 F.ti70) ?_
 refine wv (x := .int .u64 4294967296) rfl (zK rfl) ?_
 refine zZ6 hm rfl rfl (bk _) rfl rfl rfl rfl rfl E.add ?_ (fun c hc0 hc1 => ?_)
 ·
  refine wv (x := .int .u64 (stt 1 0)) rfl (jL rfl) ?_
  refine jG ?_
  refine vQ ?_
  refine qP rfl Try.func95 (.inr ⟨4, rfl, rfl⟩) rfl rfl rfl h1 ?_
  refine wv (x := .int .u64 (stt 1 0)) rfl (jL rfl) ?_
  refine jG ?_
  refine zZ ?_
  refine zZ ?_
  refine zU (l := [0, 1, 2, 3, 4, 5, 6]) rfl ?_
  refine wv (x := .int .u64 (stt 1 0)) rfl (zK rfl) ?_
  refine wv (x := .int .u64 0) rfl (kB rfl rfl (zAm (by omega) (by decide))) ?_
  refine wv (x := .bool false) rfl (kB rfl rfl (vC (decide_eq_false (by omega)))) ?_
  refine wv (x := .bool false) rfl (zK rfl) ?_
  refine wo rfl ?_
  refine wo rfl ?_
  refine wv (x := .bool false) rfl (kF false rfl rfl) ?_
  refine jG ?_
  refine kK rfl ?_
  refine qC ?_
  refine zZ ?_
  refine zU (l := [0, 1, 2, 3]) rfl ?_
  refine wv (x := .int .u64 (stt 1 0)) rfl (zK rfl) ?_
  refine wv (x := .int .u64 ((1 : Nat) : Int)) rfl (zBj (.inr rfl) rfl rfl (zAf (by decide))) ?_
  refine wv (x := .int .i32 ((1 : Nat) : Int)) rfl (kV rfl Try.underlying70 Try.underlying21 (yR (by omega))) ?_
  refine wv (x := .int .i32 ((1 : Nat) : Int)) rfl (jL rfl) ?_
  refine jG ?_
  refine zZ ?_
  refine zU (l := [0, 1, 2, 3]) rfl ?_
  refine wv (x := .int .u64 (stt 1 0)) rfl (zK rfl) ?_
  refine wv (x := .int .u64 ((0 : Nat) : Int)) rfl (kB rfl rfl (zAj (by omega) (by decide))) ?_
  refine wv (x := .int .u32 ((0 : Nat) : Int)) rfl (kV rfl Try.underlying70 Try.underlying129 (yQ (by omega))) ?_
  refine wv (x := .int .u32 ((0 : Nat) : Int)) rfl (jL rfl) ?_
  refine jG ?_
  refine zZ ?_
  refine zZ ?_
  refine zU (l := [0, 1, 2, 3, 4, 5, 6, 7, 8, 9]) rfl ?_
  refine wv (x := .bool true) rfl (zK rfl) ?_
  refine qQ (x := .int .i64 1) rfl ⟨_, _, rfl, rfl, rfl⟩ (bk _) rfl rfl (zK rfl) ?_
  refine qQ (x := .bool true) rfl ⟨_, _, rfl, rfl, rfl⟩ (bk _) rfl rfl (kB rfl rfl (yC (decide_eq_true (by omega)))) ?_
  refine wv (x := .bool true) rfl (kF true rfl rfl) ?_
  refine wv (x := .bool true) rfl (zK rfl) ?_
  refine qQ (x := .int .i32 ((1 : Nat) : Int)) rfl ⟨_, _, rfl, rfl, rfl⟩ (bk _) rfl rfl (zK rfl) ?_
  refine qQ (x := .int .i64 1) rfl ⟨_, _, rfl, rfl, rfl⟩ (bk _) rfl rfl (zK rfl) ?_
  refine qQ (x := .int .i32 1) rfl ⟨_, _, rfl, rfl, rfl⟩ (bk _) rfl rfl (kV rfl Try.underlying3 Try.underlying21 (by decide)) ?_
  refine qQ (x := .bool true) rfl ⟨_, _, rfl, rfl, rfl⟩ (bk _) rfl rfl (kB rfl rfl (zBw (decide_eq_true (by omega)))) ?_
  refine wv (x := .bool true) rfl (kF true rfl rfl) ?_
  refine jG ?_
  refine xJ rfl ?_
  refine zU (l := [0, 1, 2, 3, 4]) rfl ?_
  refine wv (x := pt W0) rfl (zK rfl) ?_
  refine wv (x := pt W0) rfl (kW rfl) ?_
  refine wv (x := .pointer (some ⟨W0, 1, none⟩)) rfl (qS rfl F.fi131_2 F.ti129) ?_
  refine zY5 rfl rfl (bk _) rfl rfl Try.underlying151 Try.underlying146 (by kernel_rfl) (.inr rfl) ?_
  refine zYk rfl rfl (bk _) rfl rfl rfl rfl E.read ?_
  refine jG ?_
  refine zZ ?_
  refine zZ ?_
  refine zU (l := [0, 1]) rfl ?_
  refine wv (x := .int .i32 ((1 : Nat) : Int)) rfl (zK rfl) ?_
  refine wv (x := .bool false) rfl (kB rfl rfl (zBt (decide_eq_false (by omega)))) ?_
  refine jG ?_
  refine kK rfl ?_
  refine qC ?_
  refine zZ ?_
  refine zZ ?_
  refine zU (l := [0, 1, 2, 3, 4, 5, 6, 7, 8, 9, 10, 11]) rfl ?_
  refine wv (x := .int .u32 ((0 : Nat) : Int)) rfl (zK rfl) ?_
  refine wv (x := .bool false) rfl (kB rfl rfl (vC (decide_eq_false (by omega)))) ?_
  refine wv (x := .bool false) rfl (zK rfl) ?_
  refine wo rfl ?_
  refine wo rfl ?_
  refine wv (x := .bool false) rfl (kF false rfl rfl) ?_
  refine wv (x := .bool false) rfl (zK rfl) ?_
  refine wo rfl ?_
  refine wo rfl ?_
  refine wo rfl ?_
  refine wo rfl ?_
  refine wv (x := .bool false) rfl (kF false rfl rfl) ?_
  refine jG ?_
  refine kK rfl ?_
  refine qC ?_
  refine zZ ?_
  refine zZ ?_
  refine zU (l := [0, 1, 2, 3, 4, 5]) rfl ?_
  refine wv (x := .int .i32 ((1 : Nat) : Int)) rfl (zK rfl) ?_
  refine wv (x := .bool true) rfl (kB rfl rfl (yC (decide_eq_true (by omega)))) ?_
  refine wv (x := .bool true) rfl (zK rfl) ?_
  refine wo rfl ?_
  refine wo rfl ?_
  refine wv (x := .bool true) rfl (kF true rfl rfl) ?_
  refine jG ?_
  refine xJ rfl ?_
  refine vQ ?_
  refine z_on E.enable ?_
  exact fun a todo ha => hend _ ⟨rfl, ha.defs, rfl, rfl⟩
 ·
  refine wv (x := .int .u64 (stt c 0)) rfl (jL rfl) ?_
  refine jG ?_
  refine vQ ?_
  refine qP rfl Try.func95 (.inr ⟨4, rfl, rfl⟩) rfl rfl rfl h1 ?_
  refine wv (x := .int .u64 (stt c 0)) rfl (jL rfl) ?_
  refine jG ?_
  refine zZ ?_
  refine zZ ?_
  refine zU (l := [0, 1, 2, 3, 4, 5, 6]) rfl ?_
  refine wv (x := .int .u64 (stt c 0)) rfl (zK rfl) ?_
  refine wv (x := .int .u64 0) rfl (kB rfl rfl (zAm (by omega) (by decide))) ?_
  refine wv (x := .bool false) rfl (kB rfl rfl (vC (decide_eq_false (by omega)))) ?_
  refine wv (x := .bool false) rfl (zK rfl) ?_
  refine wo rfl ?_
  refine wo rfl ?_
  refine wv (x := .bool false) rfl (kF false rfl rfl) ?_
  refine jG ?_
  refine kK rfl ?_
  refine qC ?_
  refine zZ ?_
  refine zU (l := [0, 1, 2, 3]) rfl ?_
  refine wv (x := .int .u64 (stt c 0)) rfl (zK rfl) ?_
  refine wv (x := .int .u64 ((c : Nat) : Int)) rfl (zBj (.inr rfl) rfl rfl (zAf (by decide))) ?_
  refine wv (x := .int .i32 ((c : Nat) : Int)) rfl (kV rfl Try.underlying70 Try.underlying21 (yR (by omega))) ?_
  refine wv (x := .int .i32 ((c : Nat) : Int)) rfl (jL rfl) ?_
  refine jG ?_
  refine zZ ?_
  refine zU (l := [0, 1, 2, 3]) rfl ?_
  refine wv (x := .int .u64 (stt c 0)) rfl (zK rfl) ?_
  refine wv (x := .int .u64 ((0 : Nat) : Int)) rfl (kB rfl rfl (zAj (by omega) (by decide))) ?_
  refine wv (x := .int .u32 ((0 : Nat) : Int)) rfl (kV rfl Try.underlying70 Try.underlying129 (yQ (by omega))) ?_
  refine wv (x := .int .u32 ((0 : Nat) : Int)) rfl (jL rfl) ?_
  refine jG ?_
  refine zZ ?_
  refine zZ ?_
  refine zU (l := [0, 1, 2, 3, 4, 5, 6, 7, 8, 9]) rfl ?_
  refine wv (x := .bool true) rfl (zK rfl) ?_
  refine qQ (x := .int .i64 1) rfl ⟨_, _, rfl, rfl, rfl⟩ (bk _) rfl rfl (zK rfl) ?_
  refine qQ (x := .bool true) rfl ⟨_, _, rfl, rfl, rfl⟩ (bk _) rfl rfl (kB rfl rfl (yC (decide_eq_true (by omega)))) ?_
  refine wv (x := .bool true) rfl (kF true rfl rfl) ?_
  refine wv (x := .bool true) rfl (zK rfl) ?_
  refine qQ (x := .int .i32 ((c : Nat) : Int)) rfl ⟨_, _, rfl, rfl, rfl⟩ (bk _) rfl rfl (zK rfl) ?_
  refine qQ (x := .int .i64 1) rfl ⟨_, _, rfl, rfl, rfl⟩ (bk _) rfl rfl (zK rfl) ?_
  refine qQ (x := .int .i32 1) rfl ⟨_, _, rfl, rfl, rfl⟩ (bk _) rfl rfl (kV rfl Try.underlying3 Try.underlying21 (by decide)) ?_
  refine qQ (x := .bool false) rfl ⟨_, _, rfl, rfl, rfl⟩ (bk _) rfl rfl (kB rfl rfl (zBw (decide_eq_false (by omega)))) ?_
  refine wv (x := .bool false) rfl (kF true rfl rfl) ?_
  refine jG ?_
  refine kK rfl ?_
  refine qC ?_
  refine zZ ?_
  refine zZ ?_
  refine zU (l := [0, 1]) rfl ?_
  refine wv (x := .int .i32 ((c : Nat) : Int)) rfl (zK rfl) ?_
  refine wv (x := .bool false) rfl (kB rfl rfl (zBt (decide_eq_false (by omega)))) ?_
  refine jG ?_
  refine kK rfl ?_
  refine qC ?_
  refine zZ ?_
  refine zZ ?_
  refine zU (l := [0, 1, 2, 3, 4, 5, 6, 7, 8, 9, 10, 11]) rfl ?_
  refine wv (x := .int .u32 ((0 : Nat) : Int)) rfl (zK rfl) ?_
  refine wv (x := .bool false) rfl (kB rfl rfl (vC (decide_eq_false (by omega)))) ?_
  refine wv (x := .bool false) rfl (zK rfl) ?_
  refine wo rfl ?_
  refine wo rfl ?_
  refine wv (x := .bool false) rfl (kF false rfl rfl) ?_
  refine wv (x := .bool false) rfl (zK rfl) ?_
  refine wo rfl ?_
  refine wo rfl ?_
  refine wo rfl ?_
  refine wo rfl ?_
  refine wv (x := .bool false) rfl (kF false rfl rfl) ?_
  refine jG ?_
  refine kK rfl ?_
  refine qC ?_
  refine zZ ?_
  refine zZ ?_
  refine zU (l := [0, 1, 2, 3, 4, 5]) rfl ?_
  refine wv (x := .int .i32 ((c : Nat) : Int)) rfl (zK rfl) ?_
  refine wv (x := .bool true) rfl (kB rfl rfl (yC (decide_eq_true (by omega)))) ?_
  refine wv (x := .bool true) rfl (zK rfl) ?_
  refine wo rfl ?_
  refine wo rfl ?_
  refine wv (x := .bool true) rfl (kF true rfl rfl) ?_
  refine jG ?_
  refine xJ rfl ?_
  refine vQ ?_
  refine z_on E.enable ?_
  exact fun a todo ha => hend _ ⟨rfl, ha.defs, rfl, rfl⟩
theorem zVg (hi : i ≠ 0) {p : Addr} (hcell : v.cell? p = some (.chan (some d0))) (hlt : p.block < v.heap.size) : ΦN Try.prog (Cp low 131 msg) i Stop v (Wt.enc W0 d0 .new) (G (Frame.enter Try.prog 78 [pt W0, .pointer (some p)].toArray .deferred) [bornF Try.prog]) := by
 letI : Sys := nSys Try.prog (Cp low 131 msg) i
 refine zL4 Try.func78 rfl rfl rfl ?_
 refine zZ ?_
 refine zU (l := [0]) rfl ?_
 refine zAq (vs := [pt W0]) rfl rfl (bkD _) rfl Try.func79 (by kernel_rfl) rfl rfl rfl rfl (fun a1 h1 => ?_)
 refine zZ ?_
 refine xJ rfl ?_
 refine zU (l := [0]) rfl ?_
 refine zZo hi rfl rfl (bk _) rfl rfl rfl E.disable (fun n => ?_)
 refine jG ?_
 refine zGm ?_
 refine zVf (fr' := [(0, pt W0)]) (by repeat (first | exact Sub.nil _ | refine Sub.cons rfl ?_)) ?_
 refine zY9 (fun n ih => ?_) n
 refine zGm ?_
 refine zZ ?_
 refine zU (l := [0, 1, 2, 3, 4]) rfl ?_
 refine wv (x := pt W0) rfl (zK rfl) ?_
 refine wv (x := pt W0) rfl (kW rfl) ?_
 refine wv (x := pt W0) rfl (qS rfl F.fi131_1 F.ti128) ?_
 refine zAq (vs := [pt W0]) rfl rfl (bk _) rfl Try.func97 (by kernel_rfl) rfl rfl rfl rfl (fun a2 h2 => ?_)
 refine zZ ?_
 refine zU (l := [0]) rfl ?_
 refine wv (x := .int .u64 0) rfl (jL rfl) ?_
 refine jG ?_
 refine zZ ?_
 refine zU (l := [0, 1, 2, 3, 4]) rfl ?_
 refine wv (x := pt W0) rfl (zK rfl) ?_
 refine wv (x := pt W0) rfl (kW rfl) ?_
 refine wv (x := pt W0) rfl (qS rfl F.fi128_2 F.ti70) ?_
 refine zYy hi rfl rfl (bk _) rfl rfl rfl rfl E.load ?_ (fun c hc0 hc1 hcn => ?_)
 ·
  refine wv (x := .int .u64 (stt 0 0)) rfl (jL rfl) ?_
  refine jG ?_
  refine vQ ?_
  refine qP rfl Try.func97 (.inr ⟨2, rfl, rfl⟩) rfl rfl rfl h2 ?_
  refine wv (x := .int .u64 (stt 0 0)) rfl (jL rfl) ?_
  refine jG ?_
  refine zZ ?_
  refine zU (l := [0, 1, 2, 3]) rfl ?_
  refine wv (x := .int .u64 (stt 0 0)) rfl (zK rfl) ?_
  refine wv (x := .int .u64 ((0 : Nat) : Int)) rfl (zBj (.inr rfl) rfl rfl (zAf (by decide))) ?_
  refine wv (x := .int .i32 ((0 : Nat) : Int)) rfl (kV rfl Try.underlying70 Try.underlying21 (yR (by omega))) ?_
  refine wv (x := .int .i32 ((0 : Nat) : Int)) rfl (jL rfl) ?_
  refine jG ?_
  refine zZ ?_
  refine zU (l := [0, 1, 2, 3]) rfl ?_
  refine wv (x := .int .u64 (stt 0 0)) rfl (zK rfl) ?_
  refine wv (x := .int .u64 ((0 : Nat) : Int)) rfl (kB rfl rfl (zAj (by omega) (by decide))) ?_
  refine wv (x := .int .u32 ((0 : Nat) : Int)) rfl (kV rfl Try.underlying70 Try.underlying129 (yQ (by omega))) ?_
  refine wv (x := .int .u32 ((0 : Nat) : Int)) rfl (jL rfl) ?_
  refine jG ?_
  refine zZ ?_
  refine zZ ?_
  refine zU (l := [0, 1]) rfl ?_
  refine wv (x := .int .i32 ((0 : Nat) : Int)) rfl (zK rfl) ?_
  refine wv (x := .bool true) rfl (kB rfl rfl (zBw (decide_eq_true (by omega)))) ?_
  refine jG ?_
  refine xJ rfl ?_
  refine zZ ?_
  refine xJ rfl ?_
  refine zZ ?_
  refine zU (l := [0]) rfl ?_
  refine zQ6 (q := .on) (q' := .acq) .enable (by simp) (fun σ ok h => ⟨_, zRl ok h⟩) hi rfl rfl (bk _) rfl rfl rfl E.enable ?_
  refine jG ?_
  refine zU (l := [0, 1, 2]) rfl ?_
  refine wv (x := pt W0) rfl (zK rfl) ?_
  refine zM1 (q := .acq) rfl rfl (bk _) rfl rfl Try.underlying144 Try.underlying146 (by kernel_rfl) (.inl rfl) ?_
  refine zHz (q := .acq) (q' := .cls) .acquire (by simp) 0 (fun σ ok h => ⟨_, zPb ok h⟩) hi rfl rfl (bk _) rfl rfl rfl rfl E.acquire ?_
  refine jG ?_
  refine zZ ?_
  refine zZ ?_
  refine zU (l := [0, 1, 2, 3, 4, 5, 6, 7, 8, 9, 10]) rfl ?_
  refine wv (x := .int .u32 ((0 : Nat) : Int)) rfl (zK rfl) ?_
  refine wv (x := .bool true) rfl (kB rfl rfl (zBw (decide_eq_true (by omega)))) ?_
  refine wv (x := .bool true) rfl (zK rfl) ?_
  refine qQ (x := .int .u64 (stt 0 0)) rfl ⟨_, _, rfl, rfl, rfl⟩ (bk _) rfl rfl (zK rfl) ?_
  refine qQ (x := .int .u64 0) rfl ⟨_, _, rfl, rfl, rfl⟩ (bk _) rfl rfl (kB rfl rfl (zAm (by omega) (by decide))) ?_
  refine qQ (x := .bool false) rfl ⟨_, _, rfl, rfl, rfl⟩ (bk _) rfl rfl (kB rfl rfl (vC (decide_eq_false (by omega)))) ?_
  refine wv (x := .bool false) rfl (kF true rfl rfl) ?_
  refine wv (x := .bool false) rfl (zK rfl) ?_
  refine wo rfl ?_
  refine wo rfl ?_
  refine wv (x := .bool false) rfl (kF false rfl rfl) ?_
  refine jG ?_
  refine kK rfl ?_
  refine qC ?_
  refine vQ ?_
  refine qP rfl Try.func79 (.inl ⟨rfl, rfl⟩) rfl rfl rfl h1 ?_
  refine jG ?_
  refine zU (l := [0, 1]) rfl ?_
  refine zRr rfl (bkD _) rfl rfl rfl F.one122 hcell hlt ?_
  refine zOt hi rfl rfl (bkD _) rfl rfl rfl ?_
  refine jG ?_
  refine zC5 ?_
  exact zCl Try.func78 rfl
 ·
  refine wv (x := .int .u64 (stt c 0)) rfl (jL rfl) ?_
  refine jG ?_
  refine vQ ?_
  refine qP rfl Try.func97 (.inr ⟨2, rfl, rfl⟩) rfl rfl rfl h2 ?_
  refine wv (x := .int .u64 (stt c 0)) rfl (jL rfl) ?_
  refine jG ?_
  refine zZ ?_
  refine zU (l := [0, 1, 2, 3]) rfl ?_
  refine wv (x := .int .u64 (stt c 0)) rfl (zK rfl) ?_
  refine wv (x := .int .u64 ((c : Nat) : Int)) rfl (zBj (.inr rfl) rfl rfl (zAf (by decide))) ?_
  refine wv (x := .int .i32 ((c : Nat) : Int)) rfl (kV rfl Try.underlying70 Try.underlying21 (yR (by omega))) ?_
  refine wv (x := .int .i32 ((c : Nat) : Int)) rfl (jL rfl) ?_
  refine jG ?_
  refine zZ ?_
  refine zU (l := [0, 1, 2, 3]) rfl ?_
  refine wv (x := .int .u64 (stt c 0)) rfl (zK rfl) ?_
  refine wv (x := .int .u64 ((0 : Nat) : Int)) rfl (kB rfl rfl (zAj (by omega) (by decide))) ?_
  refine wv (x := .int .u32 ((0 : Nat) : Int)) rfl (kV rfl Try.underlying70 Try.underlying129 (yQ (by omega))) ?_
  refine wv (x := .int .u32 ((0 : Nat) : Int)) rfl (jL rfl) ?_
  refine jG ?_
  refine zZ ?_
  refine zZ ?_
  refine zU (l := [0, 1]) rfl ?_
  refine wv (x := .int .i32 ((c : Nat) : Int)) rfl (zK rfl) ?_
  refine wv (x := .bool false) rfl (kB rfl rfl (zBw (decide_eq_false (by omega)))) ?_
  refine jG ?_
  refine kK rfl ?_
  refine qC ?_
  refine zZ ?_
  refine zU (l := [0, 1, 2, 3, 4, 5, 6]) rfl ?_
  refine wv (x := pt W0) rfl (zK rfl) ?_
  refine wv (x := pt W0) rfl (kW rfl) ?_
  refine wv (x := pt W0) rfl (qS rfl F.fi131_1 F.ti128) ?_
  refine wv (x := .int .u64 (stt c 0)) rfl (zK rfl) ?_
  refine wv (x := .int .u64 (stt c 0)) rfl (zK rfl) ?_
  refine wv (x := .int .u64 (stt c 1)) rfl (kB rfl rfl (zX2 (by omega))) ?_
  refine zAq (vs := [pt W0, .int .u64 (stt c 0), .int .u64 (stt c 1)]) rfl rfl (bk _) rfl Try.func103 (by kernel_rfl) rfl rfl rfl rfl (fun a3 h3 => ?_)
  refine zZ ?_
  refine zU (l := [0]) rfl ?_
  refine wv (x := .bool false) rfl (jL rfl) ?_
  refine jG ?_
  refine zZ ?_
  refine zU (l := [0, 1, 2, 3, 4, 5, 6]) rfl ?_
  refine wv (x := pt W0) rfl (zK rfl) ?_
  refine wv (x := pt W0) rfl (kW rfl) ?_
  refine wv (x := pt W0) rfl (qS rfl F.fi128_2 F.ti70) ?_
  refine wv (x := .int .u64 (stt c 0)) rfl (zK rfl) ?_
  refine wv (x := .int .u64 (stt c 1)) rfl (zK rfl) ?_
  refine zZh hi rfl rfl (bk _) rfl rfl rfl rfl rfl rfl E.cas ?_ ?_
  ·
   refine wv (x := .bool true) rfl (jL rfl) ?_
   refine jG ?_
   refine vQ ?_
   refine qP rfl Try.func103 (.inr ⟨6, rfl, rfl⟩) rfl rfl rfl h3 ?_
   refine jG ?_
   refine xJ rfl ?_
   refine zZ ?_
   refine zZ ?_
   refine zU (l := [0, 1, 2, 3]) rfl ?_
   refine wv (x := .bool true) rfl (zK rfl) ?_
   refine qQ (x := .int .u32 ((0 : Nat) : Int)) rfl ⟨_, _, rfl, rfl, rfl⟩ (bk _) rfl rfl (zK rfl) ?_
   refine qQ (x := .bool true) rfl ⟨_, _, rfl, rfl, rfl⟩ (bk _) rfl rfl (kB rfl rfl (zBw (decide_eq_true (by omega)))) ?_
   refine wv (x := .bool true) rfl (kF true rfl rfl) ?_
   refine jG ?_
   refine xJ rfl ?_
   refine zU (l := [0, 1, 2, 3, 4]) rfl ?_
   refine wv (x := pt W0) rfl (zK rfl) ?_
   refine wv (x := pt W0) rfl (kW rfl) ?_
   refine wv (x := .pointer (some ⟨W0, 1, none⟩)) rfl (qS rfl F.fi131_2 F.ti129) ?_
   refine zM1 (q := .writ) rfl rfl (bk _) rfl rfl Try.underlying151 Try.underlying146 (by kernel_rfl) (.inr rfl) ?_
   refine zHz (q := .writ) (q' := .sleep) .write (by simp) 1 (fun σ ok h => ⟨_, zTg ok h⟩) hi rfl rfl (bk _) rfl rfl rfl rfl E.write ?_
   refine jG ?_
   refine zZ ?_
   refine zU (l := [0]) rfl ?_
   refine wv (x := .bool false) rfl (jL rfl) ?_
   refine jG ?_
   refine zZ ?_
   refine zZ ?_
   refine zU (l := [0, 1, 2, 3, 4, 5]) rfl ?_
   refine wv (x := .int .u64 (stt c 0)) rfl (zK rfl) ?_
   refine wv (x := .int .u64 0) rfl (kB rfl rfl (zAm (by omega) (by decide))) ?_
   refine wv (x := .bool false) rfl (kB rfl rfl (vC (decide_eq_false (by omega)))) ?_
   refine wv (x := .bool false) rfl (zK rfl) ?_
   refine wo rfl ?_
   refine wv (x := .bool false) rfl (kF false rfl rfl) ?_
   refine jG ?_
   refine kK rfl ?_
   refine qC ?_
   refine zZ ?_
   refine zU (l := [0, 1, 2, 3, 4]) rfl ?_
   refine wv (x := pt W0) rfl (zK rfl) ?_
   refine wv (x := pt W0) rfl (kW rfl) ?_
   refine wv (x := .pointer (some ⟨W0, 1, none⟩)) rfl (qS rfl F.fi131_2 F.ti129) ?_
   refine wv (x := .bool false) rfl (zK rfl) ?_
   refine zZ4 (xs := [_]) hi rfl rfl (bk _) rfl rfl rfl rfl E.semacq ?_
   refine jG ?_
   refine zZ ?_
   refine zU (l := [0, 1, 2, 3, 4, 5]) rfl ?_
   refine wv (x := pt W0) rfl (zK rfl) ?_
   refine wv (x := pt W0) rfl (kW rfl) ?_
   refine wv (x := pt W0) rfl (qS rfl F.fi131_1 F.ti128) ?_
   refine zAq (vs := [pt W0]) rfl rfl (bk _) rfl Try.func97 (by kernel_rfl) rfl rfl rfl rfl (fun a4 h4 => ?_)
   refine zZ ?_
   refine zU (l := [0]) rfl ?_
   refine wv (x := .int .u64 0) rfl (jL rfl) ?_
   refine jG ?_
   refine zZ ?_
   refine zU (l := [0, 1, 2, 3, 4]) rfl ?_
   refine wv (x := pt W0) rfl (zK rfl) ?_
   refine wv (x := pt W0) rfl (kW rfl) ?_
   refine wv (x := pt W0) rfl (qS rfl F.fi128_2 F.ti70) ?_
   refine zWd hi rfl rfl (bk _) rfl rfl rfl rfl E.load ?_
   refine wv (x := .int .u64 (stt 0 0)) rfl (jL rfl) ?_
   refine jG ?_
   refine vQ ?_
   refine qP rfl Try.func97 (.inr ⟨2, rfl, rfl⟩) rfl rfl rfl h4 ?_
   refine wv (x := .bool false) rfl (kB rfl rfl (vC (by decide))) ?_
   refine wv (x := .bool false) rfl (jL rfl) ?_
   refine jG ?_
   refine zZ ?_
   refine xJ rfl ?_
   refine zZ ?_
   refine zU (l := [0]) rfl ?_
   refine zQ6 (q := .on) (q' := .acq) .enable (by simp) (fun σ ok h => ⟨_, zRl ok h⟩) hi rfl rfl (bk _) rfl rfl rfl E.enable ?_
   refine jG ?_
   refine zU (l := [0, 1, 2]) rfl ?_
   refine wv (x := pt W0) rfl (zK rfl) ?_
   refine zM1 (q := .acq) rfl rfl (bk _) rfl rfl Try.underlying144 Try.underlying146 (by kernel_rfl) (.inl rfl) ?_
   refine zHz (q := .acq) (q' := .cls) .acquire (by simp) 0 (fun σ ok h => ⟨_, zPb ok h⟩) hi rfl rfl (bk _) rfl rfl rfl rfl E.acquire ?_
   refine jG ?_
   refine zZ ?_
   refine zZ ?_
   refine zU (l := [0]) rfl ?_
   refine wv (x := .bool false) rfl (zK rfl) ?_
   refine jG ?_
   refine kK rfl ?_
   refine qC ?_
   refine vQ ?_
   refine qP rfl Try.func79 (.inl ⟨rfl, rfl⟩) rfl rfl rfl h1 ?_
   refine jG ?_
   refine zU (l := [0, 1]) rfl ?_
   refine zRr rfl (bkD _) rfl rfl rfl F.one122 hcell hlt ?_
   refine zOt hi rfl rfl (bkD _) rfl rfl rfl ?_
   refine jG ?_
   refine zC5 ?_
   exact zCl Try.func78 rfl
  ·
   refine wv (x := .bool false) rfl (jL rfl) ?_
   refine jG ?_
   refine vQ ?_
   refine qP rfl Try.func103 (.inr ⟨6, rfl, rfl⟩) rfl rfl rfl h3 ?_
   refine jG ?_
   refine kK rfl ?_
   refine qC ?_
   refine zKq ?_
   exact zVf (fr' := [(0, pt W0)]) (by repeat (first | exact Sub.nil _ | refine Sub.cons rfl ?_)) (ih (c - 1) (by omega))
end
end Go.Proofs.Yteppiphdbondeaa.N
namespace Go.Proofs.Yteppiphdbondeaa.N
open Go Go.RowKit Go.Proofs Go.Conc
set_option linter.unusedSectionVars false
theorem zZn {low m W0 f0 d0 e0 : Nat} {msg : Nat -> Value} {ow : List Nat} {w : World} (hm : m + 1 < 1000000) (hout : w.output = gout (Mn.enc W0 f0 d0 e0 ow (.hire 0 m))) :
  @Calls Try.prog (zSys Try.prog (Cp low 131 msg)) 75 #[pt W0, .int .i64 1] w fun e w' => e = .returned (.tuple #[]) ∧ w' = saying w (gout (Mn.enc W0 f0 d0 e0 ow (.hire 4 m))) := by
 intro cs
 letI : Sys := zSys Try.prog (Cp low 131 msg)
 have h := zXt (low := low) (msg := msg) (W0 := W0) (f0 := f0) (d0 := d0) (e0 := e0) (ow := ow) (m := m) (v := w) (cs := cs)
  (Stop := fun g v' => ∃ e fr v₀, (e = .returned (.tuple #[]) ∧ v₀ = saying w (gout (Mn.enc W0 f0 d0 e0 ow (.hire 4 m)))) ∧ Rl v₀ v' ∧ g = G fr cs ∧ fr.fn = 75 ∧ Leaving Try.prog fr v' e) hm (fun fr h1 => by
   obtain ⟨h1, h2, h3, h4⟩ := h1
   refine Gs.stop fun v₁ hv => ⟨_, fr, _, ⟨rfl, rfl⟩, hv, rfl, h4, h1, h2, h3, _, by rw [h4]; exact Try.func75, ?_⟩
   have hr : Try.f75.results = #[] := rfl
   have h5 : results Try.f75 fr.tmps = pure (.tuple #[]) := by
    unfold results
    rw [hr]
    simp
   refine ⟨?_, fun v₂ _ => ?_⟩
   ·rw [h5]; exact xS _
   ·rw [h5]; rfl)
 unfold ΦZ at h
 have e : saying w (gout (Mn.enc W0 f0 d0 e0 ow (.hire 0 m))) = w := by rw [<- hout]; rfl
 rw [e] at h
 exact h
end Go.Proofs.Yteppiphdbondeaa.N
