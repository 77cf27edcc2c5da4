/- Parts of the walks of the laws on fining: Opt, TellsP, Opt2, Sx5, F20. -/
import Derived.Test.YtofkhehcnfiopaaDoorCMarket
import Derived.Test.YtofkhehcnfiopaaDoorCKit
import Derived.Test.YtofkhehcnfiopaaDoorCF1
import Derived.Test.YtofkhehcnfiopaaDoorProg
namespace Go.Proofs.YtofkhehcnfiopaaDoor.N
open Go Go.RowKit Go.Proofs
/-! The cheapest ways: prices that rounds come to are the least ones. -/
def lexle (c k c' k' : Nat) : Prop := c < c' ∨ (c = c' ∧ k ≤ k')
theorem lexle.trans {a b c d e f : Nat} (h : lexle a b c d) (h' : lexle c d e f) : lexle a b e f := by
  unfold lexle at *
  omega
theorem lexle.refl (a b : Nat) : lexle a b a b := Or.inr ⟨rfl, Nat.le_refl _⟩
theorem lexle.add {c k c' k' : Nat} (h : lexle c k c' k') (x : Nat) : lexle (c + x) (k + 1) (c' + x) (k' + 1) := by
  unfold lexle at *
  omega
theorem lexle.sub {c k c' k' x : Nat} (h : lexle (c + x) (k + 1) (c' + x) (k' + 1)) : lexle c k c' k' := by
  unfold lexle at *
  omega
theorem lexle.anti {c k c' k' : Nat} (h : lexle c k c' k') (h' : lexle c' k' c k) : c = c' ∧ k = k' := by
  unfold lexle at *
  omega
/-- What some way that clears a melt costs, and how many agents it has. -/
inductive Wy (ags : List Ag) (used p : Nat) : Nat → Nat → Nat → Prop
  | done {f : Nat} : nn f p = 0 → Wy ags used p f 0 0
  | step {f i c k : Nat} : i ∈ canTo ags used f ags.length → Wy ags used p (putN (ags.getD i default) f) c k → Wy ags used p f (c + (ags.getD i default).cost) (k + 1)
def Has (ps : List Pr) (f c k : Nat) : Prop := (ps.getD f default).known = true ∧ lexle (ps.getD f default).cost (ps.getD f default).puts c k
def Snd (ags : List Ag) (used p : Nat) (ps : List Pr) : Prop := ∀ f, f < 64 → (ps.getD f default).known = true → Wy ags used p f (ps.getD f default).cost (ps.getD f default).puts
def Min (ags : List Ag) (used p : Nat) (ps : List Pr) : Prop := ∀ f, f < 64 → ∀ c k, Wy ags used p f c k → Has ps f c k
def Le (ps qs : List Pr) : Prop := ∀ f, (ps.getD f default).known = true → Has qs f (ps.getD f default).cost (ps.getD f default).puts
theorem Le.refl (ps : List Pr) : Le ps ps := fun _ h => ⟨h, lexle.refl _ _⟩
theorem Has.le {ps qs : List Pr} {f c k : Nat} (h : Has ps f c k) (hl : Le ps qs) : Has qs f c k := by
  obtain ⟨h1, h2⟩ := h
  obtain ⟨h3, h4⟩ := hl f h1
  exact ⟨h3, h4.trans h2⟩
theorem Le.trans {ps qs rs : List Pr} (h : Le ps qs) (h' : Le qs rs) : Le ps rs := fun f hf => (h f hf).le h'
theorem lessP_true {a b : Pr} (h : lessP a b = true) : a.known = true ∧ (b.known = true → lexle a.cost a.puts b.cost b.puts ∧ ¬ lexle b.cost b.puts a.cost a.puts) := by
  unfold lessP at h
  simp at h
  refine ⟨h.1, fun hb => ?_⟩
  have h2 := h.2
  rw [hb] at h2
  simp at h2
  unfold lexle
  omega
theorem lessP_false {a b : Pr} (h : lessP a b = false) (ha : a.known = true) : b.known = true ∧ lexle b.cost b.puts a.cost a.puts := by
  unfold lessP at h
  rw [ha] at h
  cases hb : b.known with
  | false => rw [hb] at h; simp at h
  | true =>
    rw [hb] at h
    simp at h
    refine ⟨rfl, ?_⟩
    unfold lexle
    omega
theorem getP_set {ps : List Pr} {f g : Nat} {x : Pr} (hf : f < ps.length) : (ps.set f x).getD g default = if f = g then x else ps.getD g default := by
  rw [List.getD_eq_getElem?_getD, List.getElem?_set, List.getD_eq_getElem?_getD]
  by_cases e : f = g
  · subst e
    rw [if_pos rfl, if_pos rfl, if_pos hf]; rfl
  · rw [if_neg e, if_neg e]
variable {ags : List Ag} {used p : Nat}
theorem relax_len {f i : Nat} {s : List Pr × Bool} : (relax ags f s i).1.length = s.1.length := by
  unfold relax
  split
  · simp
  · rfl
theorem relaxF_len {f : Nat} : ∀ (l : List Nat) (s : List Pr × Bool), (relaxF ags f s l).1.length = s.1.length
  | [], _ => rfl
  | i :: l, s => by
    have := relaxF_len (f := f) l (relax ags f s i)
    unfold relaxF at this ⊢
    rw [List.foldl_cons, this, relax_len]
theorem roundP_len {ps : List Pr} : ∀ k, (roundP ags used ps k).1.length = ps.length
  | 0 => rfl
  | k + 1 => by
    unfold roundP
    rw [relaxF_len, roundP_len k]
theorem initP_len (p k : Nat) : (initP p k).length = 64 := by simp [initP]
theorem iterP_len : ∀ j, (iterP ags used p j).length = 64
  | 0 => initP_len p 64
  | j + 1 => by
    unfold iterP
    rw [roundP_len, iterP_len j]
/-! No price rises. -/
theorem relax_le {f i : Nat} {s : List Pr × Bool} (hf : f < s.1.length) : Le s.1 (relax ags f s i).1 := by
  unfold relax
  split
  · rename_i h
    intro g hg
    obtain ⟨h1, h2⟩ := lessP_true h
    unfold Has
    rw [getP_set hf]
    by_cases e : f = g
    · subst e
      rw [if_pos rfl]
      exact ⟨h1, (h2 hg).1⟩
    · rw [if_neg e]
      exact ⟨hg, lexle.refl _ _⟩
  · exact Le.refl _
theorem relaxF_le {f : Nat} : ∀ (l : List Nat) (s : List Pr × Bool), f < s.1.length → Le s.1 (relaxF ags f s l).1
  | [], s, _ => Le.refl _
  | i :: l, s, hf => by
    have h1 := relax_le (ags := ags) (i := i) hf
    have h2 := relaxF_le (f := f) l (relax ags f s i) (by rw [relax_len]; exact hf)
    unfold relaxF at h2 ⊢
    rw [List.foldl_cons]
    exact h1.trans h2
theorem roundP_le {ps : List Pr} (hl : ps.length = 64) : ∀ k, k ≤ 64 → Le ps (roundP ags used ps k).1
  | 0, _ => Le.refl _
  | k + 1, hk => by
    refine (roundP_le hl k (by omega)).trans ?_
    show Le (roundP ags used ps k).1 (relaxF ags k (roundP ags used ps k) (canTo ags used k ags.length)).1
    exact relaxF_le _ _ (by rw [roundP_len, hl]; omega)
theorem roundP_le_from {ps : List Pr} (hl : ps.length = 64) {k : Nat} : ∀ d, k + d ≤ 64 → Le (roundP ags used ps k).1 (roundP ags used ps (k + d)).1
  | 0, _ => Le.refl _
  | d + 1, hk => by
    refine (roundP_le_from hl d (by omega)).trans ?_
    show Le (roundP ags used ps (k + d)).1 (relaxF ags (k + d) (roundP ags used ps (k + d)) (canTo ags used (k + d) ags.length)).1
    exact relaxF_le _ _ (by rw [roundP_len, hl]; omega)
theorem iterP_le : ∀ j, Le (initP p 64) (iterP ags used p j)
  | 0 => Le.refl _
  | j + 1 => (iterP_le j).trans (show Le (iterP ags used p j) (roundP ags used (iterP ags used p j) 64).1 from roundP_le (iterP_len j) 64 (Nat.le_refl _))
/-! Each price is that of a way. -/
theorem Snd.relax {f i : Nat} {s : List Pr × Bool} (hok : Oks ags) (h : Snd ags used p s.1) (hl : s.1.length = 64) (hf : f < 64) (hi : i ∈ canTo ags used f ags.length) : Snd ags used p (relax ags f s i).1 := by
  unfold Go.Proofs.YtofkhehcnfiopaaDoor.N.relax
  split
  · rename_i hlt
    obtain ⟨h1, _⟩ := lessP_true hlt
    intro g hg hk
    rw [getP_set (by omega)] at hk ⊢
    by_cases e : f = g
    · subst e
      rw [if_pos rfl] at hk ⊢
      have ha : (ags.getD i default).ok := by
        have := (canTo_mem hi).1
        rw [List.getD_eq_getElem?_getD, List.getElem?_eq_getElem this]
        exact hok.2 _ (List.getElem_mem this)
      exact Wy.step hi (h _ (putN_lt ha hf) h1)
    · rw [if_neg e] at hk ⊢
      exact h g hg hk
  · exact h
theorem Snd.relaxF {f : Nat} (hok : Oks ags) (hf : f < 64) : ∀ (l : List Nat) (s : List Pr × Bool), (∀ i ∈ l, i ∈ canTo ags used f ags.length) → s.1.length = 64 → Snd ags used p s.1 → Snd ags used p (relaxF ags f s l).1
  | [], s, _, _, h => h
  | i :: l, s, hm, hl, h => by
    have h1 := Snd.relaxF hok hf l (Go.Proofs.YtofkhehcnfiopaaDoor.N.relax ags f s i) (fun j hj => hm j (List.mem_cons_of_mem _ hj)) (by rw [relax_len, hl]) (h.relax hok hl hf (hm i List.mem_cons_self))
    unfold Go.Proofs.YtofkhehcnfiopaaDoor.N.relaxF at h1 ⊢
    rw [List.foldl_cons]
    exact h1
theorem Snd.round {ps : List Pr} (hok : Oks ags) (hl : ps.length = 64) (h : Snd ags used p ps) : ∀ k, k ≤ 64 → Snd ags used p (roundP ags used ps k).1
  | 0, _ => h
  | k + 1, hk => by
    unfold roundP
    exact Snd.relaxF hok (by omega) _ _ (fun _ hi => hi) (by rw [roundP_len, hl]) (Snd.round hok hl h k (by omega))
theorem initP_getD {f : Nat} (hf : f < 64) : (initP p 64).getD f default = ⟨0, 0, decide (nn f p = 0)⟩ := by
  unfold initP
  simp [List.getD_eq_getElem?_getD, hf]
theorem Snd.iter (hok : Oks ags) : ∀ j, Snd ags used p (iterP ags used p j)
  | 0 => by
    intro f hf hk
    unfold iterP at hk ⊢
    rw [initP_getD hf] at hk ⊢
    exact Wy.done (by simpa using hk)
  | j + 1 => by
    unfold iterP
    exact (Snd.iter hok j).round hok (iterP_len j) 64 (Nat.le_refl _)
/-! What a round comes to. -/
theorem relax_has {f i : Nat} {s : List Pr × Bool} (hf : f < s.1.length) (hk : (s.1.getD (putN (ags.getD i default) f) default).known = true) :
    Has (relax ags f s i).1 f ((s.1.getD (putN (ags.getD i default) f) default).cost + (ags.getD i default).cost) ((s.1.getD (putN (ags.getD i default) f) default).puts + 1) := by
  unfold relax
  split
  · rename_i h
    unfold Has
    rw [getP_set hf, if_pos rfl]
    exact ⟨hk, lexle.refl _ _⟩
  · rename_i h
    have h' := lessP_false (by simpa using h) (show (afterP s.1 (ags.getD i default) f).known = true from hk)
    exact h'
theorem relaxF_has {f i : Nat} : ∀ (l : List Nat) (s : List Pr × Bool), f < s.1.length → i ∈ l → (s.1.getD (putN (ags.getD i default) f) default).known = true →
    Has (relaxF ags f s l).1 f ((s.1.getD (putN (ags.getD i default) f) default).cost + (ags.getD i default).cost) ((s.1.getD (putN (ags.getD i default) f) default).puts + 1)
  | [], s, _, hi, _ => by cases hi
  | x :: l, s, hf, hi, hk => by
    have hf' : f < (relax ags f s x).1.length := by rw [relax_len]; exact hf
    have hle := relax_le (ags := ags) (i := x) hf
    have h2 := relaxF_le (ags := ags) (f := f) l (relax ags f s x) hf'
    by_cases e : i = x
    · subst e
      have h1 := relax_has (ags := ags) (i := i) hf hk
      unfold relaxF at h2 ⊢
      rw [List.foldl_cons]
      exact h1.le h2
    · have hi' : i ∈ l := by
        rcases List.mem_cons.1 hi with h | h
        · exact absurd h e
        · exact h
      obtain ⟨k1, k2⟩ := hle _ hk
      have h3 := relaxF_has l (relax ags f s x) hf' hi' k1
      unfold relaxF at h3 ⊢
      rw [List.foldl_cons]
      exact ⟨h3.1, h3.2.trans (k2.add _)⟩
theorem roundP_has {ps : List Pr} (hl : ps.length = 64) {f i : Nat} (hf : f < 64) (hi : i ∈ canTo ags used f ags.length) (hk : (ps.getD (putN (ags.getD i default) f) default).known = true) :
    Has (roundP ags used ps 64).1 f ((ps.getD (putN (ags.getD i default) f) default).cost + (ags.getD i default).cost) ((ps.getD (putN (ags.getD i default) f) default).puts + 1) := by
  have h1 := roundP_le (ags := ags) (used := used) hl f (by omega)
  obtain ⟨k1, k2⟩ := h1 _ hk
  have h2 : Has (roundP ags used ps (f + 1)).1 f _ _ := relaxF_has (f := f) _ (roundP ags used ps f) (by rw [roundP_len, hl]; exact hf) hi k1
  have h3 : Has (roundP ags used ps (f + 1)).1 f ((ps.getD (putN (ags.getD i default) f) default).cost + (ags.getD i default).cost) ((ps.getD (putN (ags.getD i default) f) default).puts + 1) := ⟨h2.1, h2.2.trans (k2.add _)⟩
  have h4 := roundP_le_from (ags := ags) (used := used) hl (k := f + 1) (63 - f) (by omega)
  rw [show f + 1 + (63 - f) = 64 by omega] at h4
  exact h3.le h4
theorem iter_has (hok : Oks ags) : ∀ {f c k : Nat}, Wy ags used p f c k → f < 64 → ∀ j, k ≤ j → Has (iterP ags used p j) f c k := by
  intro f c k h
  induction h with
  | done h =>
    intro hf j _
    have h1 := iterP_le (ags := ags) (used := used) (p := p) j
    have h2 := h1 _ (by rw [initP_getD hf]; simpa using h)
    rw [initP_getD hf] at h2
    exact h2
  | @step f i c k hi _ ih =>
    intro hf j hj
    obtain ⟨j, rfl⟩ : ∃ j', j = j' + 1 := ⟨j - 1, by omega⟩
    have ha : (ags.getD i default).ok := by
      have := (canTo_mem hi).1
      rw [List.getD_eq_getElem?_getD, List.getElem?_eq_getElem this]
      exact hok.2 _ (List.getElem_mem this)
    obtain ⟨k1, k2⟩ := ih (putN_lt ha hf) j (by omega)
    have h1 := roundP_has (used := used) (iterP_len (ags := ags) (used := used) (p := p) j) hf hi k1
    unfold iterP
    exact ⟨h1.1, h1.2.trans (k2.add _)⟩
/-! The least price, and that its way is short. -/
theorem least {q : Nat → Prop} : ∀ n, q n → ∃ m, q m ∧ ∀ k, q k → m ≤ k := by
  intro n
  induction n using Nat.strongRecOn with
  | ind n ih =>
    intro hn
    by_cases h : ∃ m, m < n ∧ q m
    · obtain ⟨m, h1, h2⟩ := h
      exact ih m h1 h2
    · exact ⟨n, hn, fun k hk => Nat.le_of_not_lt fun hlt => h ⟨k, hlt, hk⟩⟩
def Opt (ags : List Ag) (used p f c k : Nat) : Prop := Wy ags used p f c k ∧ ∀ c' k', Wy ags used p f c' k' → lexle c k c' k'
theorem Opt.ex {f c k : Nat} (h : Wy ags used p f c k) : ∃ c' k', Opt ags used p f c' k' := by
  obtain ⟨c0, ⟨k0, h0⟩, h1⟩ := least (q := fun c => ∃ k, Wy ags used p f c k) c ⟨k, h⟩
  obtain ⟨k1, h2, h3⟩ := least (q := fun k => Wy ags used p f c0 k) k0 h0
  refine ⟨c0, k1, h2, fun c' k' h' => ?_⟩
  have := h1 c' ⟨k', h'⟩
  rcases Nat.lt_or_eq_of_le this with h4 | h4
  · exact Or.inl h4
  · subst h4
    exact Or.inr ⟨rfl, h3 k' h'⟩
theorem Opt.next (hok : Oks ags) {f c k : Nat} (hf : f < 64) (h : Opt ags used p f c (k + 1)) : ∃ i c', i ∈ canTo ags used f ags.length ∧ c = c' + (ags.getD i default).cost ∧ putN (ags.getD i default) f < 64 ∧ Opt ags used p (putN (ags.getD i default) f) c' k := by
  obtain ⟨h1, h2⟩ := h
  cases h1 with
  | @step _ i c' _ hi hw =>
    have ha : (ags.getD i default).ok := by
      have := (canTo_mem hi).1
      rw [List.getD_eq_getElem?_getD, List.getElem?_eq_getElem this]
      exact hok.2 _ (List.getElem_mem this)
    exact ⟨i, c', hi, rfl, putN_lt ha hf, hw, fun c'' k'' h'' => (h2 _ _ (Wy.step hi h'')).sub⟩
theorem Opt.uniq {f c k c' k' : Nat} (h : Opt ags used p f c k) (h' : Opt ags used p f c' k') : c = c' ∧ k = k' := lexle.anti (h.2 _ _ h'.1) (h'.2 _ _ h.1)
theorem countP_lt {α : Type} {a b : α → Bool} {l : List α} (hab : ∀ x, a x = true → b x = true) : (∃ x ∈ l, b x = true ∧ a x = false) → l.countP a < l.countP b := by
  induction l with
  | nil => rintro ⟨x, h, _⟩; cases h
  | cons y l ih =>
    rintro ⟨x, hx, h1, h2⟩
    have hle : l.countP a ≤ l.countP b := List.countP_mono_left (fun z _ => hab z)
    rw [List.countP_cons, List.countP_cons]
    rcases List.mem_cons.1 hx with e | e
    · subst e
      rw [h1, h2]
      simp
      omega
    · have := ih ⟨x, e, h1, h2⟩
      by_cases ha : a y = true
      · rw [ha, hab y ha]; simp; exact this
      · have : (if a y = true then 1 else 0) = 0 := if_neg ha
        rw [this]
        omega
open Classical in
theorem Opt.level (hok : Oks ags) : ∀ (k f c : Nat), f < 64 → Opt ags used p f c k → k + 1 ≤ (List.range 64).countP (fun g => decide (∃ c k', k' ≤ k ∧ Opt ags used p g c k'))
  | 0, f, c, hf, h => by
    have : 0 < (List.range 64).countP (fun g => decide (∃ c k', k' ≤ 0 ∧ Opt ags used p g c k')) :=
      List.countP_pos_iff.2 ⟨f, List.mem_range.2 hf, by simp only [decide_eq_true_eq]; exact ⟨c, 0, Nat.le_refl _, h⟩⟩
    omega
  | k + 1, f, c, hf, h => by
    obtain ⟨i, c', _, _, hg, ho⟩ := h.next hok hf
    have h1 := Opt.level hok k _ _ hg ho
    have h2 : (List.range 64).countP (fun g => decide (∃ c k', k' ≤ k ∧ Opt ags used p g c k')) < (List.range 64).countP (fun g => decide (∃ c k', k' ≤ k + 1 ∧ Opt ags used p g c k')) := by
      refine countP_lt (fun x hx => ?_) ⟨f, List.mem_range.2 hf, ?_, ?_⟩
      · simp only [decide_eq_true_eq] at hx ⊢
        obtain ⟨c, k', h1, h2⟩ := hx
        exact ⟨c, k', by omega, h2⟩
      · simp only [decide_eq_true_eq]
        exact ⟨c, k + 1, Nat.le_refl _, h⟩
      · simp only [decide_eq_false_iff_not]
        rintro ⟨c2, k2, h3, h4⟩
        have := (h4.uniq h).2
        omega
    omega
theorem Opt.short (hok : Oks ags) {k f c : Nat} (hf : f < 64) (h : Opt ags used p f c k) : k ≤ 63 := by
  have h1 := Opt.level hok k f c hf h
  have h2 := List.countP_le_length (l := List.range 64) (p := fun g => @decide (∃ c k', k' ≤ k ∧ Opt ags used p g c k') (Classical.propDecidable _))
  rw [List.length_range] at h2
  omega
theorem Min.at63 (hok : Oks ags) : Min ags used p (iterP ags used p 63) := by
  intro f hf c k h
  obtain ⟨c', k', ho⟩ := Opt.ex h
  have h1 := iter_has hok ho.1 hf 63 (ho.short hok hf)
  exact ⟨h1.1, h1.2.trans (ho.2 _ _ h)⟩
/-! A round without change. -/
theorem relax_same {f i : Nat} {s : List Pr × Bool} (h : lessP (afterP s.1 (ags.getD i default) f) (s.1.getD f default) = false) : relax ags f s i = s := by
  unfold relax
  rw [h]; simp
theorem not_less {ps : List Pr} {f i : Nat} (hok : Oks ags) (hs : Snd ags used p ps) (hm : Min ags used p ps) (hf : f < 64) (hi : i ∈ canTo ags used f ags.length) : lessP (afterP ps (ags.getD i default) f) (ps.getD f default) = false := by
  cases h : lessP (afterP ps (ags.getD i default) f) (ps.getD f default) with
  | false => rfl
  | true =>
    obtain ⟨h1, h2⟩ := lessP_true h
    have ha : (ags.getD i default).ok := by
      have := (canTo_mem hi).1
      rw [List.getD_eq_getElem?_getD, List.getElem?_eq_getElem this]
      exact hok.2 _ (List.getElem_mem this)
    have hw := Wy.step hi (hs _ (putN_lt ha hf) h1)
    obtain ⟨h3, h4⟩ := hm f hf _ _ hw
    exact absurd h4 (h2 h3).2
theorem relaxF_same {f : Nat} : ∀ (l : List Nat) (s : List Pr × Bool), (∀ i ∈ l, lessP (afterP s.1 (ags.getD i default) f) (s.1.getD f default) = false) → relaxF ags f s l = s
  | [], _, _ => rfl
  | i :: l, s, h => by
    have h1 := relaxF_same (f := f) l s (fun j hj => h j (List.mem_cons_of_mem _ hj))
    unfold relaxF at h1 ⊢
    rw [List.foldl_cons, relax_same (h i List.mem_cons_self), h1]
theorem roundP_same {ps : List Pr} (hok : Oks ags) (hs : Snd ags used p ps) (hm : Min ags used p ps) : ∀ k, k ≤ 64 → roundP ags used ps k = (ps, false)
  | 0, _ => rfl
  | k + 1, hk => by
    unfold roundP
    rw [roundP_same hok hs hm k (by omega)]
    exact relaxF_same _ _ fun i hi => not_less hok hs hm (by omega) hi
theorem round_ends (hok : Oks ags) : (roundP ags used (iterP ags used p 63) 64).2 = false := by
  rw [roundP_same hok (Snd.iter hok 63) (Min.at63 hok) 64 (Nat.le_refl _)]
theorem relaxF_flag {f : Nat} : ∀ (l : List Nat) (s : List Pr × Bool), (relaxF ags f s l).2 = false → s.2 = false ∧ relaxF ags f s l = s ∧ ∀ i ∈ l, lessP (afterP s.1 (ags.getD i default) f) (s.1.getD f default) = false
  | [], s, h => ⟨h, rfl, fun _ hi => by cases hi⟩
  | i :: l, s, h => by
    have e : relaxF ags f s (i :: l) = relaxF ags f (relax ags f s i) l := by unfold relaxF; rw [List.foldl_cons]
    rw [e] at h ⊢
    obtain ⟨h1, h2, h3⟩ := relaxF_flag l _ h
    cases hl : lessP (afterP s.1 (ags.getD i default) f) (s.1.getD f default) with
    | true =>
      unfold relax at h1
      rw [if_pos hl] at h1
      cases h1
    | false =>
      have e2 := relax_same hl
      rw [e2] at h1 h2 h3 ⊢
      refine ⟨h1, h2, fun j hj => ?_⟩
      rcases List.mem_cons.1 hj with e3 | e3
      · subst e3; exact hl
      · exact h3 j e3
theorem roundP_flag {ps : List Pr} : ∀ k, (roundP ags used ps k).2 = false → roundP ags used ps k = (ps, false) ∧ ∀ f, f < k → ∀ i ∈ canTo ags used f ags.length, lessP (afterP ps (ags.getD i default) f) (ps.getD f default) = false
  | 0, _ => ⟨rfl, fun _ h => by omega⟩
  | k + 1, h => by
    unfold roundP at h ⊢
    obtain ⟨h1, h2, h3⟩ := relaxF_flag _ _ h
    obtain ⟨h4, h5⟩ := roundP_flag k h1
    rw [h2, h4]
    refine ⟨rfl, fun f hf i hi => ?_⟩
    rcases Nat.lt_or_ge f k with h6 | h6
    · exact h5 f h6 i hi
    · obtain rfl : f = k := by omega
      rw [h4] at h3
      exact h3 i hi
theorem Min.fix (hok : Oks ags) {j : Nat} (h : (roundP ags used (iterP ags used p j) 64).2 = false) : Min ags used p (iterP ags used p j) := by
  obtain ⟨_, h1⟩ := roundP_flag 64 h
  intro f hf c k hw
  induction hw with
  | done h0 =>
    have h2 := iterP_le (ags := ags) (used := used) (p := p) j _ (by rw [initP_getD hf]; simpa using h0)
    rw [initP_getD hf] at h2
    exact h2
  | @step f i c k hi _ ih =>
    have ha : (ags.getD i default).ok := by
      have := (canTo_mem hi).1
      rw [List.getD_eq_getElem?_getD, List.getElem?_eq_getElem this]
      exact hok.2 _ (List.getElem_mem this)
    obtain ⟨k1, k2⟩ := ih (putN_lt ha hf)
    have h3 := lessP_false (h1 f hf i hi) (show (afterP _ (ags.getD i default) f).known = true from k1)
    exact ⟨h3.1, h3.2.trans (k2.add _)⟩
/-- WHAT THE PRICES ARE: those of the cheapest ways. -/
theorem fix_opt (hok : Oks ags) {j f : Nat} (h : (roundP ags used (iterP ags used p j) 64).2 = false) (hf : f < 64) (hk : ((iterP ags used p j).getD f default).known = true) :
    Opt ags used p f ((iterP ags used p j).getD f default).cost ((iterP ags used p j).getD f default).puts :=
  ⟨Snd.iter hok j f hf hk, fun _ _ hw => (Min.fix hok h f hf _ _ hw).2⟩
theorem fix_known (hok : Oks ags) {j f c k : Nat} (h : (roundP ags used (iterP ags used p j) 64).2 = false) (hf : f < 64) (hw : Wy ags used p f c k) : ((iterP ags used p j).getD f default).known = true := (Min.fix hok h f hf _ _ hw).1
end Go.Proofs.YtofkhehcnfiopaaDoor.N
namespace Go.Proofs.YtofkhehcnfiopaaDoor.N
open Go Go.RowKit Go.Proofs
variable {ags : List Ag} {a b : Nat}
theorem followN_snoc (i : Nat) : ∀ (u : List Nat) (f : Nat), followN ags f (u ++ [i]) = (followN ags f u).bind fun x => if i < ags.length ∧ mayN (ags.getD i default) x = true then some (putN (ags.getD i default) x) else none
  | [], f => by
    show followN ags f [i] = _
    unfold followN
    rfl
  | j :: u, f => by
    show followN ags f (j :: (u ++ [i])) = _
    unfold followN
    split
    · exact followN_snoc i u _
    · rfl
/-- A list whose last agent may be put to just one of both melts. -/
def tq (ags : List Ag) (a b : Nat) (v : List Nat) : Bool :=
  (followN ags a v.dropLast).isSome && (followN ags b v.dropLast).isSome && ((followN ags a v).isSome != (followN ags b v).isSome)
theorem tq_nil : tq ags a b [] = false := by
  unfold tq
  simp [followN]
theorem tq_snoc {u : List Nat} {i : Nat} : tq ags a b (u ++ [i]) = true ↔ ∃ x y, followN ags a u = some x ∧ followN ags b u = some y ∧ i < ags.length ∧ mayN (ags.getD i default) x ≠ mayN (ags.getD i default) y := by
  unfold tq
  rw [List.dropLast_concat, followN_snoc, followN_snoc]
  cases h1 : followN ags a u with
  | none => simp
  | some x =>
    cases h2 : followN ags b u with
    | none => simp
    | some y =>
      generalize ags.getD i default = z
      by_cases hi : i < ags.length
      · cases h3 : mayN z x <;> cases h4 : mayN z y <;> simp [hi, h3, h4]
      · simp [hi]
theorem tq_sym (v : List Nat) : tq ags a b v = tq ags b a v := by
  unfold tq
  cases (followN ags a v.dropLast).isSome <;> cases (followN ags b v.dropLast).isSome <;> cases (followN ags a v).isSome <;> cases (followN ags b v).isSome <;> rfl
theorem tq_self (v : List Nat) : tq ags a a v = false := by
  unfold tq
  simp
theorem tells_mem {x y c i : Nat} (hi : i < ags.length) (h : mayN (ags.getD i default) x ≠ mayN (ags.getD i default) y) : tells (ags.getD i default) (x, y, c) = true := by
  unfold tells
  simp [tget]
  exact h
theorem tellsI_le {x y c i : Nat} (hi : i < ags.length) (h : mayN (ags.getD i default) x ≠ mayN (ags.getD i default) y) : tellsI ags (x, y, c) ≤ i := by
  unfold tellsI
  rcases Nat.lt_or_ge i (ags.findIdx (tells · (x, y, c))) with h1 | h1
  · have h2 := List.not_of_lt_findIdx h1
    have h3 := tells_mem (c := c) hi h
    rw [List.getD_eq_getElem?_getD, List.getElem?_eq_getElem hi] at h3
    simp at h2 h3
    rw [h3] at h2
    cases h2
  · exact h1
theorem tellsI_lt {t : Tm} (h : tellsG ags t = true) : tellsI ags t < ags.length := by
  unfold tellsI
  rw [List.findIdx_lt_length]
  exact List.any_eq_true.1 h
theorem tellsI_is {x y c : Nat} (h : tellsG ags (x, y, c) = true) : mayN (ags.getD (tellsI ags (x, y, c)) default) x ≠ mayN (ags.getD (tellsI ags (x, y, c)) default) y := by
  have hl := tellsI_lt h
  have h1 : tells (ags[tellsI ags (x, y, c)]) (x, y, c) = true := List.findIdx_getElem (w := hl)
  rw [List.getD_eq_getElem?_getD, List.getElem?_eq_getElem hl]
  unfold tells at h1
  simpa [tget] using h1
theorem tellsG_of {x y c i : Nat} (hi : i < ags.length) (h : mayN (ags.getD i default) x ≠ mayN (ags.getD i default) y) : tellsG ags (x, y, c) = true := by
  have h3 := tells_mem (c := c) hi h
  rw [List.getD_eq_getElem?_getD, List.getElem?_eq_getElem hi] at h3
  exact List.any_eq_true.2 ⟨_, List.getElem_mem hi, h3⟩
theorem run_two' {u : List Nat} {x y c : Nat} (h1 : followN ags a u = some x) (h2 : followN ags b u = some y) : run (stepT ags (usedAll ags.length) 2) (a, b, c) u = some (x, y, c) := by
  rw [run_two, h1, h2]; rfl
theorem run_two_inv {u : List Nat} {c : Nat} {t : Tm} (h : run (stepT ags (usedAll ags.length) 2) (a, b, c) u = some t) : ∃ x y, followN ags a u = some x ∧ followN ags b u = some y ∧ t = (x, y, c) := by
  rw [run_two] at h
  cases h1 : followN ags a u with
  | none => rw [h1] at h; cases h
  | some x =>
    rw [h1] at h
    cases h2 : followN ags b u with
    | none => rw [h2] at h; cases h
    | some y =>
      rw [h2] at h
      exact ⟨x, y, rfl, rfl, (Option.some.inj h).symm⟩
def TellsS (ags : List Ag) (a b : Nat) : Option Wk → Prop
  | none => ∀ v, v.length ≤ 5 → tq ags a b v = false
  | some k => tq ags a b (k.how ++ [tellsI ags k.team]) = true ∧ Wd ags.length (k.how ++ [tellsI ags k.team]) ∧ (k.how ++ [tellsI ags k.team]).length ≤ 5 ∧ ∀ v, tq ags a b v = true → v.length ≤ 5 → code ags.length (k.how ++ [tellsI ags k.team]) ≤ code ags.length v
theorem tells_spec {o : Option Wk} (ho : FoundO ags (usedAll ags.length) 2 4 (a, b, 0) (tellsG ags) o) : TellsS ags a b o := by
  cases o with
  | none =>
    intro v hv
    rcases snoc_cases v with rfl | ⟨u, i, rfl⟩
    · exact tq_nil
    · cases hq : tq ags a b (u ++ [i]) with
      | false => rfl
      | true =>
        obtain ⟨x, y, h1, h2, h3, h4⟩ := tq_snoc.1 hq
        have := ho u _ (run_two' (c := 0) h1 h2) (.inr (by simp at hv; omega))
        rw [tellsG_of h3 h4] at this
        cases this
  | some k =>
    obtain ⟨h1, h2, h3⟩ := ho
    obtain ⟨x, y, e1, e2, e3⟩ := run_two_inv h2
    have hl := tellsI_lt h3
    have hwd := run_wd _ stepT_none _ _ _ h2
    have hfit : k.how.length ≤ 4 := by
      have := h1.2.1
      unfold Fits at this
      omega
    refine ⟨?_, Wd.snoc.2 ⟨hwd, hl⟩, by simp; omega, ?_⟩
    · rw [e3] at h3 hl ⊢
      exact tq_snoc.2 ⟨x, y, e1, e2, hl, tellsI_is h3⟩
    · intro v hv hv5
      rcases snoc_cases v with rfl | ⟨u, i, rfl⟩
      · rw [tq_nil] at hv; cases hv
      · obtain ⟨x', y', g1, g2, g3, g4⟩ := tq_snoc.1 hv
        have hr := run_two' (c := 0) g1 g2
        have hle := h1.2.2 u _ hr (tellsG_of g3 g4) (.inr (by simp at hv5; omega))
        rw [code_snoc, code_snoc]
        rcases Nat.lt_or_eq_of_le hle with hlt | heq
        · exact Nat.le_of_lt (code_snoc_lt hlt hl)
        · have hu := code_inj ags.length _ _ _ rfl hwd (run_wd _ stepT_none _ _ _ hr) heq
          subst hu
          rw [h2] at hr
          obtain ht := Option.some.inj hr
          rw [ht]
          have := tellsI_le (c := 0) g3 g4
          omega
theorem tellsS_lists {o o' : Option Wk} (h : TellsS ags a b o) (h' : TellsS ags a b o') : o.isSome = o'.isSome ∧ tellsL ags o = tellsL ags o' := by
  cases o with
  | none =>
    cases o' with
    | none => exact ⟨rfl, rfl⟩
    | some k =>
      have := h _ h'.2.2.1
      rw [h'.1] at this; cases this
  | some k =>
    cases o' with
    | none =>
      have := h' _ h.2.2.1
      rw [h.1] at this; cases this
    | some k' =>
      refine ⟨rfl, ?_⟩
      have h1 := h.2.2.2 _ h'.1 h'.2.2.1
      have h2 := h'.2.2.2 _ h.1 h.2.2.1
      exact code_inj ags.length _ (k.how ++ [tellsI ags k.team]) (k'.how ++ [tellsI ags k'.team]) rfl h.2.1 h'.2.1 (Nat.le_antisymm h1 h2)
theorem tellsL_len {o : Option Wk} (ho : FoundO ags (usedAll ags.length) 2 4 (a, b, 0) (tellsG ags) o) : (tellsL ags o).length ≤ 5 := by
  cases o with
  | none => exact Nat.zero_le _
  | some k => exact (tells_spec ho).2.2.1
theorem TellsS.sym {o : Option Wk} (h : TellsS ags a b o) : TellsS ags b a o := by
  cases o with
  | none => exact fun v hv => by rw [tq_sym]; exact h v hv
  | some k => exact ⟨by rw [tq_sym]; exact h.1, h.2.1, h.2.2.1, fun v hv => h.2.2.2 v (by rw [tq_sym]; exact hv)⟩
theorem TellsS.self {o : Option Wk} (h : TellsS ags a a o) : o = none := by
  cases o with
  | none => rfl
  | some k => have := h.1; rw [tq_self] at this; cases this
theorem TellsS.at {o : Option Wk} (h : TellsS ags a b o) {k i : Nat} {v : List Nat} (hk : k ≤ 5) (hv : (strs ags.length k)[i]? = some v) (hc : tq ags a b v = true) (h0 : ∀ u, Wd ags.length u → u.length < k → tq ags a b u = false)
    (h1 : ∀ j u, j < i → (strs ags.length k)[j]? = some u → tq ags a b u = false) : o.isSome = true ∧ tellsL ags o = v := by
  have hvl := (strs_mem (List.mem_of_getElem? hv)).1
  have hvw : Wd ags.length v := (strs_mem (List.mem_of_getElem? hv)).2
  cases o with
  | none => have := h v (by omega); rw [hc] at this; cases this
  | some w =>
    refine ⟨rfl, ?_⟩
    obtain ⟨g1, g2, g3, g4⟩ := h
    have hle := g4 v hc (by omega)
    show w.how ++ [tellsI ags w.team] = v
    rcases Nat.lt_trichotomy (w.how ++ [tellsI ags w.team]).length k with hl | hl | hl
    · rw [h0 _ g2 hl] at g1; cases g1
    · obtain ⟨j, hj⟩ := List.getElem?_of_mem (strs_all g2 hl)
      rcases Nat.lt_or_ge j i with h2 | h2
      · rw [h1 j _ h2 hj] at g1; cases g1
      · exact code_inj ags.length _ _ _ rfl g2 hvw (Nat.le_antisymm hle (strs_le_code hv hj h2))
    · have := code_lt_of_len ags.length _ (w.how ++ [tellsI ags w.team]) v rfl (by omega) hvw
      omega
theorem TellsS.none_of {o : Option Wk} (h : TellsS ags a b o) (h0 : ∀ u, Wd ags.length u → u.length < 6 → tq ags a b u = false) : o = none := by
  cases o with
  | none => rfl
  | some k =>
    have := h0 _ h.2.1 (by have := h.2.2.1; omega)
    rw [h.1] at this; cases this
end Go.Proofs.YtofkhehcnfiopaaDoor.N
namespace Go.Proofs.YtofkhehcnfiopaaDoor.N
open Go Go.RowKit Go.Proofs
variable {ags : List Ag} {p : Nat}
theorem can_all {f i : Nat} : i ∈ canTo ags (usedAll ags.length) f ags.length ↔ i < ags.length ∧ mayN (ags.getD i default) f = true := by
  constructor
  · intro h
    obtain ⟨h1, _, h3⟩ := canTo_mem h
    exact ⟨h1, h3⟩
  · rintro ⟨h1, h2⟩
    unfold canTo
    refine List.mem_filter.2 ⟨List.mem_range.2 h1, ?_⟩
    rw [usedAll_bit, h2]
    simpa using h1
def costN (ags : List Ag) (l : List Nat) : Nat := (l.map fun i => (ags.getD i default).cost).sum
theorem costN_snoc (l : List Nat) (i : Nat) : costN ags (l ++ [i]) = costN ags l + (ags.getD i default).cost := by
  unfold costN
  simp
theorem costN_le (hok : Oks ags) : ∀ l : List Nat, costN ags l ≤ 9 * l.length
  | [] => Nat.le_refl _
  | i :: l => by
    have := costN_le hok l
    have hc : (ags.getD i default).cost ≤ 9 := by
      rw [List.getD_eq_getElem?_getD]
      cases hk : ags[i]? with
      | none => exact Nat.zero_le _
      | some x => exact (hok.2 x (List.mem_of_getElem? hk)).cost.2
    unfold costN at this ⊢
    simp only [List.map_cons, List.sum_cons, List.length_cons]
    omega
/-- What a clearing way of least price is. -/
theorem way_walk (hok : Oks ags) {j : Nat} (hfix : (roundP ags (usedAll ags.length) (iterP ags (usedAll ags.length) p j) 64).2 = false) : ∀ (k f : Nat), f < 64 →
    ((iterP ags (usedAll ags.length) p j).getD f default).known = true → ((iterP ags (usedAll ags.length) p j).getD f default).puts = k →
    ∃ e, followN ags f (wayP ags (usedAll ags.length) (iterP ags (usedAll ags.length) p j) k f) = some e ∧ nn e p = 0 ∧ costN ags (wayP ags (usedAll ags.length) (iterP ags (usedAll ags.length) p j) k f) = ((iterP ags (usedAll ags.length) p j).getD f default).cost ∧
      Wd ags.length (wayP ags (usedAll ags.length) (iterP ags (usedAll ags.length) p j) k f) ∧ (wayP ags (usedAll ags.length) (iterP ags (usedAll ags.length) p j) k f).length = k
  | 0, f, hf, hk, hp => by
    have ho := fix_opt hok hfix hf hk
    rw [hp] at ho
    have hw := ho.1
    unfold wayP
    generalize ((iterP ags (usedAll ags.length) p j).getD f default).cost = c at hw ⊢
    cases hw with
    | done h0 => exact ⟨f, rfl, h0, rfl, fun i hi => by simp at hi, rfl⟩
  | k + 1, f, hf, hk, hp => by
    have ho := fix_opt hok hfix hf hk
    rw [hp] at ho
    obtain ⟨i, c', hi, hc, hg, hog⟩ := ho.next hok hf
    have hkg := fix_known hok hfix hg hog.1
    obtain ⟨e1, e2⟩ := (fix_opt hok hfix hg hkg).uniq hog
    have hex : afterP (iterP ags (usedAll ags.length) p j) (ags.getD i default) f = (iterP ags (usedAll ags.length) p j).getD f default := by
      unfold afterP
      cases hx : (iterP ags (usedAll ags.length) p j).getD f default with
      | mk a b d =>
        rw [hx] at hk hp hc
        dsimp only at hk hp hc
        rw [hkg, e1, e2, hk, hp, ← hc]
    unfold wayP
    cases hfd : (canTo ags (usedAll ags.length) f ags.length).find? (fun i => decide (afterP (iterP ags (usedAll ags.length) p j) (ags.getD i default) f = (iterP ags (usedAll ags.length) p j).getD f default)) with
    | none =>
      have := List.find?_eq_none.1 hfd i hi
      exact absurd (decide_eq_true hex) this
    | some x =>
      have hx1 := List.find?_some hfd
      have hx2 := List.mem_of_find?_eq_some hfd
      have hx1' : afterP (iterP ags (usedAll ags.length) p j) (ags.getD x default) f = (iterP ags (usedAll ags.length) p j).getD f default := by simpa using hx1
      obtain ⟨n1, n2⟩ := after_next hx1' hk
      obtain ⟨hxl, hxm⟩ := can_all.1 hx2
      have ha : (ags.getD x default).ok := agd_ok hok hxl
      obtain ⟨e, w1, w2, w3, w4, w5⟩ := way_walk hok hfix k (putN (ags.getD x default) f) (putN_lt ha hf) n1 (by omega)
      dsimp only
      refine ⟨e, ?_, w2, ?_, ?_, ?_⟩
      · unfold followN
        rw [if_pos ⟨hxl, hxm⟩, w1]
      · rw [← hx1']
        show (_ :: _ : List Nat).sum = _
        have : (List.map (fun i => (ags.getD i default).cost) (wayP ags (usedAll ags.length) (iterP ags (usedAll ags.length) p j) k (putN (ags.getD x default) f))).sum = _ := w3
        rw [List.sum_cons, this]
        unfold afterP
        dsimp only
        omega
      · intro y hy
        rcases List.mem_cons.1 hy with h | h
        · omega
        · exact w4 y h
      · rw [List.length_cons, w5]
/-- What Cheapest says. -/
structure ChS (ags : List Ag) (p f : Nat) (W : List Nat) (c E : Nat) : Prop where
  yes : E = 0 → Opt ags (usedAll ags.length) p f c W.length ∧ (∃ e, followN ags f W = some e ∧ nn e p = 0) ∧ costN ags W = c ∧ Wd ags.length W ∧ W.length ≤ 63
  no : E ≠ 0 → E = 11 ∧ c = 0 ∧ W = [] ∧ ∀ c k, ¬ Wy ags (usedAll ags.length) p f c k
theorem cheap_spec (hok : Oks ags) {j f : Nat} (hf : f < 64) (hfix : (roundP ags (usedAll ags.length) (iterP ags (usedAll ags.length) p j) 64).2 = false) :
    ChS ags p f (cheapW ags (usedAll ags.length) (iterP ags (usedAll ags.length) p j) f) (cheapC (iterP ags (usedAll ags.length) p j) f) (cheapE (iterP ags (usedAll ags.length) p j) f) := by
  unfold cheapW cheapC cheapE
  by_cases hk : ((iterP ags (usedAll ags.length) p j).getD f default).known = true
  · rw [if_pos hk, if_pos hk, if_pos hk]
    obtain ⟨e, w1, w2, w3, w4, w5⟩ := way_walk hok hfix _ f hf hk rfl
    have ho := fix_opt hok hfix hf hk
    refine ⟨fun _ => ⟨by rw [w5]; exact ho, ⟨e, w1, w2⟩, w3, w4, by rw [w5]; exact ho.short hok hf⟩, fun h => absurd rfl h⟩
  · rw [if_neg hk, if_neg hk, if_neg hk]
    exact ⟨fun h => absurd h (by decide), fun _ => ⟨rfl, rfl, rfl, fun c k hw => hk (fix_known hok hfix hf hw)⟩⟩
theorem ChS.clear {f c E : Nat} {W : List Nat} (h : ChS ags p f W c E) (h0 : nn f p = 0) : E = 0 ∧ c = 0 ∧ W = [] := by
  have hw : Wy ags (usedAll ags.length) p f 0 0 := Wy.done h0
  by_cases hE : E = 0
  · have := (h.yes hE).1.2 _ _ hw
    unfold lexle at this
    refine ⟨hE, by omega, List.length_eq_zero_iff.1 (by omega)⟩
  · exact absurd hw ((h.no hE).2.2.2 0 0)
/-- Whatever is put first, it costs no less. -/
theorem ChS.step {f c E i c' E' : Nat} {W W' : List Nat} (h : ChS ags p f W c E) (hi : i < ags.length) (hm : mayN (ags.getD i default) f = true) (h' : ChS ags p (putN (ags.getD i default) f) W' c' E') (h0 : E' = 0) : E = 0 ∧ c ≤ c' + (ags.getD i default).cost := by
  have hw := Wy.step (can_all.2 ⟨hi, hm⟩) (h'.yes h0).1.1
  by_cases hE : E = 0
  · have := (h.yes hE).1.2 _ _ hw
    unfold lexle at this
    exact ⟨hE, by omega⟩
  · exact absurd hw ((h.no hE).2.2.2 _ _)
theorem ChS.err {f c E : Nat} {W : List Nat} (h : ChS ags p f W c E) : E = 0 ∨ E = 11 := by
  by_cases hE : E = 0
  · exact .inl hE
  · exact .inr (h.no hE).1
theorem ChS.bound (hok : Oks ags) {f c E : Nat} {W : List Nat} (h : ChS ags p f W c E) : c ≤ 567 ∧ W.length ≤ 63 := by
  by_cases hE : E = 0
  · obtain ⟨_, _, h3, _, h5⟩ := h.yes hE
    have := costN_le hok W
    omega
  · obtain ⟨_, h2, h3, _⟩ := h.no hE
    rw [h2, h3]
    exact ⟨by omega, by simp⟩
/-- With some agent put first, it costs just as much. -/
theorem ChS.some {f c : Nat} {W : List Nat} (hok : Oks ags) (h : ChS ags p f W c 0) (hf : f < 64) (h0 : nn f p ≠ 0) : ∃ i n m, i < ags.length ∧ mayN (ags.getD i default) f = true ∧ Opt ags (usedAll ags.length) p (putN (ags.getD i default) f) n m ∧ n + (ags.getD i default).cost = c := by
  have ho := (h.yes rfl).1
  cases hl : W.length with
  | zero =>
    rw [hl] at ho
    have hw := ho.1
    cases hw with
    | done h1 => exact absurd h1 h0
  | succ k =>
    rw [hl] at ho
    obtain ⟨i, c', hi, hc, _, hog⟩ := ho.next hok hf
    obtain ⟨h1, h2⟩ := can_all.1 hi
    exact ⟨i, c', k, h1, h2, hog, hc.symm⟩
theorem fix_any (hok : Oks ags) : ∃ N, N ≤ 1000 ∧ (roundP ags (usedAll ags.length) (iterP ags (usedAll ags.length) p N) 64).2 = false := ⟨63, by omega, round_ends hok⟩
end Go.Proofs.YtofkhehcnfiopaaDoor.N
namespace Go.Proofs.YtofkhehcnfiopaaDoor.N
open Go Go.RowKit Go.Proofs
variable {C : Ctx} {fr : List (Nat × Value)} {hp : List Res} {ops : Array Oper} {Q : Exit → Act → World → Prop} {rest : List Oper} {d : Nat} {ty : TypeId} {pos : String} {after : Array Edge}
theorem elem_of {P : Program} {t e : TypeId} (ht : P.underlying t = some (.slice e)) : P.elem t = e := by
  unfold Program.elem
  rw [ht]
/-- x[:h]. -/
theorem lst_slice_h {x y : Operand} {t e : TypeId} {A : Option Addr} {h len cap n m : Nat} {kd : IntKind} {i : Int} {z : Value} (hd : Nat.blt d C.N = true) (hx : ev fr x = some (.slice A len cap)) (hy : ev fr y = some (.int kd i))
    (ht : C.P.underlying t = some (.slice e)) (he : TI C.P e z n m) (hi : i = (h : Int)) (hc : h ≤ cap)
    (k : Lst C ops Q rest ((d, .slice A h cap) :: fr) hp) : Lst C ops Q (⟨some d, .slice t x none (some y) none, ty, pos, after, none⟩ :: rest) fr hp := by
  obtain ⟨i', hi', _, hs, _⟩ := he
  subst hi
  have hu := ht
  rw [← elem_of ht] at hu
  refine lst_value _ hd (fun a w ha => ⟨w, ?_, ha⟩) k
  have h1 := run_slice_h (P := C.P) w t A len cap hu kd (h : Int) (by omega) (by omega)
  have h2 : (Instr.sliceAt t (.slice A len cap) none (some (.int kd (h : Int))) none).run C.P w = .ok (.slice A h cap) w := by
    rw [run_sliceAt_slice _ _ _ _ _ _ hu, h1]
    have : (sizeOf (C.P.elem t)).run C.P w = .ok n w := by
      rw [elem_of ht]
      simp [sizeOf, typeInfo, hi', hs]
    rw [this]
    simp only [Result.andThen_ok, sliced, Int.toNat_natCast, Nat.zero_mul, Nat.sub_zero]
    congr 2
    split
    · rfl
    · cases A with
      | none => rfl
      | some p => simp [Addr.add]
  simp only [execOp, ha.eval hx, Option.map, ha.eval hy, Sem.run_bind, h2, Result.andThen_ok, Sem.run_pure]
/-- x[l:]. -/
theorem lst_slice_l {x y : Operand} {t e : TypeId} {A : Option Addr} {l len cap n m : Nat} {kd : IntKind} {i : Int} {z : Value} (hd : Nat.blt d C.N = true) (hx : ev fr x = some (.slice A len cap)) (hy : ev fr y = some (.int kd i))
    (ht : C.P.underlying t = some (.slice e)) (he : TI C.P e z n m) (hi : i = (l : Int)) (hc : l ≤ len)
    (k : Lst C ops Q rest ((d, .slice (if cap = l then A else A.map (·.add (l * n))) (len - l) (cap - l)) :: fr) hp) : Lst C ops Q (⟨some d, .slice t x (some y) none none, ty, pos, after, none⟩ :: rest) fr hp := by
  obtain ⟨i', hi', _, hs, _⟩ := he
  subst hi
  have hu := ht
  rw [← elem_of ht] at hu
  refine lst_value _ hd (fun a w ha => ⟨w, ?_, ha⟩) k
  have h1 := run_slice_l (P := C.P) w t A len cap hu kd (l : Int) (by omega) (by omega)
  have h2 : (Instr.sliceAt t (.slice A len cap) (some (.int kd (l : Int))) none none).run C.P w = .ok (.slice (if cap = l then A else A.map (·.add (l * n))) (len - l) (cap - l)) w := by
    rw [run_sliceAt_slice _ _ _ _ _ _ hu, h1]
    have : (sizeOf (C.P.elem t)).run C.P w = .ok n w := by
      rw [elem_of ht]
      simp [sizeOf, typeInfo, hi', hs]
    rw [this]
    simp only [Result.andThen_ok, sliced, Int.toNat_natCast]
  simp only [execOp, ha.eval hx, Option.map, ha.eval hy, Sem.run_bind, h2, Result.andThen_ok, Sem.run_pure]
theorem RdL.take {α : Type} {cells : α → List Value} {size : Nat} {w : World} {A : Option Addr} {l : List α} (h : RdL cells size w A l) (n : Nat) : RdL cells size w A (l.take n) := fun hl => by
  rw [List.length_take] at hl
  obtain ⟨b, o, h1, h2, h3⟩ := h (by omega)
  refine ⟨b, o, h1, h2, fun k x hk j u hu => h3 k x ?_ j u hu⟩
  rw [List.getElem?_take] at hk
  split at hk
  · exact hk
  · cases hk
theorem RdL.drop {α : Type} {cells : α → List Value} {size : Nat} {w : World} {A : Option Addr} {l : List α} (h : RdL cells size w A l) {n cap : Nat} (hc : l.length ≤ cap) : RdL cells size w (if cap = n then A else A.map (·.add (n * size))) (l.drop n) := fun hl => by
  rw [List.length_drop] at hl
  obtain ⟨b, o, h1, h2, h3⟩ := h (by omega)
  rw [if_neg (by omega), h1]
  refine ⟨b, o + n * size, by rw [Option.map_some, addr_add], h2, fun k x hk j u hu => ?_⟩
  rw [List.getElem?_drop] at hk
  have := h3 (n + k) x hk j u hu
  rw [← this]
  congr 2
  rw [Nat.add_mul]
  omega
/-- What a row can hold. -/
theorem At.cap_le {a : Act} {w : World} (ha : At C fr hp a w) {e size n c : Nat} {A : Option Addr} {xs : List Value} (hm : Res.row e size A n c xs ∈ hp) : n ≤ c := by
  rcases (ha.own _ hm).2 with ⟨h1, _⟩ | ⟨g, cap, cur, hv, h1, h2⟩
  · omega
  · simp at hv
    omega
end Go.Proofs.YtofkhehcnfiopaaDoor.N
namespace Go.Proofs.YtofkhehcnfiopaaDoor.N
open Go Go.RowKit Go.Proofs

theorem FiningTells_c (nA : Option Addr) (nc : Nat) (nums : List Int) (w : World) (hN : RdL icell 1 w nA nums) : Calls Tryd.prog 6 #[.slice nA nums.length nc] w fun e w' => e = .returned (.bool true) ∧ Grew w w' [] := by
  refine enter (N := 158) [(0, .slice nA nums.length nc)] Tryd.func6 rfl Tryd.ntmps6 rfl rfl ?_
  refine cod_seq ?_
  refine cod_region ?_
  refine lst_assign rfl rfl ?_
  refine lst_nil ?_
  refine ex_then ?_
  refine cod_seq ?_
  refine cod_region ?_
  refine lst_move rfl rfl ?_
  refine lst_fn (X := Nat) (vs := [_]) (p := fun _ => True) (val := fun b => .pointer (some ⟨b, 0, none⟩)) (rs := fun b => [.blk b (hatO nA nums.length nc 0 11400714819323198485)]) rfl rfl F.ent22 (fun a w ha => (NewHat_c nA nums.length nc w).mono (fun e w' h => by obtain ⟨b, h1, h2⟩ := h; exact ⟨b, trivial, h1, h2⟩)) ?_
  intro hb _
  dsimp only [List.cons_append, List.nil_append]
  refine lst_assign rfl rfl ?_
  refine lst_nil ?_
  refine ex_then ?_
  refine cod_seq ?_
  refine cod_region ?_
  refine lst_move rfl rfl ?_
  refine lst_call (X := Nat × Nat × List Ag × Option Addr × Nat) (first := []) (cap := []) (vs := [_, _, _]) (p := fun y => y.1 ≤ 200 ∧ y.2.1 < 18446744073709551616 ∧ y.2.2.1.length ≤ 3 ∧ ∀ x ∈ y.2.2.1, x.ok) (val := fun y => .slice y.2.2.2.1 y.2.2.1.length y.2.2.2.2) (rs := fun y => .row 24 5 y.2.2.2.1 y.2.2.1.length y.2.2.2.2 (y.2.2.1.flatMap Ag.cells) :: .blk hb (hatO nA nums.length nc y.1 y.2.1) :: []) rfl rfl rfl F.ent34 (fun a w ha => (AgentsOf_c (C := ⟨Tryd.prog, _, _, _, _⟩) (T := []) (tk := 0) (many := 3) (few := 4) rfl rfl hN (by omega) (by omega) (by omega) (by omega) (by omega) ha).mono (fun e w' h => by obtain ⟨t', s', l, A', c', h1, h2, h3, h4, h5, h6⟩ := h; exact ⟨(t', s', l, A', c'), ⟨by omega, h2, h3, h4⟩, h5, h6⟩)) ?_
  rintro ⟨t1, s1, ags, aA, ac⟩ ⟨ht1, hs1, hagl, hago⟩
  dsimp only at ht1 hs1 hagl hago ⊢
  have hok : Oks ags := ⟨by omega, hago⟩
  refine lst_move rfl rfl ?_
  refine lst_call_pul (X := Nat × Nat) (vs := [_, _]) hb (fun y => hatO nA nums.length nc (t1 + 1) (y.1)) (fun y => y.1 < 18446744073709551616 ∧ y.2 ≤ (15 : Int).toNat) (fun y => .int .i64 (y.2 : Int)) rfl rfl F.ent25 (fun a w ha => (To_c (C := ⟨Tryd.prog, _, _, _, _⟩) rfl rfl hN (tk := t1) (st := s1) (n := 15) (by omega) hs1 (by omega) ha).mono (fun e w' h => by obtain ⟨s', x, h1, h2, h3, h4⟩ := h; exact ⟨(s', x), ⟨h1, h2⟩, h3, h4⟩)) ?_
  rintro ⟨s2, m1⟩ ⟨hs2, hm1⟩
  dsimp only at hs2 hm1 ⊢
  have hlm1 : m1 ≤ 15 := by omega
  refine lst_move rfl rfl ?_
  refine lst_call_pul (X := Nat × Nat) (vs := [_, _]) hb (fun y => hatO nA nums.length nc (t1 + 1 + 1) (y.1)) (fun y => y.1 < 18446744073709551616 ∧ y.2 ≤ (15 : Int).toNat) (fun y => .int .i64 (y.2 : Int)) rfl rfl F.ent25 (fun a w ha => (To_c (C := ⟨Tryd.prog, _, _, _, _⟩) rfl rfl hN (tk := t1 + 1) (st := s2) (n := 15) (by omega) hs2 (by omega) ha).mono (fun e w' h => by obtain ⟨s', x, h1, h2, h3, h4⟩ := h; exact ⟨(s', x), ⟨h1, h2⟩, h3, h4⟩)) ?_
  rintro ⟨s3, m2⟩ ⟨hs3, hm2⟩
  dsimp only at hs3 hm2 ⊢
  have hlm2 : m2 ≤ 15 := by omega
  refine lst_assign rfl rfl ?_
  refine lst_assign rfl rfl ?_
  refine lst_assign rfl rfl ?_
  refine lst_nil ?_
  refine ex_then ?_
  refine cod_seq ?_
  refine cod_region ?_
  refine lst_move rfl rfl ?_
  refine lst_move rfl rfl ?_
  refine lst_move rfl rfl ?_
  refine lst_fn (X := Option Wk × Option Addr × Nat) (vs := [_, _, _]) (p := fun y => FoundO ags (usedAll ags.length) 2 4 (m1, m2, 0) (tellsG ags) y.1) (val := fun y => .tuple #[.slice y.2.1 (tellsL ags y.1).length y.2.2, .int .i64 (if y.1.isSome then 0 else 11)]) (rs := fun y => [.row 3 1 y.2.1 (tellsL ags y.1).length y.2.2 (ints (tellsL ags y.1))]) rfl rfl F.ent30 (fun a w ha => (Tells_ok aA ac ags hok m1 m2 (by omega) (by omega) w (row_reads ha (cells := Ag.cells) (size := 5) (e := 24) (c := ac) (n := ags.length) (fun _ => rfl) (InR.mem (A := aA)) rfl)).mono (fun e w' h => by obtain ⟨o, A, c, h1, h2, h3⟩ := h; exact ⟨(o, A, c), h1, h2, h3⟩)) ?_
  rintro ⟨o, tA, tc⟩ hfo
  dsimp only [List.cons_append, List.nil_append] at hfo ⊢
  refine lst_move rfl rfl ?_
  refine lst_extract rfl rfl rfl ?_
  refine lst_extract rfl rfl rfl ?_
  refine lst_assign rfl rfl ?_
  refine lst_assign rfl rfl ?_
  refine lst_nil ?_
  refine ex_then ?_
  refine cod_seq ?_
  refine cod_region ?_
  refine lst_move rfl rfl ?_
  refine lst_move rfl rfl ?_
  refine lst_move rfl rfl ?_
  refine lst_fn (X := Option Wk × Option Addr × Nat) (vs := [_, _, _]) (p := fun y => FoundO ags (usedAll ags.length) 2 4 (m2, m1, 0) (tellsG ags) y.1) (val := fun y => .tuple #[.slice y.2.1 (tellsL ags y.1).length y.2.2, .int .i64 (if y.1.isSome then 0 else 11)]) (rs := fun y => [.row 3 1 y.2.1 (tellsL ags y.1).length y.2.2 (ints (tellsL ags y.1))]) rfl rfl F.ent30 (fun a w ha => (Tells_ok aA ac ags hok m2 m1 (by omega) (by omega) w (row_reads ha (cells := Ag.cells) (size := 5) (e := 24) (c := ac) (n := ags.length) (fun _ => rfl) (InR.mem (A := aA)) rfl)).mono (fun e w' h => by obtain ⟨o, A, c, h1, h2, h3⟩ := h; exact ⟨(o, A, c), h1, h2, h3⟩)) ?_
  rintro ⟨o2, tA2, tc2⟩ hfo2
  dsimp only [List.cons_append, List.nil_append] at hfo2 ⊢
  refine lst_move rfl rfl ?_
  refine lst_extract rfl rfl rfl ?_
  refine lst_extract rfl rfl rfl ?_
  refine lst_assign rfl rfl ?_
  refine lst_assign rfl rfl ?_
  refine lst_nil ?_
  refine ex_then ?_
  refine cod_seq ?_
  refine cod_region ?_
  refine lst_move rfl rfl ?_
  refine lst_move rfl rfl ?_
  refine lst_move rfl rfl ?_
  refine lst_fn (X := Option Wk × Option Addr × Nat) (vs := [_, _, _]) (p := fun y => FoundO ags (usedAll ags.length) 2 4 (m1, m1, 0) (tellsG ags) y.1) (val := fun y => .tuple #[.slice y.2.1 (tellsL ags y.1).length y.2.2, .int .i64 (if y.1.isSome then 0 else 11)]) (rs := fun y => [.row 3 1 y.2.1 (tellsL ags y.1).length y.2.2 (ints (tellsL ags y.1))]) rfl rfl F.ent30 (fun a w ha => (Tells_ok aA ac ags hok m1 m1 (by omega) (by omega) w (row_reads ha (cells := Ag.cells) (size := 5) (e := 24) (c := ac) (n := ags.length) (fun _ => rfl) (InR.mem (A := aA)) rfl)).mono (fun e w' h => by obtain ⟨o, A, c, h1, h2, h3⟩ := h; exact ⟨(o, A, c), h1, h2, h3⟩)) ?_
  rintro ⟨o3, tA3, tc3⟩ hfo3
  dsimp only [List.cons_append, List.nil_append] at hfo3 ⊢
  obtain ⟨e1, e2⟩ := tellsS_lists (tells_spec hfo) (tells_spec hfo2).sym
  have e3 := (tells_spec hfo3).self
  subst e3
  have hlen5 : (tellsL ags o).length ≤ 5 := tellsL_len hfo
  refine lst_move rfl rfl ?_
  refine lst_extract rfl rfl rfl ?_
  refine lst_extract rfl rfl rfl ?_
  refine lst_assign rfl rfl ?_
  refine lst_assign rfl rfl ?_
  refine lst_nil ?_
  refine ex_then ?_
  refine cod_seq ?_
  refine cod_seq ?_
  refine cod_region ?_
  refine lst_cut1 13 65 (.bool false) ?_ ?_
  · skip
    refine lst_move rfl rfl ?_
    refine lst_move rfl rfl ?_
    refine lst_int rfl rfl rfl bin_neq ?_
    refine lst_move rfl rfl ?_
    refine lst_split_bool (t := 56) rfl (fun hg56 => ?_) (fun hg56 => ?_)
    · skip
      refine lst_off rfl rfl rfl ?_
      refine lst_off rfl rfl rfl ?_
      refine lst_pick_true rfl rfl rfl ?_
      refine lst_move rfl rfl ?_
      refine lst_split_bool (t := 60) rfl (fun hg60 => ?_) (fun hg60 => ?_)
      · skip
        refine lst_off rfl rfl rfl ?_
        refine lst_off rfl rfl rfl ?_
        refine lst_off rfl rfl rfl ?_
        refine lst_off rfl rfl rfl ?_
        refine lst_pick_true rfl rfl rfl ?_
        refine lst_nil ?_
        exact ex_cut (.cons (by first | rfl | (exfalso; rw [e1] at hg56; simp at hg56; done) | (exfalso; simp at hg60; done)) (by repeat (first | exact Sub.nil _ | refine Sub.cons rfl ?_))) (by repeat (first | exact List.Sublist.refl _ | exact List.nil_sublist _ | refine List.Sublist.cons_cons _ ?_ | refine List.Sublist.cons _ ?_))
      · skip
        refine lst_on rfl rfl ?_
        refine lst_move rfl rfl ?_
        refine lst_on rfl rfl ?_
        refine lst_move rfl rfl ?_
        refine lst_on rfl rfl ?_
        refine lst_fn0 (v := .bool true) (vs := [_, _]) rfl rfl F.ent32 (fun a w ha => by
          have hr1 : RdL ncell 1 w tA (tellsL ags o) := row_reads ha (cells := ncell) (size := 1) (e := 3) (c := tc) (n := (tellsL ags o).length) (fun _ => rfl) (by rw [← ints_flat]; simp) rfl
          have hr2 : RdL ncell 1 w tA2 (tellsL ags o2) := row_reads ha (cells := ncell) (size := 1) (e := 3) (c := tc2) (n := (tellsL ags o2).length) (fun _ => rfl) (by rw [← ints_flat]; simp) rfl
          have h := eqInts_c tA tA2 tc tc2 ((tellsL ags o).map fun (n : Nat) => (n : Int)) ((tellsL ags o2).map fun (n : Nat) => (n : Int)) (by rw [List.length_map]; omega) w hr1.cast hr2.cast
          rw [List.length_map, List.length_map] at h
          exact h.mono (fun e w' h => ⟨h.1.trans (by rw [e2]; simp), h.2⟩)) ?_
        refine lst_on rfl rfl ?_
        refine lst_not rfl rfl ?_
        refine lst_pick_false rfl rfl rfl ?_
        refine lst_nil ?_
        exact ex_cut (.cons (by first | rfl | (exfalso; rw [e1] at hg56; simp at hg56; done) | (exfalso; simp at hg60; done)) (by repeat (first | exact Sub.nil _ | refine Sub.cons rfl ?_))) (by repeat (first | exact List.Sublist.refl _ | exact List.nil_sublist _ | refine List.Sublist.cons_cons _ ?_ | refine List.Sublist.cons _ ?_))
    · skip
      refine lst_on rfl rfl ?_
      refine lst_move rfl rfl ?_
      refine lst_on rfl rfl ?_
      refine lst_int rfl rfl rfl bin_neq ?_
      refine lst_pick_false rfl rfl rfl ?_
      refine lst_move rfl rfl ?_
      refine lst_split_bool (t := 60) rfl (fun hg60 => ?_) (fun hg60 => ?_)
      · skip
        refine lst_off rfl rfl rfl ?_
        refine lst_off rfl rfl rfl ?_
        refine lst_off rfl rfl rfl ?_
        refine lst_off rfl rfl rfl ?_
        refine lst_pick_true rfl rfl rfl ?_
        refine lst_nil ?_
        exact ex_cut (.cons (by first | rfl | (exfalso; rw [e1] at hg56; simp at hg56; done) | (exfalso; simp at hg60; done)) (by repeat (first | exact Sub.nil _ | refine Sub.cons rfl ?_))) (by repeat (first | exact List.Sublist.refl _ | exact List.nil_sublist _ | refine List.Sublist.cons_cons _ ?_ | refine List.Sublist.cons _ ?_))
      · skip
        refine lst_on rfl rfl ?_
        refine lst_move rfl rfl ?_
        refine lst_on rfl rfl ?_
        refine lst_move rfl rfl ?_
        refine lst_on rfl rfl ?_
        refine lst_fn0 (v := .bool true) (vs := [_, _]) rfl rfl F.ent32 (fun a w ha => by
          have hr1 : RdL ncell 1 w tA (tellsL ags o) := row_reads ha (cells := ncell) (size := 1) (e := 3) (c := tc) (n := (tellsL ags o).length) (fun _ => rfl) (by rw [← ints_flat]; simp) rfl
          have hr2 : RdL ncell 1 w tA2 (tellsL ags o2) := row_reads ha (cells := ncell) (size := 1) (e := 3) (c := tc2) (n := (tellsL ags o2).length) (fun _ => rfl) (by rw [← ints_flat]; simp) rfl
          have h := eqInts_c tA tA2 tc tc2 ((tellsL ags o).map fun (n : Nat) => (n : Int)) ((tellsL ags o2).map fun (n : Nat) => (n : Int)) (by rw [List.length_map]; omega) w hr1.cast hr2.cast
          rw [List.length_map, List.length_map] at h
          exact h.mono (fun e w' h => ⟨h.1.trans (by rw [e2]; simp), h.2⟩)) ?_
        refine lst_on rfl rfl ?_
        refine lst_not rfl rfl ?_
        refine lst_pick_false rfl rfl rfl ?_
        refine lst_nil ?_
        exact ex_cut (.cons (by first | rfl | (exfalso; rw [e1] at hg56; simp at hg56; done) | (exfalso; simp at hg60; done)) (by repeat (first | exact Sub.nil _ | refine Sub.cons rfl ?_))) (by repeat (first | exact List.Sublist.refl _ | exact List.nil_sublist _ | refine List.Sublist.cons_cons _ ?_ | refine List.Sublist.cons _ ?_))
  refine lst_nil ?_
  refine ex_then ?_
  refine cod_cond_false rfl ?_
  refine cod_skip ?_
  refine ex_then ?_
  refine cod_seq ?_
  refine cod_seq ?_
  refine cod_region ?_
  refine lst_assign rfl rfl ?_
  refine lst_nil ?_
  refine ex_then ?_
  refine cod_block ?_
  refine cod_loop' (G := Nat) (fun g => 1 ≤ g ∧ g ≤ 6 ∧ ∀ u, Wd ags.length u → u.length < g → tq ags m1 m2 u = false) (fun g => 6 - g) (fun g => [(4, .slice aA ags.length ac), (5, .int .i64 (m1 : Int)), (6, .int .i64 (m2 : Int)), (7, .slice tA (tellsL ags o).length tc), (8, .int .i64 (if o.isSome then 0 else 11)), (13, .int .i64 (g : Int))]) (fun g => .row 3 1 tA (tellsL ags o).length tc (ints (tellsL ags o)) :: .row 24 5 aA ags.length ac (ags.flatMap Ag.cells) :: []) (1) ⟨Nat.le_refl _, by omega, fun u _ h => by rw [show u = [] from List.length_eq_zero_iff.1 (by omega)]; exact tq_nil⟩ (by repeat (first | exact Sub.nil _ | refine Sub.cons rfl ?_)) (by repeat (first | exact Pck.nil _ | exact Pck.refl _ | (apply Pck.cons; focus ((repeat (first | exact Rem.here _ | apply Rem.there)); done)) | refine Pck.skip _ ?_)) ?_
  rintro k ⟨hk1, hk6, hK⟩
  try dsimp only
  refine cod_seq ?_
  refine cod_seq ?_
  refine cod_region ?_
  refine lst_move rfl rfl ?_
  refine lst_int rfl rfl rfl bin_leq ?_
  refine lst_nil ?_
  refine ex_then ?_
  refine cod_cond_dec rfl (fun hc1 => ?_) (fun hc1 => ?_)
  · skip
    have hk5 : k ≤ 5 := by omega
    refine cod_skip ?_
    refine ex_then ?_
    refine cod_seq ?_
    refine cod_block ?_
    refine cod_seq ?_
    refine cod_region ?_
    refine lst_move rfl rfl ?_
    refine lst_len rfl rfl Tryd.underlying22 ?_
    refine lst_move rfl rfl ?_
    refine lst_call (X := List Sl × Option Addr × Nat) (first := []) (cap := []) (vs := [_, _]) (p := fun y => y.1.map Sl.l = strs ags.length k) (val := fun y => .slice y.2.1 y.1.length y.2.2) (rs := fun y => .row 25 1 y.2.1 y.1.length y.2.2 (y.1.map Sl.val) :: .row 3 1 tA (tellsL ags o).length tc (ints (tellsL ags o)) :: .row 24 5 aA ags.length ac (ags.flatMap Ag.cells) :: (y.1.map Sl.res ++ [])) rfl rfl rfl F.ent38 (fun a w ha => by
      exact (Strings_c ags.length k (by omega) hk5 w).mono (fun e w' h => by obtain ⟨Ls, A', c', h1, h2, h3⟩ := h; refine ⟨(Ls, A', c'), h1, h2, (ha.more h3).pck (Pck.cons (.here _) ?_)⟩; rw [List.append_nil]; exact Pck.swap (Ls.map Sl.res) [.row 3 1 tA (tellsL ags o).length tc (ints (tellsL ags o)), .row 24 5 aA ags.length ac (ags.flatMap Ag.cells)])) ?_
    rintro ⟨Ls, lA, lc⟩ hLs
    dsimp only at hLs ⊢
    refine lst_assign rfl rfl ?_
    refine lst_nil ?_
    refine ex_then ?_
    refine cod_seq ?_
    refine cod_region ?_
    refine lst_assign rfl rfl ?_
    refine lst_nil ?_
    refine ex_then ?_
    refine cod_block ?_
    refine cod_loop' (G := Nat) (fun g => g ≤ Ls.length ∧ ∀ j u, j < g → (strs ags.length k)[j]? = some u → tq ags m1 m2 u = false) (fun g => Ls.length - g) (fun g => [(4, .slice aA ags.length ac), (5, .int .i64 (m1 : Int)), (6, .int .i64 (m2 : Int)), (7, .slice tA (tellsL ags o).length tc), (8, .int .i64 (if o.isSome then 0 else 11)), (13, .int .i64 (k : Int)), (14, .slice lA Ls.length lc), (15, .int .i64 (g : Int))]) (fun g => .row 25 1 lA Ls.length lc (Ls.map Sl.val) :: .row 3 1 tA (tellsL ags o).length tc (ints (tellsL ags o)) :: .row 24 5 aA ags.length ac (ags.flatMap Ag.cells) :: (Ls.map Sl.res ++ [])) (0) ⟨Nat.zero_le _, fun j u h => absurd h (by omega)⟩ (by repeat (first | exact Sub.nil _ | refine Sub.cons rfl ?_)) (by repeat (first | exact Pck.nil _ | exact Pck.refl _ | (apply Pck.cons; focus ((repeat (first | exact Rem.here _ | apply Rem.there)); done)) | refine Pck.skip _ ?_)) ?_
    rintro i ⟨hil, hI⟩
    try dsimp only
    refine cod_seq ?_
    refine cod_seq ?_
    refine cod_region ?_
    refine lst_move rfl rfl ?_
    refine lst_move rfl rfl ?_
    refine lst_len rfl rfl Tryd.underlying49 ?_
    refine lst_int rfl rfl rfl bin_lss ?_
    refine lst_nil ?_
    refine ex_then ?_
    refine cod_cond_dec rfl (fun hc2 => ?_) (fun hc2 => ?_)
    · skip
      have hi' : i < Ls.length := by omega
      refine cod_know (φ := ∃ g, lA = some ⟨g, 0, none⟩) (fun a w ha => row_some (ha.own _ (InR.mem (A := lA))) (by omega)) (fun hgL => ?_)
      obtain ⟨gL, rfl⟩ := hgL
      obtain ⟨s, hs⟩ : ∃ s, Ls[i]? = some s := ⟨_, List.getElem?_eq_getElem hi'⟩
      have hsx : (strs ags.length k)[i]? = some s.l := by rw [← hLs, List.getElem?_map, hs]; rfl
      have hsm : s ∈ Ls := List.mem_of_getElem? hs
      have hsl := (strs_mem (List.mem_of_getElem? hsx)).1
      refine cod_know (φ := s.l.length ≤ s.c) (fun a w ha => ha.cap_le (A := s.A) (e := 3) (size := 1) (xs := ints s.l) (by have hm : Res.row 3 1 s.A s.l.length s.c (ints s.l) ∈ Ls.map Sl.res := List.mem_map.2 ⟨s, hsm, rfl⟩; simp [hm])) (fun hcap => ?_)
      refine cod_skip ?_
      refine ex_then ?_
      refine cod_seq ?_
      refine cod_block ?_
      refine cod_seq ?_
      refine cod_region ?_
      refine lst_move rfl rfl ?_
      refine lst_move rfl rfl ?_
      refine lst_move rfl rfl ?_
      refine lst_move rfl rfl ?_
      refine lst_index (j := i) rfl rfl rfl Tryd.underlying49 F.ti25 rfl hi' ?_
      refine lst_load_at (v := .slice s.A s.l.length s.c) rfl rfl F.one25 (fun a w ha => row_cell ha (InR.mem (A := some ⟨gL, 0, none⟩)) rfl (by rw [Nat.zero_add]; exact vals_get hs)) ?_
      refine lst_move rfl rfl ?_
      refine lst_int rfl rfl rfl (fun w => bin_sub w (wrap_i64' ((k : Int) - 1) (by omega) (by omega))) ?_
      refine lst_slice_h (h := k - 1) rfl rfl rfl Tryd.underlying25 F.ti3 (by omega) (by omega) ?_
      refine lst_fn0 (vs := [_, _, _]) rfl rfl F.ent36 (fun a w ha => by
        have h := follows_c aA s.A ac s.c m1 ags (s.l.take (k - 1)) hok (by omega) (by rw [List.length_take]; omega) w (row_reads ha (cells := Ag.cells) (size := 5) (e := 24) (c := ac) (n := ags.length) (fun _ => rfl) (InR.mem (A := aA)) rfl) (RdL.take (row_reads ha (cells := ncell) (size := 1) (e := 3) (c := s.c) (n := s.l.length) (fun _ => rfl) (by have hm : Res.row 3 1 s.A s.l.length s.c (ints s.l) ∈ Ls.map Sl.res := List.mem_map.2 ⟨s, hsm, rfl⟩; rw [← ints_flat]; simp [hm]) rfl) (k - 1))
        rw [List.length_take, show min (k - 1) s.l.length = k - 1 by omega] at h
        exact h) ?_
      refine lst_move rfl rfl ?_
      refine lst_extract rfl rfl rfl ?_
      refine lst_extract rfl rfl rfl ?_
      refine lst_assign rfl rfl ?_
      refine lst_assign rfl rfl ?_
      refine lst_nil ?_
      refine ex_then ?_
      refine cod_seq ?_
      refine cod_region ?_
      refine lst_move rfl rfl ?_
      refine lst_move rfl rfl ?_
      refine lst_move rfl rfl ?_
      refine lst_move rfl rfl ?_
      refine lst_index (j := i) rfl rfl rfl Tryd.underlying49 F.ti25 rfl hi' ?_
      refine lst_load_at (v := .slice s.A s.l.length s.c) rfl rfl F.one25 (fun a w ha => row_cell ha (InR.mem (A := some ⟨gL, 0, none⟩)) rfl (by rw [Nat.zero_add]; exact vals_get hs)) ?_
      refine lst_move rfl rfl ?_
      refine lst_int rfl rfl rfl (fun w => bin_sub w (wrap_i64' ((k : Int) - 1) (by omega) (by omega))) ?_
      refine lst_slice_h (h := k - 1) rfl rfl rfl Tryd.underlying25 F.ti3 (by omega) (by omega) ?_
      refine lst_fn0 (vs := [_, _, _]) rfl rfl F.ent36 (fun a w ha => by
        have h := follows_c aA s.A ac s.c m2 ags (s.l.take (k - 1)) hok (by omega) (by rw [List.length_take]; omega) w (row_reads ha (cells := Ag.cells) (size := 5) (e := 24) (c := ac) (n := ags.length) (fun _ => rfl) (InR.mem (A := aA)) rfl) (RdL.take (row_reads ha (cells := ncell) (size := 1) (e := 3) (c := s.c) (n := s.l.length) (fun _ => rfl) (by have hm : Res.row 3 1 s.A s.l.length s.c (ints s.l) ∈ Ls.map Sl.res := List.mem_map.2 ⟨s, hsm, rfl⟩; rw [← ints_flat]; simp [hm]) rfl) (k - 1))
        rw [List.length_take, show min (k - 1) s.l.length = k - 1 by omega] at h
        exact h) ?_
      refine lst_move rfl rfl ?_
      refine lst_extract rfl rfl rfl ?_
      refine lst_extract rfl rfl rfl ?_
      refine lst_assign rfl rfl ?_
      refine lst_assign rfl rfl ?_
      refine lst_nil ?_
      refine ex_then ?_
      refine cod_seq ?_
      refine cod_region ?_
      refine lst_move rfl rfl ?_
      refine lst_move rfl rfl ?_
      refine lst_move rfl rfl ?_
      refine lst_move rfl rfl ?_
      refine lst_index (j := i) rfl rfl rfl Tryd.underlying49 F.ti25 rfl hi' ?_
      refine lst_load_at (v := .slice s.A s.l.length s.c) rfl rfl F.one25 (fun a w ha => row_cell ha (InR.mem (A := some ⟨gL, 0, none⟩)) rfl (by rw [Nat.zero_add]; exact vals_get hs)) ?_
      refine lst_fn0 (vs := [_, _, _]) rfl rfl F.ent36 (fun a w ha => follows_c aA s.A ac s.c m1 ags s.l hok (by omega) (by omega) w (row_reads ha (cells := Ag.cells) (size := 5) (e := 24) (c := ac) (n := ags.length) (fun _ => rfl) (InR.mem (A := aA)) rfl) (row_reads ha (cells := ncell) (size := 1) (e := 3) (c := s.c) (n := s.l.length) (fun _ => rfl) (by have hm : Res.row 3 1 s.A s.l.length s.c (ints s.l) ∈ Ls.map Sl.res := List.mem_map.2 ⟨s, hsm, rfl⟩; rw [← ints_flat]; simp [hm]) rfl)) ?_
      refine lst_move rfl rfl ?_
      refine lst_extract rfl rfl rfl ?_
      refine lst_extract rfl rfl rfl ?_
      refine lst_assign rfl rfl ?_
      refine lst_assign rfl rfl ?_
      refine lst_nil ?_
      refine ex_then ?_
      refine cod_seq ?_
      refine cod_region ?_
      refine lst_move rfl rfl ?_
      refine lst_move rfl rfl ?_
      refine lst_move rfl rfl ?_
      refine lst_move rfl rfl ?_
      refine lst_index (j := i) rfl rfl rfl Tryd.underlying49 F.ti25 rfl hi' ?_
      refine lst_load_at (v := .slice s.A s.l.length s.c) rfl rfl F.one25 (fun a w ha => row_cell ha (InR.mem (A := some ⟨gL, 0, none⟩)) rfl (by rw [Nat.zero_add]; exact vals_get hs)) ?_
      refine lst_fn0 (vs := [_, _, _]) rfl rfl F.ent36 (fun a w ha => follows_c aA s.A ac s.c m2 ags s.l hok (by omega) (by omega) w (row_reads ha (cells := Ag.cells) (size := 5) (e := 24) (c := ac) (n := ags.length) (fun _ => rfl) (InR.mem (A := aA)) rfl) (row_reads ha (cells := ncell) (size := 1) (e := 3) (c := s.c) (n := s.l.length) (fun _ => rfl) (by have hm : Res.row 3 1 s.A s.l.length s.c (ints s.l) ∈ Ls.map Sl.res := List.mem_map.2 ⟨s, hsm, rfl⟩; rw [← ints_flat]; simp [hm]) rfl)) ?_
      refine lst_move rfl rfl ?_
      refine lst_extract rfl rfl rfl ?_
      refine lst_extract rfl rfl rfl ?_
      refine lst_assign rfl rfl ?_
      refine lst_assign rfl rfl ?_
      refine lst_nil ?_
      refine ex_then ?_
      refine cod_seq ?_
      refine cod_region ?_
      refine lst_cut1 9 134 (.bool (tq ags m1 m2 s.l)) ?_ ?_
      · skip
        refine lst_move rfl rfl ?_
        refine lst_move rfl rfl ?_
        refine lst_split_bool (t := 127) rfl (fun hg127 => ?_) (fun hg127 => ?_)
        · skip
          refine lst_on rfl rfl ?_
          refine lst_move rfl rfl ?_
          refine lst_pick_true rfl rfl rfl ?_
          refine lst_move rfl rfl ?_
          refine lst_split_bool (t := 130) rfl (fun hg130 => ?_) (fun hg130 => ?_)
          · skip
            refine lst_on rfl rfl ?_
            refine lst_move rfl rfl ?_
            refine lst_on rfl rfl ?_
            refine lst_move rfl rfl ?_
            refine lst_on rfl rfl ?_
            refine lst_bin rfl rfl rfl (run_neq_bool Tryd.underlying4 _ _ _ _) ?_
            refine lst_pick_true rfl rfl rfl ?_
            refine lst_nil ?_
            exact ex_cut (.cons (by have htk : s.l.dropLast = s.l.take (k - 1) := (by rw [List.dropLast_eq_take, hsl]); simp_all [look, tq]) (by repeat (first | exact Sub.nil _ | refine Sub.cons rfl ?_))) (by repeat (first | exact List.Sublist.refl _ | exact List.nil_sublist _ | refine List.Sublist.cons_cons _ ?_ | refine List.Sublist.cons _ ?_))
          · skip
            refine lst_off rfl rfl rfl ?_
            refine lst_off rfl rfl rfl ?_
            refine lst_off rfl rfl rfl ?_
            refine lst_pick_false rfl rfl rfl ?_
            refine lst_nil ?_
            exact ex_cut (.cons (by have htk : s.l.dropLast = s.l.take (k - 1) := (by rw [List.dropLast_eq_take, hsl]); simp_all [look, tq]) (by repeat (first | exact Sub.nil _ | refine Sub.cons rfl ?_))) (by repeat (first | exact List.Sublist.refl _ | exact List.nil_sublist _ | refine List.Sublist.cons_cons _ ?_ | refine List.Sublist.cons _ ?_))
        · skip
          refine lst_off rfl rfl rfl ?_
          refine lst_pick_false rfl rfl rfl ?_
          refine lst_move rfl rfl ?_
          refine lst_split_bool (t := 130) rfl (fun hg130 => ?_) (fun hg130 => ?_)
          · skip
            refine lst_on rfl rfl ?_
            refine lst_move rfl rfl ?_
            refine lst_on rfl rfl ?_
            refine lst_move rfl rfl ?_
            refine lst_on rfl rfl ?_
            refine lst_bin rfl rfl rfl (run_neq_bool Tryd.underlying4 _ _ _ _) ?_
            refine lst_pick_true rfl rfl rfl ?_
            refine lst_nil ?_
            exact ex_cut (.cons (by have htk : s.l.dropLast = s.l.take (k - 1) := (by rw [List.dropLast_eq_take, hsl]); simp_all [look, tq]) (by repeat (first | exact Sub.nil _ | refine Sub.cons rfl ?_))) (by repeat (first | exact List.Sublist.refl _ | exact List.nil_sublist _ | refine List.Sublist.cons_cons _ ?_ | refine List.Sublist.cons _ ?_))
          · skip
            refine lst_off rfl rfl rfl ?_
            refine lst_off rfl rfl rfl ?_
            refine lst_off rfl rfl rfl ?_
            refine lst_pick_false rfl rfl rfl ?_
            refine lst_nil ?_
            exact ex_cut (.cons (by have htk : s.l.dropLast = s.l.take (k - 1) := (by rw [List.dropLast_eq_take, hsl]); simp_all [look, tq]) (by repeat (first | exact Sub.nil _ | refine Sub.cons rfl ?_))) (by repeat (first | exact List.Sublist.refl _ | exact List.nil_sublist _ | refine List.Sublist.cons_cons _ ?_ | refine List.Sublist.cons _ ?_))
      refine lst_nil ?_
      refine ex_then ?_
      refine cod_cond_bool rfl (fun hc3 => ?_) (fun hc3 => ?_)
      · skip
        obtain ⟨ho1, hkh⟩ := (tells_spec hfo).at hk5 hsx hc3 hK hI
        obtain ⟨kk, rfl⟩ := Option.isSome_iff_exists.1 ho1
        refine cod_seq ?_
        refine cod_region ?_
        refine lst_move rfl rfl ?_
        refine lst_int rfl rfl rfl bin_eql ?_
        refine lst_move rfl rfl ?_
        refine lst_on rfl rfl ?_
        refine lst_move rfl rfl ?_
        refine lst_on rfl rfl ?_
        refine lst_move rfl rfl ?_
        refine lst_on rfl rfl ?_
        refine lst_move rfl rfl ?_
        refine lst_on rfl rfl ?_
        refine lst_index (j := i) rfl rfl rfl Tryd.underlying49 F.ti25 rfl hi' ?_
        refine lst_on rfl rfl ?_
        refine lst_load_at (v := .slice s.A s.l.length s.c) rfl rfl F.one25 (fun a w ha => row_cell ha (InR.mem (A := some ⟨gL, 0, none⟩)) rfl (by rw [Nat.zero_add]; exact vals_get hs)) ?_
        refine lst_on rfl rfl ?_
        refine lst_fn0 (v := .bool true) (vs := [_, _]) rfl rfl F.ent32 (fun a w ha => by
          have hr1 : RdL ncell 1 w tA (tellsL ags (some kk)) := row_reads ha (cells := ncell) (size := 1) (e := 3) (c := tc) (n := (tellsL ags (some kk)).length) (fun _ => rfl) (by rw [← ints_flat]; exact List.mem_cons.2 (.inr (List.mem_cons.2 (.inl rfl)))) rfl
          have h := eqInts_c tA s.A tc s.c ((tellsL ags (some kk)).map fun (n : Nat) => (n : Int)) (s.l.map fun (n : Nat) => (n : Int)) (by rw [List.length_map, hkh]; omega) w hr1.cast (RdL.cast (row_reads ha (cells := ncell) (size := 1) (e := 3) (c := s.c) (n := s.l.length) (fun _ => rfl) (by have hm : Res.row 3 1 s.A s.l.length s.c (ints s.l) ∈ Ls.map Sl.res := List.mem_map.2 ⟨s, hsm, rfl⟩; rw [← ints_flat]; simp [hm]) rfl))
          rw [List.length_map, List.length_map] at h
          exact h.mono (fun e w' h => ⟨h.1.trans (by rw [hkh]; simp), h.2⟩)) ?_
        refine lst_pick_true rfl rfl rfl ?_
        refine lst_move rfl rfl ?_
        refine lst_on rfl rfl ?_
        refine lst_fn0 (vs := []) rfl rfl F.ent21 (fun a w ha => fined_c w) ?_
        refine lst_pick_true rfl rfl rfl ?_
        refine lst_assign rfl rfl ?_
        refine lst_nil ?_
        refine ex_then ?_
        refine cod_ret ?_
        refine ex_block_ret ?_
        refine ex_then_ret ?_
        refine ex_then_ret ?_
        refine ex_block_ret ?_
        refine ex_block_ret ?_
        refine ex_then_ret ?_
        refine ex_then_ret ?_
        refine ex_block_ret ?_
        refine ex_then_ret ?_
        exact ex_ret rfl (fun a w ha => res_one rfl rfl ha) (fun a w ha => ⟨rfl, ha.grown (List.nil_sublist _)⟩)
      · skip
        refine cod_skip ?_
        refine ex_block_normal ?_
        refine ex_then ?_
        refine cod_region ?_
        refine lst_move rfl rfl ?_
        refine lst_int rfl rfl rfl (fun w => bin_add w (wrap_i64' _ (by omega) (by have h1 := strs_le (n := ags.length) (k := k) (by omega) hk5; have h2 : Ls.length = (strs ags.length k).length := (by rw [← hLs, List.length_map]); omega))) ?_
        refine lst_assign rfl rfl ?_
        refine lst_nil ?_
        refine ex_round' (i + 1) ⟨by omega, fun j u hj hju => ?_⟩ (by (try dsimp only); omega) (by repeat (first | exact Sub.nil _ | refine Sub.cons rfl ?_)) (by repeat (first | exact Pck.nil _ | exact Pck.refl _ | (apply Pck.cons; focus ((repeat (first | exact Rem.here _ | apply Rem.there)); done)) | refine Pck.skip _ ?_))
        rcases Nat.lt_or_ge j i with h | h
        · exact hI j u h hju
        · obtain rfl : j = i := by omega
          rw [hsx] at hju
          cases hju
          exact hc3
    · skip
      obtain rfl : i = Ls.length := by omega
      have hLl : Ls.length = (strs ags.length k).length := by rw [← hLs, List.length_map]
      refine cod_exit ?_
      refine ex_then_exit ?_
      refine ex_then_exit ?_
      refine ex_block_exit ?_
      refine ex_block_normal ?_
      refine ex_then ?_
      refine cod_region ?_
      refine lst_move rfl rfl ?_
      refine lst_int rfl rfl rfl (fun w => bin_add w (wrap_i64' _ (by omega) (by omega))) ?_
      refine lst_assign rfl rfl ?_
      refine lst_nil ?_
      refine ex_round' (k + 1) ⟨by omega, by omega, fun u hu hul => ?_⟩ (by (try dsimp only); omega) (by repeat (first | exact Sub.nil _ | refine Sub.cons rfl ?_)) (by repeat (first | exact Pck.nil _ | exact Pck.refl _ | (apply Pck.cons; focus ((repeat (first | exact Rem.here _ | apply Rem.there)); done)) | refine Pck.skip _ ?_))
      rcases Nat.lt_or_ge u.length k with h | h
      · exact hK u hu h
      · obtain ⟨j, hj⟩ := List.getElem?_of_mem (strs_all hu (show u.length = k by omega))
        exact hI j u (by rw [hLl]; exact (List.getElem?_eq_some_iff.1 hj).1) hj
  · skip
    obtain rfl : k = 6 := by omega
    have ho := (tells_spec hfo).none_of hK
    subst ho
    refine cod_exit ?_
    refine ex_then_exit ?_
    refine ex_then_exit ?_
    refine ex_block_exit ?_
    refine ex_then ?_
    refine cod_seq ?_
    refine cod_region ?_
    refine lst_move rfl rfl ?_
    refine lst_int rfl rfl rfl bin_eql ?_
    refine lst_move rfl rfl ?_
    refine lst_on rfl rfl ?_
    refine lst_move rfl rfl ?_
    refine lst_on rfl rfl ?_
    refine lst_len rfl rfl Tryd.underlying25 ?_
    refine lst_on rfl rfl ?_
    refine lst_int rfl rfl rfl bin_eql ?_
    refine lst_pick_true rfl rfl rfl ?_
    refine lst_move rfl rfl ?_
    refine lst_on rfl rfl ?_
    refine lst_fn0 (vs := []) rfl rfl F.ent21 (fun a w ha => fined_c w) ?_
    refine lst_pick_true rfl rfl rfl ?_
    refine lst_assign rfl rfl ?_
    refine lst_nil ?_
    refine ex_then ?_
    refine cod_ret ?_
    exact ex_ret rfl (fun a w ha => res_one rfl rfl ha) (fun a w ha => ⟨rfl, ha.grown (List.nil_sublist _)⟩)

end Go.Proofs.YtofkhehcnfiopaaDoor.N
