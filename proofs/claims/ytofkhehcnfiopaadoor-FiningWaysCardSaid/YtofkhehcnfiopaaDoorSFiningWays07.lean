/- Parts of the walks of the laws on fining, those that FiningWays needs: Opt, Opt2, Ch, Clr, F22, Clr2, RchP, ReachW, ReachG, ReachM, F23, Ned, ReachR, F60, Sx7, More, F25, Sx8, Shuf, ReaP, F61, ShoP, Ref. -/
import Derived.Test.YtofkhehcnfiopaaDoorSFiningWays06
import Derived.Test.YtofkhehcnfiopaaDoorSFiningWays05
import Derived.Test.YtofkhehcnfiopaaDoorSFiningWays04
import Derived.Test.YtofkhehcnfiopaaDoorProg
import Derived.Test.YtofkhehcnfiopaaDoorSFiningWays03
namespace Go.Proofs.YtofkhehcnfiopaaDoor.N
open Go Go.RowKit Go.Proofs
set_option linter.unusedSectionVars false
variable [I : Sys]
/-! The cheapest ways: prices that rounds come to are the least ones. -/
def lexle (c k c' k' : Nat) : Prop := c < c' ∨ (c = c' ∧ k ≤ k')
theorem lexle.trans {a b c d e f : Nat} (h : lexle a b c d) (h' : lexle c d e f) : lexle a b e f := by
  unfold lexle at *
  omega
theorem lexle.refl (a b : Nat) : lexle a b a b := Or.inr ⟨rfl, Nat.le_refl _⟩
theorem lexle.add {c k c' k' : Nat} (h : lexle c k c' k') (x : Nat) : lexle (c + x) (k + 1) (c' + x) (k' + 1) := by
  unfold lexle at *
  omega
theorem lexle.sub {c k c' k' x : Nat} (h : lexle (c + x) (k + 1) (c' + x) (k' + 1)) : lexle c k c' k' := by
  unfold lexle at *
  omega
theorem lexle.anti {c k c' k' : Nat} (h : lexle c k c' k') (h' : lexle c' k' c k) : c = c' ∧ k = k' := by
  unfold lexle at *
  omega
/-- What some way that clears a melt costs, and how many agents it has. -/
inductive Wy (ags : List Ag) (used p : Nat) : Nat → Nat → Nat → Prop
  | done {f : Nat} : nn f p = 0 → Wy ags used p f 0 0
  | step {f i c k : Nat} : i ∈ canTo ags used f ags.length → Wy ags used p (putN (ags.getD i default) f) c k → Wy ags used p f (c + (ags.getD i default).cost) (k + 1)
def Has (ps : List Pr) (f c k : Nat) : Prop := (ps.getD f default).known = true ∧ lexle (ps.getD f default).cost (ps.getD f default).puts c k
def Snd (ags : List Ag) (used p : Nat) (ps : List Pr) : Prop := ∀ f, f < 64 → (ps.getD f default).known = true → Wy ags used p f (ps.getD f default).cost (ps.getD f default).puts
def Min (ags : List Ag) (used p : Nat) (ps : List Pr) : Prop := ∀ f, f < 64 → ∀ c k, Wy ags used p f c k → Has ps f c k
def Le (ps qs : List Pr) : Prop := ∀ f, (ps.getD f default).known = true → Has qs f (ps.getD f default).cost (ps.getD f default).puts
theorem Le.refl (ps : List Pr) : Le ps ps := fun _ h => ⟨h, lexle.refl _ _⟩
theorem Has.le {ps qs : List Pr} {f c k : Nat} (h : Has ps f c k) (hl : Le ps qs) : Has qs f c k := by
  obtain ⟨h1, h2⟩ := h
  obtain ⟨h3, h4⟩ := hl f h1
  exact ⟨h3, h4.trans h2⟩
theorem Le.trans {ps qs rs : List Pr} (h : Le ps qs) (h' : Le qs rs) : Le ps rs := fun f hf => (h f hf).le h'
theorem lessP_true {a b : Pr} (h : lessP a b = true) : a.known = true ∧ (b.known = true → lexle a.cost a.puts b.cost b.puts ∧ ¬ lexle b.cost b.puts a.cost a.puts) := by
  unfold lessP at h
  simp at h
  refine ⟨h.1, fun hb => ?_⟩
  have h2 := h.2
  rw [hb] at h2
  simp at h2
  unfold lexle
  omega
theorem lessP_false {a b : Pr} (h : lessP a b = false) (ha : a.known = true) : b.known = true ∧ lexle b.cost b.puts a.cost a.puts := by
  unfold lessP at h
  rw [ha] at h
  cases hb : b.known with
  | false => rw [hb] at h; simp at h
  | true =>
    rw [hb] at h
    simp at h
    refine ⟨rfl, ?_⟩
    unfold lexle
    omega
theorem getP_set {ps : List Pr} {f g : Nat} {x : Pr} (hf : f < ps.length) : (ps.set f x).getD g default = if f = g then x else ps.getD g default := by
  rw [List.getD_eq_getElem?_getD, List.getElem?_set, List.getD_eq_getElem?_getD]
  by_cases e : f = g
  · subst e
    rw [if_pos rfl, if_pos rfl, if_pos hf]; rfl
  · rw [if_neg e, if_neg e]
variable {ags : List Ag} {used p : Nat}
theorem relax_len {f i : Nat} {s : List Pr × Bool} : (relax ags f s i).1.length = s.1.length := by
  unfold relax
  split
  · simp
  · rfl
theorem relaxF_len {f : Nat} : ∀ (l : List Nat) (s : List Pr × Bool), (relaxF ags f s l).1.length = s.1.length
  | [], _ => rfl
  | i :: l, s => by
    have := relaxF_len (f := f) l (relax ags f s i)
    unfold relaxF at this ⊢
    rw [List.foldl_cons, this, relax_len]
theorem roundP_len {ps : List Pr} : ∀ k, (roundP ags used ps k).1.length = ps.length
  | 0 => rfl
  | k + 1 => by
    unfold roundP
    rw [relaxF_len, roundP_len k]
theorem initP_len (p k : Nat) : (initP p k).length = 64 := by simp [initP]
theorem iterP_len : ∀ j, (iterP ags used p j).length = 64
  | 0 => initP_len p 64
  | j + 1 => by
    unfold iterP
    rw [roundP_len, iterP_len j]
/-! No price rises. -/
theorem relax_le {f i : Nat} {s : List Pr × Bool} (hf : f < s.1.length) : Le s.1 (relax ags f s i).1 := by
  unfold relax
  split
  · rename_i h
    intro g hg
    obtain ⟨h1, h2⟩ := lessP_true h
    unfold Has
    rw [getP_set hf]
    by_cases e : f = g
    · subst e
      rw [if_pos rfl]
      exact ⟨h1, (h2 hg).1⟩
    · rw [if_neg e]
      exact ⟨hg, lexle.refl _ _⟩
  · exact Le.refl _
theorem relaxF_le {f : Nat} : ∀ (l : List Nat) (s : List Pr × Bool), f < s.1.length → Le s.1 (relaxF ags f s l).1
  | [], s, _ => Le.refl _
  | i :: l, s, hf => by
    have h1 := relax_le (ags := ags) (i := i) hf
    have h2 := relaxF_le (f := f) l (relax ags f s i) (by rw [relax_len]; exact hf)
    unfold relaxF at h2 ⊢
    rw [List.foldl_cons]
    exact h1.trans h2
theorem roundP_le {ps : List Pr} (hl : ps.length = 64) : ∀ k, k ≤ 64 → Le ps (roundP ags used ps k).1
  | 0, _ => Le.refl _
  | k + 1, hk => by
    refine (roundP_le hl k (by omega)).trans ?_
    show Le (roundP ags used ps k).1 (relaxF ags k (roundP ags used ps k) (canTo ags used k ags.length)).1
    exact relaxF_le _ _ (by rw [roundP_len, hl]; omega)
theorem roundP_le_from {ps : List Pr} (hl : ps.length = 64) {k : Nat} : ∀ d, k + d ≤ 64 → Le (roundP ags used ps k).1 (roundP ags used ps (k + d)).1
  | 0, _ => Le.refl _
  | d + 1, hk => by
    refine (roundP_le_from hl d (by omega)).trans ?_
    show Le (roundP ags used ps (k + d)).1 (relaxF ags (k + d) (roundP ags used ps (k + d)) (canTo ags used (k + d) ags.length)).1
    exact relaxF_le _ _ (by rw [roundP_len, hl]; omega)
theorem iterP_le : ∀ j, Le (initP p 64) (iterP ags used p j)
  | 0 => Le.refl _
  | j + 1 => (iterP_le j).trans (show Le (iterP ags used p j) (roundP ags used (iterP ags used p j) 64).1 from roundP_le (iterP_len j) 64 (Nat.le_refl _))
/-! Each price is that of a way. -/
theorem Snd.relax {f i : Nat} {s : List Pr × Bool} (hok : Oks ags) (h : Snd ags used p s.1) (hl : s.1.length = 64) (hf : f < 64) (hi : i ∈ canTo ags used f ags.length) : Snd ags used p (relax ags f s i).1 := by
  unfold Go.Proofs.YtofkhehcnfiopaaDoor.N.relax
  split
  · rename_i hlt
    obtain ⟨h1, _⟩ := lessP_true hlt
    intro g hg hk
    rw [getP_set (by omega)] at hk ⊢
    by_cases e : f = g
    · subst e
      rw [if_pos rfl] at hk ⊢
      have ha : (ags.getD i default).ok := by
        have := (canTo_mem hi).1
        rw [List.getD_eq_getElem?_getD, List.getElem?_eq_getElem this]
        exact hok.2 _ (List.getElem_mem this)
      exact Wy.step hi (h _ (putN_lt ha hf) h1)
    · rw [if_neg e] at hk ⊢
      exact h g hg hk
  · exact h
theorem Snd.relaxF {f : Nat} (hok : Oks ags) (hf : f < 64) : ∀ (l : List Nat) (s : List Pr × Bool), (∀ i ∈ l, i ∈ canTo ags used f ags.length) → s.1.length = 64 → Snd ags used p s.1 → Snd ags used p (relaxF ags f s l).1
  | [], s, _, _, h => h
  | i :: l, s, hm, hl, h => by
    have h1 := Snd.relaxF hok hf l (Go.Proofs.YtofkhehcnfiopaaDoor.N.relax ags f s i) (fun j hj => hm j (List.mem_cons_of_mem _ hj)) (by rw [relax_len, hl]) (h.relax hok hl hf (hm i List.mem_cons_self))
    unfold Go.Proofs.YtofkhehcnfiopaaDoor.N.relaxF at h1 ⊢
    rw [List.foldl_cons]
    exact h1
theorem Snd.round {ps : List Pr} (hok : Oks ags) (hl : ps.length = 64) (h : Snd ags used p ps) : ∀ k, k ≤ 64 → Snd ags used p (roundP ags used ps k).1
  | 0, _ => h
  | k + 1, hk => by
    unfold roundP
    exact Snd.relaxF hok (by omega) _ _ (fun _ hi => hi) (by rw [roundP_len, hl]) (Snd.round hok hl h k (by omega))
theorem initP_getD {f : Nat} (hf : f < 64) : (initP p 64).getD f default = ⟨0, 0, decide (nn f p = 0)⟩ := by
  unfold initP
  simp [List.getD_eq_getElem?_getD, hf]
theorem Snd.iter (hok : Oks ags) : ∀ j, Snd ags used p (iterP ags used p j)
  | 0 => by
    intro f hf hk
    unfold iterP at hk ⊢
    rw [initP_getD hf] at hk ⊢
    exact Wy.done (by simpa using hk)
  | j + 1 => by
    unfold iterP
    exact (Snd.iter hok j).round hok (iterP_len j) 64 (Nat.le_refl _)
/-! What a round comes to. -/
theorem relax_has {f i : Nat} {s : List Pr × Bool} (hf : f < s.1.length) (hk : (s.1.getD (putN (ags.getD i default) f) default).known = true) :
    Has (relax ags f s i).1 f ((s.1.getD (putN (ags.getD i default) f) default).cost + (ags.getD i default).cost) ((s.1.getD (putN (ags.getD i default) f) default).puts + 1) := by
  unfold relax
  split
  · rename_i h
    unfold Has
    rw [getP_set hf, if_pos rfl]
    exact ⟨hk, lexle.refl _ _⟩
  · rename_i h
    have h' := lessP_false (by simpa using h) (show (afterP s.1 (ags.getD i default) f).known = true from hk)
    exact h'
theorem relaxF_has {f i : Nat} : ∀ (l : List Nat) (s : List Pr × Bool), f < s.1.length → i ∈ l → (s.1.getD (putN (ags.getD i default) f) default).known = true →
    Has (relaxF ags f s l).1 f ((s.1.getD (putN (ags.getD i default) f) default).cost + (ags.getD i default).cost) ((s.1.getD (putN (ags.getD i default) f) default).puts + 1)
  | [], s, _, hi, _ => by cases hi
  | x :: l, s, hf, hi, hk => by
    have hf' : f < (relax ags f s x).1.length := by rw [relax_len]; exact hf
    have hle := relax_le (ags := ags) (i := x) hf
    have h2 := relaxF_le (ags := ags) (f := f) l (relax ags f s x) hf'
    by_cases e : i = x
    · subst e
      have h1 := relax_has (ags := ags) (i := i) hf hk
      unfold relaxF at h2 ⊢
      rw [List.foldl_cons]
      exact h1.le h2
    · have hi' : i ∈ l := by
        rcases List.mem_cons.1 hi with h | h
        · exact absurd h e
        · exact h
      obtain ⟨k1, k2⟩ := hle _ hk
      have h3 := relaxF_has l (relax ags f s x) hf' hi' k1
      unfold relaxF at h3 ⊢
      rw [List.foldl_cons]
      exact ⟨h3.1, h3.2.trans (k2.add _)⟩
theorem roundP_has {ps : List Pr} (hl : ps.length = 64) {f i : Nat} (hf : f < 64) (hi : i ∈ canTo ags used f ags.length) (hk : (ps.getD (putN (ags.getD i default) f) default).known = true) :
    Has (roundP ags used ps 64).1 f ((ps.getD (putN (ags.getD i default) f) default).cost + (ags.getD i default).cost) ((ps.getD (putN (ags.getD i default) f) default).puts + 1) := by
  have h1 := roundP_le (ags := ags) (used := used) hl f (by omega)
  obtain ⟨k1, k2⟩ := h1 _ hk
  have h2 : Has (roundP ags used ps (f + 1)).1 f _ _ := relaxF_has (f := f) _ (roundP ags used ps f) (by rw [roundP_len, hl]; exact hf) hi k1
  have h3 : Has (roundP ags used ps (f + 1)).1 f ((ps.getD (putN (ags.getD i default) f) default).cost + (ags.getD i default).cost) ((ps.getD (putN (ags.getD i default) f) default).puts + 1) := ⟨h2.1, h2.2.trans (k2.add _)⟩
  have h4 := roundP_le_from (ags := ags) (used := used) hl (k := f + 1) (63 - f) (by omega)
  rw [show f + 1 + (63 - f) = 64 by omega] at h4
  exact h3.le h4
theorem iter_has (hok : Oks ags) : ∀ {f c k : Nat}, Wy ags used p f c k → f < 64 → ∀ j, k ≤ j → Has (iterP ags used p j) f c k := by
  intro f c k h
  induction h with
  | done h =>
    intro hf j _
    have h1 := iterP_le (ags := ags) (used := used) (p := p) j
    have h2 := h1 _ (by rw [initP_getD hf]; simpa using h)
    rw [initP_getD hf] at h2
    exact h2
  | @step f i c k hi _ ih =>
    intro hf j hj
    obtain ⟨j, rfl⟩ : ∃ j', j = j' + 1 := ⟨j - 1, by omega⟩
    have ha : (ags.getD i default).ok := by
      have := (canTo_mem hi).1
      rw [List.getD_eq_getElem?_getD, List.getElem?_eq_getElem this]
      exact hok.2 _ (List.getElem_mem this)
    obtain ⟨k1, k2⟩ := ih (putN_lt ha hf) j (by omega)
    have h1 := roundP_has (used := used) (iterP_len (ags := ags) (used := used) (p := p) j) hf hi k1
    unfold iterP
    exact ⟨h1.1, h1.2.trans (k2.add _)⟩
/-! The least price, and that its way is short. -/
theorem least {q : Nat → Prop} : ∀ n, q n → ∃ m, q m ∧ ∀ k, q k → m ≤ k := by
  intro n
  induction n using Nat.strongRecOn with
  | ind n ih =>
    intro hn
    by_cases h : ∃ m, m < n ∧ q m
    · obtain ⟨m, h1, h2⟩ := h
      exact ih m h1 h2
    · exact ⟨n, hn, fun k hk => Nat.le_of_not_lt fun hlt => h ⟨k, hlt, hk⟩⟩
def Opt (ags : List Ag) (used p f c k : Nat) : Prop := Wy ags used p f c k ∧ ∀ c' k', Wy ags used p f c' k' → lexle c k c' k'
theorem Opt.ex {f c k : Nat} (h : Wy ags used p f c k) : ∃ c' k', Opt ags used p f c' k' := by
  obtain ⟨c0, ⟨k0, h0⟩, h1⟩ := least (q := fun c => ∃ k, Wy ags used p f c k) c ⟨k, h⟩
  obtain ⟨k1, h2, h3⟩ := least (q := fun k => Wy ags used p f c0 k) k0 h0
  refine ⟨c0, k1, h2, fun c' k' h' => ?_⟩
  have := h1 c' ⟨k', h'⟩
  rcases Nat.lt_or_eq_of_le this with h4 | h4
  · exact Or.inl h4
  · subst h4
    exact Or.inr ⟨rfl, h3 k' h'⟩
theorem Opt.next (hok : Oks ags) {f c k : Nat} (hf : f < 64) (h : Opt ags used p f c (k + 1)) : ∃ i c', i ∈ canTo ags used f ags.length ∧ c = c' + (ags.getD i default).cost ∧ putN (ags.getD i default) f < 64 ∧ Opt ags used p (putN (ags.getD i default) f) c' k := by
  obtain ⟨h1, h2⟩ := h
  cases h1 with
  | @step _ i c' _ hi hw =>
    have ha : (ags.getD i default).ok := by
      have := (canTo_mem hi).1
      rw [List.getD_eq_getElem?_getD, List.getElem?_eq_getElem this]
      exact hok.2 _ (List.getElem_mem this)
    exact ⟨i, c', hi, rfl, putN_lt ha hf, hw, fun c'' k'' h'' => (h2 _ _ (Wy.step hi h'')).sub⟩
theorem Opt.uniq {f c k c' k' : Nat} (h : Opt ags used p f c k) (h' : Opt ags used p f c' k') : c = c' ∧ k = k' := lexle.anti (h.2 _ _ h'.1) (h'.2 _ _ h.1)
theorem countP_lt {α : Type} {a b : α → Bool} {l : List α} (hab : ∀ x, a x = true → b x = true) : (∃ x ∈ l, b x = true ∧ a x = false) → l.countP a < l.countP b := by
  induction l with
  | nil => rintro ⟨x, h, _⟩; cases h
  | cons y l ih =>
    rintro ⟨x, hx, h1, h2⟩
    have hle : l.countP a ≤ l.countP b := List.countP_mono_left (fun z _ => hab z)
    rw [List.countP_cons, List.countP_cons]
    rcases List.mem_cons.1 hx with e | e
    · subst e
      rw [h1, h2]
      simp
      omega
    · have := ih ⟨x, e, h1, h2⟩
      by_cases ha : a y = true
      · rw [ha, hab y ha]; simp; exact this
      · have : (if a y = true then 1 else 0) = 0 := if_neg ha
        rw [this]
        omega
open Classical in
theorem Opt.level (hok : Oks ags) : ∀ (k f c : Nat), f < 64 → Opt ags used p f c k → k + 1 ≤ (List.range 64).countP (fun g => decide (∃ c k', k' ≤ k ∧ Opt ags used p g c k'))
  | 0, f, c, hf, h => by
    have : 0 < (List.range 64).countP (fun g => decide (∃ c k', k' ≤ 0 ∧ Opt ags used p g c k')) :=
      List.countP_pos_iff.2 ⟨f, List.mem_range.2 hf, by simp only [decide_eq_true_eq]; exact ⟨c, 0, Nat.le_refl _, h⟩⟩
    omega
  | k + 1, f, c, hf, h => by
    obtain ⟨i, c', _, _, hg, ho⟩ := h.next hok hf
    have h1 := Opt.level hok k _ _ hg ho
    have h2 : (List.range 64).countP (fun g => decide (∃ c k', k' ≤ k ∧ Opt ags used p g c k')) < (List.range 64).countP (fun g => decide (∃ c k', k' ≤ k + 1 ∧ Opt ags used p g c k')) := by
      refine countP_lt (fun x hx => ?_) ⟨f, List.mem_range.2 hf, ?_, ?_⟩
      · simp only [decide_eq_true_eq] at hx ⊢
        obtain ⟨c, k', h1, h2⟩ := hx
        exact ⟨c, k', by omega, h2⟩
      · simp only [decide_eq_true_eq]
        exact ⟨c, k + 1, Nat.le_refl _, h⟩
      · simp only [decide_eq_false_iff_not]
        rintro ⟨c2, k2, h3, h4⟩
        have := (h4.uniq h).2
        omega
    omega
theorem Opt.short (hok : Oks ags) {k f c : Nat} (hf : f < 64) (h : Opt ags used p f c k) : k ≤ 63 := by
  have h1 := Opt.level hok k f c hf h
  have h2 := List.countP_le_length (l := List.range 64) (p := fun g => @decide (∃ c k', k' ≤ k ∧ Opt ags used p g c k') (Classical.propDecidable _))
  rw [List.length_range] at h2
  omega
theorem Min.at63 (hok : Oks ags) : Min ags used p (iterP ags used p 63) := by
  intro f hf c k h
  obtain ⟨c', k', ho⟩ := Opt.ex h
  have h1 := iter_has hok ho.1 hf 63 (ho.short hok hf)
  exact ⟨h1.1, h1.2.trans (ho.2 _ _ h)⟩
/-! A round without change. -/
theorem relax_same {f i : Nat} {s : List Pr × Bool} (h : lessP (afterP s.1 (ags.getD i default) f) (s.1.getD f default) = false) : relax ags f s i = s := by
  unfold relax
  rw [h]; simp
theorem not_less {ps : List Pr} {f i : Nat} (hok : Oks ags) (hs : Snd ags used p ps) (hm : Min ags used p ps) (hf : f < 64) (hi : i ∈ canTo ags used f ags.length) : lessP (afterP ps (ags.getD i default) f) (ps.getD f default) = false := by
  cases h : lessP (afterP ps (ags.getD i default) f) (ps.getD f default) with
  | false => rfl
  | true =>
    obtain ⟨h1, h2⟩ := lessP_true h
    have ha : (ags.getD i default).ok := by
      have := (canTo_mem hi).1
      rw [List.getD_eq_getElem?_getD, List.getElem?_eq_getElem this]
      exact hok.2 _ (List.getElem_mem this)
    have hw := Wy.step hi (hs _ (putN_lt ha hf) h1)
    obtain ⟨h3, h4⟩ := hm f hf _ _ hw
    exact absurd h4 (h2 h3).2
theorem relaxF_same {f : Nat} : ∀ (l : List Nat) (s : List Pr × Bool), (∀ i ∈ l, lessP (afterP s.1 (ags.getD i default) f) (s.1.getD f default) = false) → relaxF ags f s l = s
  | [], _, _ => rfl
  | i :: l, s, h => by
    have h1 := relaxF_same (f := f) l s (fun j hj => h j (List.mem_cons_of_mem _ hj))
    unfold relaxF at h1 ⊢
    rw [List.foldl_cons, relax_same (h i List.mem_cons_self), h1]
theorem roundP_same {ps : List Pr} (hok : Oks ags) (hs : Snd ags used p ps) (hm : Min ags used p ps) : ∀ k, k ≤ 64 → roundP ags used ps k = (ps, false)
  | 0, _ => rfl
  | k + 1, hk => by
    unfold roundP
    rw [roundP_same hok hs hm k (by omega)]
    exact relaxF_same _ _ fun i hi => not_less hok hs hm (by omega) hi
theorem round_ends (hok : Oks ags) : (roundP ags used (iterP ags used p 63) 64).2 = false := by
  rw [roundP_same hok (Snd.iter hok 63) (Min.at63 hok) 64 (Nat.le_refl _)]
theorem relaxF_flag {f : Nat} : ∀ (l : List Nat) (s : List Pr × Bool), (relaxF ags f s l).2 = false → s.2 = false ∧ relaxF ags f s l = s ∧ ∀ i ∈ l, lessP (afterP s.1 (ags.getD i default) f) (s.1.getD f default) = false
  | [], s, h => ⟨h, rfl, fun _ hi => by cases hi⟩
  | i :: l, s, h => by
    have e : relaxF ags f s (i :: l) = relaxF ags f (relax ags f s i) l := by unfold relaxF; rw [List.foldl_cons]
    rw [e] at h ⊢
    obtain ⟨h1, h2, h3⟩ := relaxF_flag l _ h
    cases hl : lessP (afterP s.1 (ags.getD i default) f) (s.1.getD f default) with
    | true =>
      unfold relax at h1
      rw [if_pos hl] at h1
      cases h1
    | false =>
      have e2 := relax_same hl
      rw [e2] at h1 h2 h3 ⊢
      refine ⟨h1, h2, fun j hj => ?_⟩
      rcases List.mem_cons.1 hj with e3 | e3
      · subst e3; exact hl
      · exact h3 j e3
theorem roundP_flag {ps : List Pr} : ∀ k, (roundP ags used ps k).2 = false → roundP ags used ps k = (ps, false) ∧ ∀ f, f < k → ∀ i ∈ canTo ags used f ags.length, lessP (afterP ps (ags.getD i default) f) (ps.getD f default) = false
  | 0, _ => ⟨rfl, fun _ h => by omega⟩
  | k + 1, h => by
    unfold roundP at h ⊢
    obtain ⟨h1, h2, h3⟩ := relaxF_flag _ _ h
    obtain ⟨h4, h5⟩ := roundP_flag k h1
    rw [h2, h4]
    refine ⟨rfl, fun f hf i hi => ?_⟩
    rcases Nat.lt_or_ge f k with h6 | h6
    · exact h5 f h6 i hi
    · obtain rfl : f = k := by omega
      rw [h4] at h3
      exact h3 i hi
theorem Min.fix (hok : Oks ags) {j : Nat} (h : (roundP ags used (iterP ags used p j) 64).2 = false) : Min ags used p (iterP ags used p j) := by
  obtain ⟨_, h1⟩ := roundP_flag 64 h
  intro f hf c k hw
  induction hw with
  | done h0 =>
    have h2 := iterP_le (ags := ags) (used := used) (p := p) j _ (by rw [initP_getD hf]; simpa using h0)
    rw [initP_getD hf] at h2
    exact h2
  | @step f i c k hi _ ih =>
    have ha : (ags.getD i default).ok := by
      have := (canTo_mem hi).1
      rw [List.getD_eq_getElem?_getD, List.getElem?_eq_getElem this]
      exact hok.2 _ (List.getElem_mem this)
    obtain ⟨k1, k2⟩ := ih (putN_lt ha hf)
    have h3 := lessP_false (h1 f hf i hi) (show (afterP _ (ags.getD i default) f).known = true from k1)
    exact ⟨h3.1, h3.2.trans (k2.add _)⟩
/-- WHAT THE PRICES ARE: those of the cheapest ways. -/
theorem fix_opt (hok : Oks ags) {j f : Nat} (h : (roundP ags used (iterP ags used p j) 64).2 = false) (hf : f < 64) (hk : ((iterP ags used p j).getD f default).known = true) :
    Opt ags used p f ((iterP ags used p j).getD f default).cost ((iterP ags used p j).getD f default).puts :=
  ⟨Snd.iter hok j f hf hk, fun _ _ hw => (Min.fix hok h f hf _ _ hw).2⟩
theorem fix_known (hok : Oks ags) {j f c k : Nat} (h : (roundP ags used (iterP ags used p j) 64).2 = false) (hf : f < 64) (hw : Wy ags used p f c k) : ((iterP ags used p j).getD f default).known = true := (Min.fix hok h f hf _ _ hw).1
end Go.Proofs.YtofkhehcnfiopaaDoor.N
namespace Go.Proofs.YtofkhehcnfiopaaDoor.N
open Go Go.RowKit Go.Proofs
set_option linter.unusedSectionVars false
variable [I : Sys]
variable {ags : List Ag} {p : Nat}
theorem can_all {f i : Nat} : i ∈ canTo ags (usedAll ags.length) f ags.length ↔ i < ags.length ∧ mayN (ags.getD i default) f = true := by
  constructor
  · intro h
    obtain ⟨h1, _, h3⟩ := canTo_mem h
    exact ⟨h1, h3⟩
  · rintro ⟨h1, h2⟩
    unfold canTo
    refine List.mem_filter.2 ⟨List.mem_range.2 h1, ?_⟩
    rw [usedAll_bit, h2]
    simpa using h1
def costN (ags : List Ag) (l : List Nat) : Nat := (l.map fun i => (ags.getD i default).cost).sum
/-- What Cheapest says. -/
structure ChS (ags : List Ag) (p f : Nat) (W : List Nat) (c E : Nat) : Prop where
  yes : E = 0 → Opt ags (usedAll ags.length) p f c W.length ∧ (∃ e, followN ags f W = some e ∧ nn e p = 0) ∧ costN ags W = c ∧ Wd ags.length W ∧ W.length ≤ 63
  no : E ≠ 0 → E = 11 ∧ c = 0 ∧ W = [] ∧ ∀ c k, ¬ Wy ags (usedAll ags.length) p f c k
theorem ChS.clear {f c E : Nat} {W : List Nat} (h : ChS ags p f W c E) (h0 : nn f p = 0) : E = 0 ∧ c = 0 ∧ W = [] := by
  have hw : Wy ags (usedAll ags.length) p f 0 0 := Wy.done h0
  by_cases hE : E = 0
  · have := (h.yes hE).1.2 _ _ hw
    unfold lexle at this
    refine ⟨hE, by omega, List.length_eq_zero_iff.1 (by omega)⟩
  · exact absurd hw ((h.no hE).2.2.2 0 0)
/-- Whatever is put first, it costs no less. -/
theorem ChS.step {f c E i c' E' : Nat} {W W' : List Nat} (h : ChS ags p f W c E) (hi : i < ags.length) (hm : mayN (ags.getD i default) f = true) (h' : ChS ags p (putN (ags.getD i default) f) W' c' E') (h0 : E' = 0) : E = 0 ∧ c ≤ c' + (ags.getD i default).cost := by
  have hw := Wy.step (can_all.2 ⟨hi, hm⟩) (h'.yes h0).1.1
  by_cases hE : E = 0
  · have := (h.yes hE).1.2 _ _ hw
    unfold lexle at this
    exact ⟨hE, by omega⟩
  · exact absurd hw ((h.no hE).2.2.2 _ _)
/-- With some agent put first, it costs just as much. -/
theorem ChS.some {f c : Nat} {W : List Nat} (hok : Oks ags) (h : ChS ags p f W c 0) (hf : f < 64) (h0 : nn f p ≠ 0) : ∃ i n m, i < ags.length ∧ mayN (ags.getD i default) f = true ∧ Opt ags (usedAll ags.length) p (putN (ags.getD i default) f) n m ∧ n + (ags.getD i default).cost = c := by
  have ho := (h.yes rfl).1
  cases hl : W.length with
  | zero =>
    rw [hl] at ho
    have hw := ho.1
    cases hw with
    | done h1 => exact absurd h1 h0
  | succ k =>
    rw [hl] at ho
    obtain ⟨i, c', hi, hc, _, hog⟩ := ho.next hok hf
    obtain ⟨h1, h2⟩ := can_all.1 hi
    exact ⟨i, c', k, h1, h2, hog, hc.symm⟩
end Go.Proofs.YtofkhehcnfiopaaDoor.N
namespace Go.Proofs.YtofkhehcnfiopaaDoor.N
open Go Go.RowKit Go.Proofs
set_option linter.unusedSectionVars false
variable [I : Sys]
theorem ChS.wd {ags : List Ag} {p f c E : Nat} {W : List Nat} (h : ChS ags p f W c E) : Wd ags.length W := by
  by_cases hE : E = 0
  · exact (h.yes hE).2.2.2.1
  · rw [(h.no hE).2.2.1]
    exact fun i hi => by simp at hi
/-- Whether one of the first agents, put first, makes it cost just as much. -/
def Eqv (ags : List Ag) (p m c i : Nat) (b : Bool) : Prop := b = true ↔ ∃ j, j < i ∧ mayN (ags.getD j default) m = true ∧ ∃ n k, Opt ags (usedAll ags.length) p (putN (ags.getD j default) m) n k ∧ n + (ags.getD j default).cost = c
theorem Eqv.zero {ags : List Ag} {p m c : Nat} : Eqv ags p m c 0 false := ⟨fun h => (by cases h), fun ⟨j, h, _⟩ => absurd h (by omega)⟩
theorem Eqv.skip {ags : List Ag} {p m c i : Nat} {b : Bool} (h : Eqv ags p m c i b) (hn : mayN (ags.getD i default) m = true → ∀ n k, ¬ Opt ags (usedAll ags.length) p (putN (ags.getD i default) m) n k) : Eqv ags p m c (i + 1) b := by
  refine ⟨fun hb => ?_, fun ⟨j, h1, h2, n, k, h3, h4⟩ => ?_⟩
  · obtain ⟨j, h1, h2⟩ := h.1 hb
    exact ⟨j, by omega, h2⟩
  · rcases Nat.lt_or_ge j i with h5 | h5
    · exact h.2 ⟨j, h5, h2, n, k, h3, h4⟩
    · obtain rfl : j = i := by omega
      exact absurd h3 (hn h2 n k)
end Go.Proofs.YtofkhehcnfiopaaDoor.N
namespace Go.Proofs.YtofkhehcnfiopaaDoor.N
open Go Go.RowKit Go.Proofs
set_option linter.unusedSectionVars false
variable [I : Sys]
/-! Whether a melt can be cleared, by agents of which some are used. -/
def Us (ags : List Ag) (used : Nat) (x : Ag) : Prop := ∃ i, i < ags.length ∧ used.testBit i = true ∧ ags.getD i default = x
def Clr (ags : List Ag) (used p f : Nat) : Prop := ∃ c k, Wy ags used p f c k
theorem can_mem {ags : List Ag} {used f i : Nat} : i ∈ canTo ags used f ags.length ↔ i < ags.length ∧ used.testBit i = true ∧ mayN (ags.getD i default) f = true := by
  constructor
  · exact canTo_mem
  · rintro ⟨h1, h2, h3⟩
    unfold canTo
    refine List.mem_filter.2 ⟨List.mem_range.2 h1, ?_⟩
    rw [h2, h3]; rfl
theorem Wy.mono {ags ags' : List Ag} {used used' p p' : Nat} (hu : ∀ x, Us ags used x → Us ags' used' x) (hp : ∀ f, nn f p = 0 → nn f p' = 0) : ∀ {f c k : Nat}, Wy ags used p f c k → Wy ags' used' p' f c k := by
  intro f c k h
  induction h with
  | done h => exact .done (hp _ h)
  | @step f i c k hi _ ih =>
    obtain ⟨h1, h2, h3⟩ := can_mem.1 hi
    obtain ⟨j, g1, g2, g3⟩ := hu _ ⟨i, h1, h2, rfl⟩
    rw [← g3] at ih h3 ⊢
    exact .step (can_mem.2 ⟨g1, g2, h3⟩) ih
theorem Clr.mono {ags ags' : List Ag} {used used' p p' : Nat} (hu : ∀ x, Us ags used x → Us ags' used' x) (hp : ∀ f, nn f p = 0 → nn f p' = 0) {f : Nat} (h : Clr ags used p f) : Clr ags' used' p' f := by
  obtain ⟨c, k, h⟩ := h
  exact ⟨c, k, h.mono hu hp⟩
theorem us_all {ags : List Ag} {x : Ag} : Us ags (usedAll ags.length) x ↔ x ∈ ags := by
  constructor
  · rintro ⟨i, h1, _, rfl⟩
    rw [List.getD_eq_getElem?_getD, List.getElem?_eq_getElem h1]
    exact List.getElem_mem h1
  · intro h
    obtain ⟨i, hi, rfl⟩ := List.getElem_of_mem h
    exact ⟨i, hi, by rw [usedAll_bit]; simpa using hi, by rw [List.getD_eq_getElem?_getD, List.getElem?_eq_getElem hi]; rfl⟩
/-- One melt's steps are those of a team of one. -/
theorem step_one {ags : List Ag} {used f i a b : Nat} : stepT ags used 1 (f, a, b) i = if i ∈ canTo ags used f ags.length then some (putN (ags.getD i default) f, a, b) else none := by
  unfold stepT
  have hm : mayT (ags.getD i default) (f, a, b) 1 = mayN (ags.getD i default) f := by simp [mayT, List.range_succ, tget]
  rw [hm]
  by_cases h : i < ags.length ∧ used.testBit i = true ∧ mayN (ags.getD i default) f = true
  · rw [if_pos h, if_pos (can_mem.2 h)]
    rfl
  · rw [if_neg h, if_neg (fun x => h (can_mem.1 x))]
theorem run_wy {ags : List Ag} {used p : Nat} : ∀ (v : List Nat) (f a b : Nat) (t : Tm), run (stepT ags used 1) (f, a, b) v = some t → nn t.1 p = 0 → ∃ c, Wy ags used p f c v.length
  | [], f, a, b, t, h, hc => by
    cases h
    exact ⟨0, .done hc⟩
  | i :: v, f, a, b, t, h, hc => by
    have h' : (stepT ags used 1 (f, a, b) i).bind (fun s => run (stepT ags used 1) s v) = some t := h
    rw [step_one] at h'
    split at h'
    · rename_i hi
      obtain ⟨c, hw⟩ := run_wy v _ a b t h' hc
      exact ⟨_, .step hi hw⟩
    · cases h'
theorem wy_run {ags : List Ag} {used p : Nat} {f c k : Nat} (h : Wy ags used p f c k) (a b : Nat) : ∃ v t, run (stepT ags used 1) (f, a, b) v = some t ∧ nn t.1 p = 0 ∧ v.length = k := by
  induction h with
  | @done f h => exact ⟨[], (f, a, b), rfl, h, rfl⟩
  | @step f i c k hi _ ih =>
    obtain ⟨v, t, h1, h2, h3⟩ := ih
    refine ⟨i :: v, t, ?_, h2, by rw [List.length_cons, h3]⟩
    show (stepT ags used 1 (f, a, b) i).bind (fun s => run (stepT ags used 1) s v) = some t
    rw [step_one, if_pos hi]
    exact h1
/-- What Shortest finds: fewest agents, if any. -/
theorem short_spec {ags : List Ag} {used p f : Nat} {o : Option Wk} (ho : FoundO ags used 1 (-1) (f, 0, 0) (fun t => decide (nn t.1 p = 0)) o) :
    (o.isSome = true ↔ Clr ags used p f) ∧ ((∃ c, Wy ags used p f c (wayO o).how.length) ∨ o = none) ∧ (o = none ∨ ∀ c k, Wy ags used p f c k → (wayO o).how.length ≤ k) := by
  cases o with
  | none =>
    refine ⟨⟨fun h => Bool.noConfusion h, ?_⟩, .inr rfl, .inl rfl⟩
    rintro ⟨c, k, h⟩
    obtain ⟨v, t, h1, h2, _⟩ := wy_run h 0 0
    have := ho v t h1 (.inl (by decide))
    simp [h2] at this
  | some w =>
    obtain ⟨h1, h2, h3⟩ := ho
    obtain ⟨c, hw⟩ := run_wy w.how f 0 0 w.team h2 (of_decide_eq_true h3)
    refine ⟨⟨fun _ => ⟨c, _, hw⟩, fun _ => rfl⟩, .inl ⟨c, hw⟩, .inr fun c' k' h' => ?_⟩
    obtain ⟨v, t, g1, g2, g3⟩ := wy_run h' 0 0
    have hle := h1.2.2 v t g1 (decide_eq_true g2) (.inl (by decide))
    show w.how.length ≤ k'
    rcases Nat.lt_or_ge k' w.how.length with h | h
    · have hv := run_wd _ stepT_none _ _ _ g1
      have := code_lt_of_len ags.length w.how.length w.how v rfl (by omega) hv
      omega
    · exact h
/-- A set of melts as a number. -/
def SetN (n : Nat) (q : Nat → Prop) : Prop := n < 18446744073709551616 ∧ ∀ f, f < 64 → (n.testBit f = true ↔ q f)
theorem testBit_or_one (n f g : Nat) : (n ||| 1 <<< f).testBit g = (n.testBit g || decide (f = g)) := by
  rw [Nat.testBit_or, Nat.one_shiftLeft, Nat.testBit_two_pow]
/-- The melts of a set. -/
def listN (n k : Nat) : List Nat := (List.range k).filter fun f => n.testBit f
theorem listN_succ (n k : Nat) : listN n (k + 1) = listN n k ++ (if n.testBit k = true then [k] else []) := by
  unfold listN
  rw [List.range_succ, List.filter_append]
  congr 1
  by_cases h : n.testBit k = true
  · rw [if_pos h]; simp [h]
  · rw [if_neg h]; simp [h]
theorem listN_len (n k : Nat) : (listN n k).length ≤ k := by
  unfold listN
  exact Nat.le_trans (List.length_filter_le _ _) (by simp)
theorem SetN.eq {n m : Nat} {q : Nat → Prop} (h : SetN n q) (h' : SetN m q) : n = m := by
  refine Nat.eq_of_testBit_eq fun f => ?_
  rcases Nat.lt_or_ge f 64 with hf | hf
  · have h1 := h.2 f hf
    have h2 := h'.2 f hf
    cases e1 : n.testBit f <;> cases e2 : m.testBit f <;> simp_all
  · have hp : (2 : Nat) ^ 64 ≤ 2 ^ f := Nat.pow_le_pow_right (by omega) hf
    have h1 : n < 2 ^ f := Nat.lt_of_lt_of_le h.1 hp
    have h2 : m < 2 ^ f := Nat.lt_of_lt_of_le h'.1 hp
    rw [Nat.testBit_lt_two_pow h1, Nat.testBit_lt_two_pow h2]
theorem fix_all {ags : List Ag} {used p : Nat} (hok : Oks ags) : ∃ N, N ≤ 1000 ∧ (roundP ags used (iterP ags used p N) 64).2 = false := ⟨63, by omega, round_ends hok⟩
theorem shl_u64 {f : Nat} (hf : f < 64) : IntKind.u64.wrap (1 * 2 ^ (min ((f : Int)).toNat 64)) = ((1 <<< f : Nat) : Int) := by
  rw [Int.toNat_natCast, Nat.min_eq_left (by omega), Nat.one_shiftLeft, Int.one_mul]
  have h1 : 2 ^ f < 2 ^ 64 := Nat.pow_lt_pow_right (by omega) hf
  have h2 := wrap_u64 (2 ^ f) h1
  rw [← h2]
  congr 1
theorem or_one_lt {n f : Nat} (hn : n < 18446744073709551616) (hf : f < 64) : n ||| 1 <<< f < 18446744073709551616 := by
  have h1 : 1 <<< f < 2 ^ 64 := by rw [Nat.one_shiftLeft]; exact Nat.pow_lt_pow_right (by omega) hf
  exact show _ < 2 ^ 64 from Nat.or_lt_two_pow hn h1
theorem shl_lt {f : Nat} (hf : f < 64) : 1 <<< f < 18446744073709551616 := by
  rw [Nat.one_shiftLeft]
  exact show _ < 2 ^ 64 from Nat.pow_lt_pow_right (by omega) hf
end Go.Proofs.YtofkhehcnfiopaaDoor.N
namespace Go.Proofs.YtofkhehcnfiopaaDoor.N
open Go Go.RowKit Go.Proofs
set_option linter.unusedSectionVars false
variable [I : Sys]
theorem F.ent104 : Enters Tryd.prog 104 := enters_of Tryd.func104 rfl (by kernel_rfl)
theorem F.ent121 : Enters Tryd.prog 121 := enters_of Tryd.func121 rfl (by kernel_rfl)
theorem mhas_c (n f : Nat) (hn : n < 18446744073709551616) (w : World) : Calls Tryd.prog 104 #[.int .u64 (n : Int), .int .u8 (f : Int)] w fun e w' => e = .returned (.bool (n.testBit f)) ∧ Grew w w' [] := by
  have hs1 : n >>> (min f 64) < 18446744073709551616 := Nat.lt_of_le_of_lt (by rw [Nat.shiftRight_eq_div_pow]; exact Nat.div_le_self _ _) hn
  refine enter (N := 10) [(0, .int .u64 (n : Int)), (1, .int .u8 (f : Int))] Tryd.func104 rfl Tryd.ntmps104 rfl rfl ?_
  refine cod_seq ?_
  refine cod_region ?_
  refine lst_assign rfl rfl ?_
  refine lst_nil ?_
  refine ex_then ?_
  refine cod_seq ?_
  refine cod_region ?_
  refine lst_move rfl rfl ?_
  refine lst_move rfl rfl ?_
  refine lst_shr rfl rfl rfl (by omega) (fdiv_shr _ _ _) ?_
  refine lst_int rfl rfl rfl (fun w => bin_and w (u64_and _ 1 hs1 (by omega))) ?_
  refine lst_int rfl rfl rfl bin_eql ?_
  refine lst_assign rfl rfl ?_
  refine lst_nil ?_
  refine ex_then ?_
  refine cod_ret ?_
  refine ex_ret rfl (fun a w ha => res_one rfl rfl ha) (fun a w ha => ?_)
  exact ⟨by rw [← bit_test n f 64 hn]; rfl, ha.grown (List.nil_sublist _)⟩

theorem mwith_c (n f : Nat) (hn : n < 18446744073709551616) (hf : f < 64) (w : World) : Calls Tryd.prog 121 #[.int .u64 (n : Int), .int .u8 (f : Int)] w fun e w' => e = .returned (.int .u64 ((n ||| 1 <<< f : Nat) : Int)) ∧ Grew w w' [] := by
  refine enter (N := 9) [(0, .int .u64 (n : Int)), (1, .int .u8 (f : Int))] Tryd.func121 rfl Tryd.ntmps121 rfl rfl ?_
  refine cod_seq ?_
  refine cod_region ?_
  refine lst_assign rfl rfl ?_
  refine lst_nil ?_
  refine ex_then ?_
  refine cod_seq ?_
  refine cod_region ?_
  refine lst_move rfl rfl ?_
  refine lst_move rfl rfl ?_
  refine lst_shl rfl rfl rfl (by omega) (shl_u64 hf) ?_
  refine lst_int rfl rfl rfl (fun w => bin_or w (u64_or _ _ hn (shl_lt hf))) ?_
  refine lst_assign rfl rfl ?_
  refine lst_nil ?_
  refine ex_then ?_
  refine cod_ret ?_
  refine ex_ret rfl (fun a w ha => res_one rfl rfl ha) (fun a w ha => ?_)
  exact ⟨by rfl, ha.grown (List.nil_sublist _)⟩

theorem mlist_c (n : Nat) (hn : n < 18446744073709551616) (w : World) : Calls Tryd.prog 101 #[.int .u64 (n : Int)] w fun e w' => ∃ A c, e = .returned (.slice A (listN n 64).length c) ∧ Grew w w' [.row 3 1 A (listN n 64).length c (ints (listN n 64))] := by
  refine enter (N := 18) [(0, .int .u64 (n : Int))] Tryd.func101 rfl Tryd.ntmps101 rfl rfl ?_
  refine cod_seq ?_
  refine cod_region ?_
  refine lst_assign rfl rfl ?_
  refine lst_nil ?_
  refine ex_then ?_
  refine cod_seq ?_
  refine cod_region ?_
  refine lst_assign rfl rfl ?_
  refine lst_nil ?_
  refine ex_then ?_
  refine cod_seq ?_
  refine cod_seq ?_
  refine cod_region ?_
  refine lst_move rfl rfl ?_
  refine lst_nil ?_
  refine ex_then ?_
  refine cod_block ?_
  refine cod_nil 3 1 ?_
  refine cod_loop (G := Nat × Option Addr × Nat) (fun g => g.1 ≤ 64) (fun g => 64 - g.1) (fun g => [(0, .int .u64 (n : Int)), (3, .slice g.2.1 (listN n g.1).length g.2.2), (5, .int .i64 (g.1 : Int))]) (fun g => [.row 3 1 g.2.1 (listN n g.1).length g.2.2 (ints (listN n g.1))]) (0, none, 0) (Nat.zero_le _) sbn sbl ?_
  rintro ⟨k, A1, c1⟩ hk
  (try dsimp only at hk ⊢)
  refine cod_seq ?_
  refine cod_region ?_
  refine lst_int rfl rfl rfl bin_lss ?_
  refine lst_nil ?_
  refine ex_then ?_
  refine cod_seq ?_
  refine cod_cond_dec rfl (fun hc0 => ?_) (fun hc0 => ?_)
  · skip
    have hk64 : k < 64 := by omega
    refine cod_skip ?_
    refine ex_then ?_
    refine cod_seq ?_
    refine cod_block ?_
    refine cod_seq ?_
    refine cod_region ?_
    refine lst_move rfl rfl ?_
    refine lst_assign rfl rfl ?_
    refine lst_nil ?_
    refine ex_then ?_
    refine cod_seq ?_
    refine cod_region ?_
    refine lst_move rfl rfl ?_
    refine lst_move rfl rfl ?_
    refine lst_convert rfl rfl Tryd.underlying3 Tryd.underlying77 (wrap_u8 _ (by omega)) ?_
    refine lst_fn0 (vs := [_, _]) rfl rfl F.ent104 (fun a w ha => mhas_c n k hn w) ?_
    refine lst_nil ?_
    refine ex_then ?_
    refine cod_cond_bool rfl (fun hc1 => ?_) (fun hc1 => ?_)
    · skip
      refine cod_region ?_
      refine lst_move rfl rfl ?_
      refine lst_move rfl rfl ?_
      refine lst_lit (vs := [(0, _)]) rfl rfl Tryd.underlying25 F.ti3 rfl rfl rfl ?_
      intro b14
      refine lst_append rfl rfl rfl Tryd.underlying25 F.ti3 rfl rfl rfl (by have := listN_len n k; unfold maxLen; omega) (by have := listN_len n k; omega) ?_
      intro A2 c2
      refine lst_assign rfl rfl ?_
      refine lst_nil ?_
      refine ex_block_normal ?_
      refine ex_then ?_
      refine cod_region ?_
      refine lst_int rfl rfl rfl (fun w => bin_add w (wrap_i64' _ (by omega) (by omega))) ?_
      refine lst_move rfl rfl ?_
      refine lst_nil ?_
      have e := listN_succ n k
      rw [if_pos hc1] at e
      refine ex_round (k + 1, A2, c2) (by (try dsimp only); omega) (by (try dsimp only); omega) (by (try dsimp only); (try rw [e]); simp only [List.length_append, List.length_singleton]; repeat (first | exact Sub.nil _ | refine Sub.cons rfl ?_)) (by (try dsimp only); (try rw [e]); simp only [ints_snoc, List.length_append, List.length_singleton]; repeat (first | exact List.Sublist.refl _ | exact List.nil_sublist _ | refine List.Sublist.cons_cons _ ?_ | refine List.Sublist.cons _ ?_))
    · skip
      refine cod_skip ?_
      refine ex_block_normal ?_
      refine ex_then ?_
      refine cod_region ?_
      refine lst_int rfl rfl rfl (fun w => bin_add w (wrap_i64' _ (by omega) (by omega))) ?_
      refine lst_move rfl rfl ?_
      refine lst_nil ?_
      have e := listN_succ n k
      rw [if_neg (by rw [hc1]; simp), List.append_nil] at e
      refine ex_round (k + 1, A1, c1) (by (try dsimp only); omega) (by (try dsimp only); omega) (by (try dsimp only); (try rw [e]); repeat (first | exact Sub.nil _ | refine Sub.cons rfl ?_)) (by (try dsimp only); (try rw [e]); repeat (first | exact List.Sublist.refl _ | exact List.nil_sublist _ | refine List.Sublist.cons_cons _ ?_ | refine List.Sublist.cons _ ?_))
  · skip
    refine cod_exit ?_
    refine ex_then_exit ?_
    refine ex_then_exit ?_
    refine ex_block_exit ?_
    refine ex_then ?_
    refine cod_seq ?_
    refine cod_region ?_
    refine lst_move rfl rfl ?_
    refine lst_assign rfl rfl ?_
    refine lst_nil ?_
    refine ex_then ?_
    refine cod_ret ?_
    obtain rfl : k = 64 := by omega
    exact ex_ret rfl (fun a w ha => res_one rfl rfl ha) (fun a w ha => ⟨A1, c1, rfl, ha.grown sbl⟩)

end Go.Proofs.YtofkhehcnfiopaaDoor.N
namespace Go.Proofs.YtofkhehcnfiopaaDoor.N
open Go Go.RowKit Go.Proofs
set_option linter.unusedSectionVars false
variable [I : Sys]
open Classical in
noncomputable def fltP (q : Nat → Prop) (l : List Nat) : List Nat := l.filter fun i => decide (q i)
theorem fltP_yes {q : Nat → Prop} {l : List Nat} {i : Nat} (h : q i) : fltP q (l ++ [i]) = fltP q l ++ [i] := by
  unfold fltP
  rw [List.filter_append]
  simp [h]
theorem fltP_no {q : Nat → Prop} {l : List Nat} {i : Nat} (h : ¬ q i) : fltP q (l ++ [i]) = fltP q l := by
  unfold fltP
  rw [List.filter_append]
  simp [h]
theorem fltP_len (q : Nat → Prop) (l : List Nat) : (fltP q l).length ≤ l.length := List.length_filter_le _ _
theorem fltP_mem {q : Nat → Prop} {l : List Nat} {i : Nat} : i ∈ fltP q l ↔ i ∈ l ∧ q i := by
  unfold fltP
  rw [List.mem_filter]
  simp
theorem listN_flt {n : Nat} {q : Nat → Prop} (h : SetN n q) : listN n 64 = fltP q (List.range 64) := by
  unfold listN fltP
  refine List.filter_congr fun f hf => ?_
  have := h.2 f (List.mem_range.1 hf)
  cases e : n.testBit f with
  | true => rw [e] at this; simp [this.1 rfl]
  | false => rw [e] at this; simp; intro hq; have := this.2 hq; cases this
end Go.Proofs.YtofkhehcnfiopaaDoor.N
namespace Go.Proofs.YtofkhehcnfiopaaDoor.N
set_option autoImplicit false
set_option linter.unusedSectionVars false
variable [I : Sys]

/-! What a melt can become, and the search for it, in whatever order it is told. -/
inductive Rch (ags : List Ag) (used f : Nat) : Nat → Prop
  | base : Rch ags used f f
  | step {y i : Nat} (h : Rch ags used f y) (hi : i ∈ canTo ags used y ags.length) : Rch ags used f (putN (ags.getD i default) y)
section
variable {ags : List Ag} {used f p : Nat}
theorem ok_at (hok : Oks ags) {y i : Nat} (hi : i ∈ canTo ags used y ags.length) : (ags.getD i default).ok := by
  have h := (can_mem.1 hi).1
  rw [List.getD_eq_getElem?_getD, List.getElem?_eq_getElem h]
  exact hok.2 _ (List.getElem_mem h)
theorem Rch.lt (hok : Oks ags) (hf : f < 64) {y : Nat} (h : Rch ags used f y) : y < 64 := by
  induction h with
  | base => exact hf
  | step _ hi ih => exact putN_lt (ok_at hok hi) ih
theorem Rch.trans {y z : Nat} (h : Rch ags used f y) (k : Rch ags used y z) : Rch ags used f z := by
  induction k with
  | base => exact h
  | step _ hi ih => exact ih.step hi
theorem Rch.ahead {y i : Nat} (hi : i ∈ canTo ags used f ags.length) (h : Rch ags used (putN (ags.getD i default) f) y) : Rch ags used f y := (Rch.base.step hi).trans h
/-- What the worker of a melt tells. -/
def msgs (ags : List Ag) (used x : Nat) : List UInt8 := (canTo ags used x ags.length).map (fun i => UInt8.ofNat (putN (ags.getD i default) x)) ++ [255]
theorem ofNat_toNat {z : Nat} (hz : z < 64) : (UInt8.ofNat z).toNat = z := by
  simp [UInt8.toNat_ofNat']
  omega
theorem ofNat_ne {z : Nat} (hz : z < 64) : UInt8.ofNat z ≠ 255 := fun e => by
  have := congrArg UInt8.toNat e
  rw [ofNat_toNat hz] at this
  have h2 : (255 : UInt8).toNat = 255 := rfl
  omega
structure RIr (ags : List Ag) (used f met : Nat) (now : List Nat) : Prop where
  lt : met < 18446744073709551616
  sound : ∀ y, y < 64 → met.testBit y = true → Rch ags used f y
  self : met.testBit f = true
  sub : ∀ y ∈ now, y < 64 ∧ met.testBit y = true
  nodup : now.Nodup
  closed : ∀ y, y < 64 → met.testBit y = true → y ∉ now → ∀ i ∈ canTo ags used y ags.length, met.testBit (putN (ags.getD i default) y) = true
structure RR (ags : List Ag) (used f met0 : Nat) (now : List Nat) (met : Nat) (next : List Nat) (pend : List (List UInt8)) : Prop where
  lt : met < 18446744073709551616
  sound : ∀ y, y < 64 → met.testBit y = true → Rch ags used f y
  grow : ∀ y, y < 64 → (met.testBit y = true ↔ met0.testBit y = true ∨ y ∈ next)
  fresh : ∀ y ∈ next, y < 64 ∧ met0.testBit y = false
  nodup : next.Nodup
  said : ∀ l ∈ pend, (∃ m : List UInt8, l = m ++ [255] ∧ (255 : UInt8) ∉ m) ∧ ∀ b ∈ l, b ≠ 255 → b.toNat < 64 ∧ Rch ags used f b.toNat
  due : ∀ x ∈ now, ∀ i ∈ canTo ags used x ags.length, met.testBit (putN (ags.getD i default) x) = true ∨ ∃ l ∈ pend, UInt8.ofNat (putN (ags.getD i default) x) ∈ l
theorem RIr.first (hf : f < 64) : RIr ags used f (0 ||| 1 <<< f) [f] := by
  have hb : ∀ y, (0 ||| 1 <<< f).testBit y = true ↔ y = f := fun y => by
    rw [testBit_or_one]
    simp
    exact eq_comm
  refine ⟨or_one_lt (by omega) hf, fun y _ h => ?_, (hb f).2 rfl, fun y hy => ?_, by simp, fun y _ h hn => ?_⟩
  · rw [(hb y).1 h]; exact .base
  · simp at hy; subst hy; exact ⟨hf, (hb y).2 rfl⟩
  · exact absurd (by simp [(hb y).1 h]) hn
theorem msgs_said (hok : Oks ags) {x : Nat} (hx : x < 64) (hr : Rch ags used f x) : (∃ m : List UInt8, msgs ags used x = m ++ [255] ∧ (255 : UInt8) ∉ m) ∧ ∀ b ∈ msgs ags used x, b ≠ 255 → b.toNat < 64 ∧ Rch ags used f b.toNat := by
  refine ⟨⟨_, rfl, fun h => ?_⟩, fun b hb hne => ?_⟩
  · obtain ⟨i, hi, e⟩ := List.mem_map.1 h
    exact ofNat_ne (putN_lt (ok_at hok hi) hx) e
  · rcases List.mem_append.1 hb with h | h
    · obtain ⟨i, hi, rfl⟩ := List.mem_map.1 h
      have := putN_lt (ok_at hok hi) hx
      rw [ofNat_toNat this]
      exact ⟨this, hr.step hi⟩
    · simp at h; exact absurd h hne
theorem RIr.start (hok : Oks ags) {met : Nat} {now : List Nat} (h : RIr ags used f met now) : RR ags used f met now met [] (now.map (msgs ags used)) := by
  refine ⟨h.lt, h.sound, fun y _ => by simp, fun y hy => by simp at hy, by simp, fun l hl => ?_, fun x hx i hi => ?_⟩
  · obtain ⟨x, hx, rfl⟩ := List.mem_map.1 hl
    exact msgs_said hok (h.sub x hx).1 (h.sound x (h.sub x hx).1 (h.sub x hx).2)
  · exact .inr ⟨_, List.mem_map.2 ⟨x, hx, rfl⟩, List.mem_append.2 (.inl (List.mem_map.2 ⟨i, hi, rfl⟩))⟩
section
variable {met0 met : Nat} {now next : List Nat} {pend : List (List UInt8)} {i : Nat} {b : UInt8} {l : List UInt8}
theorem RR.one (h : RR ags used f met0 now met next pend) (hl : pend[i]? = some (b :: l)) : (∃ m : List UInt8, b :: l = m ++ [255] ∧ (255 : UInt8) ∉ m) ∧ ∀ c ∈ b :: l, c ≠ 255 → c.toNat < 64 ∧ Rch ags used f c.toNat := h.said _ (List.mem_of_getElem? hl)
theorem said_tail {b : UInt8} {l : List UInt8} (h : ∃ m : List UInt8, b :: l = m ++ [255] ∧ (255 : UInt8) ∉ m) (hb : b ≠ 255) : ∃ m : List UInt8, l = m ++ [255] ∧ (255 : UInt8) ∉ m := by
  obtain ⟨m, h1, h2⟩ := h
  cases m with
  | nil => simp at h1; exact absurd h1.1 hb
  | cons y m =>
    simp only [List.cons_append, List.cons.injEq] at h1
    exact ⟨m, h1.2, fun hm => h2 (List.mem_cons_of_mem _ hm)⟩
theorem said_last {l : List UInt8} (h : ∃ m : List UInt8, (255 : UInt8) :: l = m ++ [255] ∧ (255 : UInt8) ∉ m) : l = [] := by
  obtain ⟨m, h1, h2⟩ := h
  cases m with
  | nil => simpa using h1
  | cons y m =>
    simp only [List.cons_append, List.cons.injEq] at h1
    exact absurd (by rw [← h1.1]; simp) h2
theorem mem_set_or {pend : List (List UInt8)} {i : Nat} {b : UInt8} {l k : List UInt8} (hl : pend[i]? = some (b :: l)) (hk : k ∈ pend) {c : UInt8} (hc : c ∈ k) : c = b ∨ ∃ k' ∈ pend.set i l, c ∈ k' := by
  obtain ⟨j, hj⟩ := List.mem_iff_getElem?.1 hk
  by_cases e : j = i
  · subst e
    rw [hl] at hj
    cases hj
    rcases List.mem_cons.1 hc with h | h
    · exact .inl h
    · exact .inr ⟨l, List.mem_iff_getElem?.2 ⟨j, List.getElem?_set_self (List.getElem?_eq_some_iff.1 hl).1⟩, h⟩
  · exact .inr ⟨k, List.mem_iff_getElem?.2 ⟨j, by rw [List.getElem?_set_ne (fun x => e x.symm)]; exact hj⟩, hc⟩
theorem RR.said_set (h : RR ags used f met0 now met next pend) (hl : pend[i]? = some (b :: l)) (hb : b ≠ 255) : ∀ k ∈ pend.set i l, (∃ m : List UInt8, k = m ++ [255] ∧ (255 : UInt8) ∉ m) ∧ ∀ b ∈ k, b ≠ 255 → b.toNat < 64 ∧ Rch ags used f b.toNat := by
  intro k hk
  rcases List.mem_or_eq_of_mem_set hk with h1 | rfl
  · exact h.said k h1
  · exact ⟨said_tail (h.one hl).1 hb, fun c hc => (h.one hl).2 c (List.mem_cons_of_mem _ hc)⟩
theorem RR.word (hok : Oks ags) (hnow : ∀ x ∈ now, x < 64) (h : RR ags used f met0 now met next pend) (hl : pend[i]? = some (b :: l)) (hb : b ≠ 255) (hm : met.testBit b.toNat = true) : RR ags used f met0 now met next (pend.set i l) := by
  refine ⟨h.lt, h.sound, h.grow, h.fresh, h.nodup, h.said_set hl hb, fun x hx j hj => ?_⟩
  rcases h.due x hx j hj with h1 | ⟨k, hk, hc⟩
  · exact .inl h1
  · rcases mem_set_or hl hk hc with h1 | h1
    · refine .inl ?_
      rw [← h1, ofNat_toNat (putN_lt (ok_at hok hj) (hnow x hx))] at hm
      exact hm
    · exact .inr h1
theorem RR.new (hok : Oks ags) (hnow : ∀ x ∈ now, x < 64) (h : RR ags used f met0 now met next pend) (hl : pend[i]? = some (b :: l)) (hb : b ≠ 255) (hm : met.testBit b.toNat = false) : RR ags used f met0 now (met ||| 1 <<< b.toNat) (next ++ [b.toNat]) (pend.set i l) := by
  obtain ⟨h1, h2⟩ := (h.one hl).2 b (by simp) hb
  have hbit : ∀ y, (met ||| 1 <<< b.toNat).testBit y = true ↔ met.testBit y = true ∨ y = b.toNat := fun y => by
    rw [testBit_or_one, Bool.or_eq_true, decide_eq_true_eq]
    exact or_congr_right eq_comm
  have hn : b.toNat ∉ next := fun hx => by
    have := (h.grow b.toNat h1).2 (.inr hx)
    rw [hm] at this
    cases this
  refine ⟨or_one_lt h.lt h1, fun y hy hyb => ?_, fun y hy => ?_, fun y hy => ?_, ?_, h.said_set hl hb, fun x hx j hj => ?_⟩
  · rcases (hbit y).1 hyb with h3 | rfl
    · exact h.sound y hy h3
    · exact h2
  · rw [hbit, h.grow y hy, List.mem_append, List.mem_singleton, or_assoc]
  · rcases List.mem_append.1 hy with h3 | h3
    · exact h.fresh y h3
    · simp at h3
      subst h3
      refine ⟨h1, ?_⟩
      cases hc : met0.testBit b.toNat with
      | false => rfl
      | true =>
        have := (h.grow _ h1).2 (.inl hc)
        rw [hm] at this
        cases this
  · rw [List.nodup_append]
    exact ⟨h.nodup, by simp, fun x hx y hy e => by simp at hy; subst hy; subst e; exact hn hx⟩
  · rcases h.due x hx j hj with h3 | ⟨k, hk, hc⟩
    · exact .inl ((hbit _).2 (.inl h3))
    · rcases mem_set_or hl hk hc with h3 | h3
      · refine .inl ((hbit _).2 (.inr ?_))
        rw [← h3, ofNat_toNat (putN_lt (ok_at hok hj) (hnow x hx))]
      · exact .inr h3
theorem RR.done (hok : Oks ags) (hnow : ∀ x ∈ now, x < 64) (h : RR ags used f met0 now met next pend) (hl : pend[i]? = some (255 :: l)) : RR ags used f met0 now met next (pend.eraseIdx i) := by
  refine ⟨h.lt, h.sound, h.grow, h.fresh, h.nodup, fun k hk => h.said k (List.mem_of_mem_eraseIdx hk), fun x hx j hj => ?_⟩
  rcases h.due x hx j hj with h1 | ⟨k, hk, hc⟩
  · exact .inl h1
  · obtain ⟨a, ha⟩ := List.mem_iff_getElem?.1 hk
    by_cases e : a = i
    · subst e
      rw [hl] at ha
      cases ha
      rw [said_last (h.one hl).1, List.mem_singleton] at hc
      exact absurd hc (ofNat_ne (putN_lt (ok_at hok hj) (hnow x hx)))
    · exact .inr ⟨k, List.mem_eraseIdx_iff_getElem?.2 ⟨a, e, ha⟩, hc⟩
theorem RR.over (h : RR ags used f met0 now met next []) (h0 : RIr ags used f met0 now) (hf : f < 64) : RIr ags used f met next := by
  refine ⟨h.lt, h.sound, (h.grow f hf).2 (.inl h0.self), fun y hy => ⟨(h.fresh y hy).1, (h.grow y (h.fresh y hy).1).2 (.inr hy)⟩, h.nodup, fun y hy hm hn i hi => ?_⟩
  have hm0 : met0.testBit y = true := ((h.grow y hy).1 hm).resolve_right hn
  by_cases hyn : y ∈ now
  · rcases h.due y hyn i hi with h1 | ⟨k, hk, _⟩
    · exact h1
    · cases hk
  · have h1 := h0.closed y hy hm0 hyn i hi
    by_cases h2 : putN (ags.getD i default) y < 64
    · exact (h.grow _ h2).2 (.inl h1)
    · have h3 : met0.testBit (putN (ags.getD i default) y) = false := Nat.testBit_lt_two_pow (Nat.lt_of_lt_of_le h0.lt (by
        show 2 ^ 64 ≤ _
        exact Nat.pow_le_pow_right (by decide) (by omega)))
      rw [h1] at h3
      cases h3
theorem RIr.final (hok : Oks ags) (hf : f < 64) (h : RIr ags used f met []) : SetN met (Rch ags used f) := by
  refine ⟨h.lt, fun y hy => ⟨h.sound y hy, fun hr => ?_⟩⟩
  have key : ∀ {y}, Rch ags used f y → met.testBit y = true := by
    intro y hr
    induction hr with
    | base => exact h.self
    | @step y i hr hi ih => exact h.closed y (hr.lt hok hf) ih (by simp) i hi
  exact key hr
/-- How many have not been met. -/
def unmet (met : Nat) : Nat := ((List.range 64).filter fun y => !met.testBit y).length
theorem filter_lt {q r : Nat → Bool} : ∀ {l : List Nat} {x : Nat}, x ∈ l → q x = false → r x = true → (∀ y ∈ l, q y = true → r y = true) → (l.filter q).length < (l.filter r).length
  | a :: l, x, hx, hq, hr, h => by
    have mono : ∀ (l : List Nat), (∀ y ∈ l, q y = true → r y = true) → (l.filter q).length ≤ (l.filter r).length := by
      intro l
      induction l with
      | nil => intro _; simp
      | cons b l ih =>
        intro h
        have h1 := ih fun y hy => h y (List.mem_cons_of_mem _ hy)
        have h2 := h b (by simp)
        cases hb : q b with
        | false => cases hrb : r b <;> simp [hb, hrb] <;> omega
        | true => simp [hb, h2 hb]; exact h1
    rcases List.mem_cons.1 hx with rfl | hx'
    · have := mono l fun y hy => h y (List.mem_cons_of_mem _ hy)
      simp [hq, hr]
      omega
    · have h1 := filter_lt hx' hq hr fun y hy => h y (List.mem_cons_of_mem _ hy)
      have h2 := h a (by simp)
      cases hb : q a with
      | false => cases hrb : r a <;> simp [hb, hrb] <;> omega
      | true => simp [hb, h2 hb]; exact h1
theorem RR.nearer (h : RR ags used f met0 now met next []) (hn : next ≠ []) : unmet met < unmet met0 := by
  cases hx : next with
  | nil => exact absurd hx hn
  | cons y ys =>
    have hy : y ∈ next := by rw [hx]; simp
    obtain ⟨h1, h2⟩ := h.fresh y hy
    refine filter_lt (x := y) (by simpa using h1) (by simp [(h.grow y h1).2 (.inr hy)]) (by simp [h2]) fun z hz hq => ?_
    have hz' : z < 64 := by simpa using hz
    cases hc : met0.testBit z with
    | false => rfl
    | true => simp [(h.grow z hz').2 (.inl hc)] at hq
end
end
end Go.Proofs.YtofkhehcnfiopaaDoor.N
namespace Go.Proofs.YtofkhehcnfiopaaDoor.N
open Go Go.RowKit Go.Proofs Go.Conc
set_option autoImplicit false
set_option linter.unusedSectionVars false

section
variable [I : Sys]
theorem F.one158 : One Tryd.prog 158 := ⟨by unfold aggB; rw [Tryd.underlying158], by rw [Tryd.underlying158]; simp⟩
theorem F.ti158 : TI Tryd.prog 158 (.chan none) 1 8 := TI.of (by kernel_rfl)
theorem F.ti160 : TI Tryd.prog 160 (.agg [.int .u8 0, .bool false].toArray) 2 2 := TI.of (by kernel_rfl)
theorem F.pl160 : Places Tryd.prog 160 [(0, 1), (1, 1)] := .inl ⟨_, Tryd.underlying160, by kernel_rfl⟩
theorem F.ent123 : Enters Tryd.prog 123 := enters_of Tryd.func123 rfl (by kernel_rfl)
end
/-- What is told: a melt, or that this was all. -/
def newsL (b : UInt8) : List Value := if b = 255 then [.int .u8 0, .bool true] else [.int .u8 (b.toNat : Int), .bool false]
def Kf (low : Nat) : Prot := { msg := fun b => .agg (newsL b).toArray, z := .tuple #[], zr := .agg [.int .u8 0, .bool false].toArray, done := 255, low }
def msgsAt (ags : List Ag) (used x k : Nat) : List UInt8 := ((canTo ags used x ags.length).drop k).map (fun i => UInt8.ofNat (putN (ags.getD i default) x)) ++ [255]
theorem msgsAt_succ {ags : List Ag} {used x k i : Nat} (h : (canTo ags used x ags.length)[k]? = some i) : msgsAt ags used x k = UInt8.ofNat (putN (ags.getD i default) x) :: msgsAt ags used x (k + 1) := by
  obtain ⟨hk, h2⟩ := List.getElem?_eq_some_iff.1 h
  unfold msgsAt
  rw [List.drop_eq_getElem_cons hk, h2]
  rfl
theorem msgsAt_end {ags : List Ag} {used x : Nat} : msgsAt ags used x (canTo ags used x ags.length).length = [255] := by
  unfold msgsAt
  rw [List.drop_length]
  rfl
theorem worker_c {low c cb xb fb used x cg ctb : Nat} {aA : Option Addr} {ags : List Ag} {u : World} {fz1 fz2 fz3 : Nat × Nat} (hok : Oks ags) (hu : used < 256) (hx : x < 64)
    (hcb : u.heap[cb]? = some (.cells [.slice aA ags.length cg, .int .u8 (used : Int)].toArray ctb fz1)) (hxb : u.heap[xb]? = some (.cells [.int .u8 (x : Int)].toArray 77 fz2)) (hfb : u.heap[fb]? = some (.cells [.chan (some c)].toArray 158 fz3))
    (hA : RdL Ag.cells 5 u aA ags) :
    Works Tryd.prog (Kf low) c (born Tryd.prog { target := .fn (.func 123) [.pointer (some ⟨cb, 0, none⟩), .pointer (some ⟨xb, 0, none⟩), .pointer (some ⟨fb, 0, none⟩)].toArray, args := #[] }) (saying u #[enc1 (msgs ags used x)]) := by
  letI : Sys := wSys Tryd.prog (Kf low) c
  refine works_born (f := 123) (args := [.pointer (some ⟨cb, 0, none⟩), .pointer (some ⟨xb, 0, none⟩), .pointer (some ⟨fb, 0, none⟩)].toArray) rfl (invokes_of F.ent123 rfl) ?_
  rw [enter_bD _ Tryd.func123 rfl, Tryd.ntmps123]
  obtain ⟨L, hL⟩ : ∃ L, canTo ags used x ags.length = L := ⟨_, rfl⟩
  have hLl : L.length ≤ ags.length := by rw [← hL]; exact canTo_len ags used x ags.length
  have h4 := hok.1
  have cb_lt := (Array.getElem?_eq_some_iff.1 hcb).1
  have xb_lt := (Array.getElem?_eq_some_iff.1 hxb).1
  have fb_lt := (Array.getElem?_eq_some_iff.1 hfb).1
  have c0 : u.cell? ⟨cb, 0, none⟩ = some (.slice aA ags.length cg) := by rw [cell_of_row u cb 0 _ _ _ hcb]; rfl
  have c1 : u.cell? ⟨cb, 1, none⟩ = some (.int .u8 (used : Int)) := by rw [cell_of_row u cb 1 _ _ _ hcb]; rfl
  have cx : u.cell? ⟨xb, 0, none⟩ = some (.int .u8 (x : Int)) := by rw [cell_of_row u xb 0 _ _ _ hxb]; rfl
  have cf : u.cell? ⟨fb, 0, none⟩ = some (.chan (some c)) := by rw [cell_of_row u fb 0 _ _ _ hfb]; rfl
  have ha0 := at_args (P := Tryd.prog) (vs := [.pointer (some ⟨cb, 0, none⟩), .pointer (some ⟨xb, 0, none⟩), .pointer (some ⟨fb, 0, none⟩)]) (N := 25) (v := saying u #[enc1 (msgs ags used x)]) rfl
  have hc75 : ∀ (j : Nat) (u' : Value), [Value.slice aA ags.length cg, .int .u8 (used : Int)][j]? = some u' → u.cell? ⟨cb, 0 + j, none⟩ = some u' := by
    intro j u' h
    rcases j with _ | _ | j
    · cases h; exact c0
    · cases h; exact c1
    · simp at h
  have hmsg : ∀ z, z < 64 → (Kf low).msg (UInt8.ofNat z) = .agg [.int .u8 ((z : Nat) : Int), .bool false].toArray := fun z hz => by
    show Value.agg (newsL _).toArray = _
    unfold newsL
    rw [if_neg (ofNat_ne hz), ofNat_toNat hz]
  refine gs_seq (show (bD 123).kind ≠ .early by simp [bD]) ?_
  refine (?_ : Cod ⟨Tryd.prog, u.heap.size, saying u #[enc1 (msgsAt ags used x 0)], 25, []⟩ _ _ [(0, .pointer (some ⟨cb, 0, none⟩)), (1, .pointer (some ⟨xb, 0, none⟩)), (2, .pointer (some ⟨fb, 0, none⟩))] []) _ _ ha0
  refine cod_seq ?_
  refine cod_region ?_
  refine lst_loadN_at (l := [.slice aA ags.length cg, .int .u8 (used : Int)]) rfl rfl F.agg75 F.ti75 rfl (fun a w ha j u' hu' => ha.old (hc75 j u' hu') cb_lt) ?_
  refine lst_load_at rfl rfl F.one77 (fun _ _ ha => ha.old (show (saying u _).cell? _ = _ from cx) xb_lt) ?_
  refine lst_fn (X := Option Addr × Nat) (vs := [_, _]) (p := fun _ => True) (val := fun y => .slice y.1 L.length y.2) (rs := fun y => [.row 3 1 y.1 L.length y.2 (ints L)]) rfl rfl F.ent89 (fun a w ha => (can_c aA cg ags used x hok hu (by omega) w (RdL.later (w := saying u #[enc1 (msgsAt ags used x 0)]) hA ha.below)).mono (fun e w' h => by obtain ⟨A', c', h1, h2⟩ := h; rw [hL] at h1 h2; exact ⟨(A', c'), trivial, h1, h2⟩)) ?_
  rintro ⟨rA, rc⟩ -
  dsimp only [List.cons_append, List.nil_append]
  refine lst_len rfl rfl Tryd.underlying25 ?_
  refine lst_move rfl rfl ?_
  refine lst_nil ?_
  refine ex_then ?_
  refine cod_block ?_
  refine cod_loopC (T := Nat) (fun k => k ≤ L.length) (fun k => L.length - k) (fun k => ⟨Tryd.prog, u.heap.size, saying u #[enc1 (msgsAt ags used x k)], 25, []⟩) (fun k => [(0, .pointer (some ⟨cb, 0, none⟩)), (1, .pointer (some ⟨xb, 0, none⟩)), (2, .pointer (some ⟨fb, 0, none⟩)), (7, .slice rA L.length rc), (8, .int .i64 (L.length : Int)), (9, .int .i64 (k : Int))]) (fun _ => [.row 3 1 rA L.length rc (ints L)]) (fun _ => rfl) 0 (Nat.zero_le _) rfl sbn (Pck.refl _) ?_
  intro k hk
  (try dsimp only at hk ⊢)
  refine cod_seq ?_
  refine cod_region ?_
  refine lst_int rfl rfl rfl bin_lss ?_
  refine lst_nil ?_
  refine ex_then ?_
  refine cod_seq ?_
  refine cod_cond_dec rfl (fun hc0 => ?_) (fun hc0 => ?_)
  · have hk' : k < L.length := by omega
    obtain ⟨i, hi⟩ : ∃ i, L[k]? = some i := ⟨_, List.getElem?_eq_getElem hk'⟩
    have hic : i ∈ canTo ags used x ags.length := by rw [hL]; exact List.mem_of_getElem? hi
    obtain ⟨hil, _, _⟩ := canTo_mem hic
    obtain ⟨g, o, rfl, hgl, hcell⟩ := hA (by omega)
    obtain ⟨y, hy⟩ : ∃ y, ags[i]? = some y := ⟨_, List.getElem?_eq_getElem hil⟩
    have hyo : y.ok := hok.2 y (List.mem_of_getElem? hy)
    have hyd : ags.getD i default = y := by rw [List.getD_eq_getElem?_getD, hy]; rfl
    have hz := putN_lt hyo hx
    have hms := msgsAt_succ (ags := ags) (used := used) (x := x) (k := k) (i := i) (by rw [hL]; exact hi)
    rw [hyd] at hms
    refine cod_skip ?_
    refine ex_then ?_
    refine cod_seq ?_
    refine cod_block ?_
    refine cod_seq ?_
    refine cod_region ?_
    refine lst_index_row (j := k) rfl rfl rfl Tryd.underlying25 F.ti3 rfl hk' rfl rfl ?_
    intro gr hgr
    refine lst_load_row (v := .int .i64 (i : Int)) rfl rfl F.one3 hgr (by rw [Nat.mul_one]; unfold ints; rw [List.getElem?_map, hi]; rfl) ?_
    refine lst_assign rfl rfl ?_
    refine lst_nil ?_
    refine ex_then ?_
    refine anyO_start (hpS := [.row 3 1 rA L.length rc (ints L)]) F.follows 10 rfl [false, false, false, false, false, false, false, false, false, false] rfl ?_
    refine anyO_take 0 rfl rfl rfl (by kernel_rfl) (by kernel_rfl) (by kernel_rfl) sbl (fun _ => yld_load_at rfl F.one158 (fun _ _ ha => ha.old (show (saying u _).cell? _ = _ from cf) fb_lt)) rfl ?_
    refine anyO_take 1 rfl rfl rfl (by kernel_rfl) (by kernel_rfl) (by kernel_rfl) sbl (fun _ => yld_field_z rfl F.fi75_0 F.ti72) rfl ?_
    refine anyO_take 2 rfl rfl rfl (by kernel_rfl) (by kernel_rfl) (by kernel_rfl) sbl (fun _ => yld_load_at rfl F.one72 (fun _ _ ha => ha.old (show (saying u _).cell? _ = _ from c0) cb_lt)) rfl ?_
    refine anyO_take 3 rfl rfl rfl (by kernel_rfl) (by kernel_rfl) (by kernel_rfl) sbl (fun _ => yld_move rfl) rfl ?_
    refine anyO_take 4 rfl rfl rfl (by kernel_rfl) (by kernel_rfl) (by kernel_rfl) sbl (fun _ => yld_index (j := i) rfl rfl Tryd.underlying72 F.ti89 rfl hil) rfl ?_
    refine anyO_take 5 rfl rfl rfl (by kernel_rfl) (by kernel_rfl) (by kernel_rfl) sbl (fun _ => yld_loadN_at (l := [.int .i64 (y.needs : Int), .int .i64 (y.no : Int), .int .i64 (y.takes : Int), .int .i64 (y.leaves : Int), .int .i64 (y.cost : Int)]) rfl F.agg89 F.ti89 rfl (fun a w ha j u' hu' => ha.old (hcell i y hy j u' hu') hgl)) rfl ?_
    refine anyO_take 6 rfl rfl rfl (by kernel_rfl) (by kernel_rfl) (by kernel_rfl) sbl (fun _ => yld_load_at rfl F.one77 (fun _ _ ha => ha.old (show (saying u _).cell? _ = _ from cx) xb_lt)) rfl ?_
    refine anyO_one 7 (by kernel_rfl) rfl rfl ?_
    refine lst_fn0 (vs := [_, _]) rfl rfl F.ent91 (fun a w ha => put_c y x hyo (by omega) w) ?_
    refine lst_nil ?_
    refine anyO_next sbl ?_
    refine anyO_take 8 rfl rfl rfl (by kernel_rfl) (by kernel_rfl) (by kernel_rfl) sbl (fun _ => yld_struct (vs := [(0, _)]) (l' := [_, _]) rfl F.ti160 F.pl160 (.cons rfl rfl (.nil _)) rfl) rfl ?_
    refine anyO_one 9 (by kernel_rfl) rfl rfl ?_
    refine lst_sync0 (T := Unit) (fun _ => True) (fun _ => ⟨Tryd.prog, u.heap.size, saying u #[enc1 (msgsAt ags used x (k + 1))], 25, []⟩) (fun _ => [.row 3 1 rA L.length rc (ints L)]) (fun _ => rfl) (fun a w ha => sy_send (K := Kf low) (x := UInt8.ofNat (putN y x)) (l := msgsAt ags used x (k + 1)) (by rw [ha.below.output]; show #[enc1 (msgsAt ags used x k)] = _; rw [hms]) (ofNat_ne hz) trivial (fun w' => by rw [hmsg _ hz]; exact run_send rfl rfl ha w') ⟨(), trivial, ha.said _⟩) (fun _ _ => ?_)
    refine lst_nil ?_
    refine anyO_last (C := ⟨Tryd.prog, u.heap.size, saying u #[enc1 (msgsAt ags used x k)], 25, []⟩) (x := #[enc1 (msgsAt ags used x (k + 1))]) (List.Sublist.refl _) (by kernel_rfl) ?_
    refine ex_block_normal ?_
    refine ex_then ?_
    refine cod_region ?_
    refine lst_int rfl rfl rfl (fun w => bin_add w (wrap_i64' _ (by omega) (by omega))) ?_
    refine lst_move rfl rfl ?_
    refine lst_nil ?_
    exact ex_roundC (k + 1) rfl (by (try dsimp only); omega) (by (try dsimp only); omega) sbn (Pck.refl _)
  · refine cod_exit ?_
    refine ex_then_exit ?_
    refine ex_then_exit ?_
    refine ex_block_exit ?_
    obtain rfl : k = L.length := by omega
    intro a w ha
    have hb : (bD 123).kind ≠ .early := by simp [bD]
    have hend : msgsAt ags used x L.length = [255] := by rw [← hL]; exact msgsAt_end
    rw [hend] at ha
    have hd : a.defers = [] := ha.defs
    refine Gs.one rfl (fun _ => stepG_region) ?_
    refine gs_yld (rest := [1, 2]) ha rfl hb (yld_load_at rfl F.one158 (fun _ _ ha => ha.old (show (saying u _).cell? _ = _ from cf) fb_lt)) ?_
    have ha1 := ha.put (d := 23) (lt_of_blt rfl) (.chan (some c))
    refine gs_yld (rest := [2]) ha1 rfl hb (yld_struct (vs := [(1, _)]) (l' := [_, _]) rfl F.ti160 F.pl160 (.cons rfl rfl (.nil _)) rfl) ?_
    have ha2 := ha1.put (d := 24) (lt_of_blt rfl) (.agg [.int .u8 0, .bool true].toArray)
    refine Gs.sync' fun v₁ h1 => ?_
    have ha3 := ha2.later h1
    have h255 : (Kf low).msg 255 = .agg [.int .u8 0, .bool true].toArray := by
      show Value.agg (newsL _).toArray = _
      unfold newsL
      rw [if_pos rfl]
    refine ⟨rfl, 255, [], ha3.below.output, fun F S w' hw' => ⟨_, stepG_comm rfl rfl hb (by rw [h255]; exact run_send rfl rfl ha3 w'), listed_ok (n := .comm #[scase c ((Kf low).msg 255) (Kf low).z] true .send) trivial (fun w' => by rw [h255]; exact run_send rfl rfl ha3 w') hw'⟩, fun _ => ⟨4, ?_⟩, Gs.stop fun v₂ h2 => h2.output⟩
    rw [served_at rfl]
    exact quits_bD Tryd.func123 rfl (by exact hd) _
end Go.Proofs.YtofkhehcnfiopaaDoor.N
namespace Go.Proofs.YtofkhehcnfiopaaDoor.N
open Go Go.RowKit Go.Proofs Go.Conc
set_option autoImplicit false
set_option linter.unusedSectionVars false
section
variable [I : Sys]
theorem F.fi160_0 : FI Tryd.prog 160 0 77 0 := ⟨_, _, Tryd.underlying160, rfl, rfl, rfl⟩
theorem F.fi160_1 : FI Tryd.prog 160 1 4 1 := ⟨_, _, Tryd.underlying160, rfl, rfl, rfl⟩
end
/-- One more is started: what the others may take it to be. -/
theorem go_c {low : Nat} {ags : List Ag} {used f met x k N : Nat} {now : List Nat} {v0 w : World} {cb fb xb c gr nc cg : Nat} {aA : Option Addr} {gl : List Nat} {s : Gst} {a : Act} {fr : List (Nat × Value)} (hok : Oks ags) (hu : used < 256) (_hf : f < 64)
    (hlow : low ≤ v0.heap.size) (hgl : ∀ b ∈ gl, ∃ cs t, v0.heap[b]? = some (.cells cs t (0, 0)) ∧ 0 < cs.size) (hRd : 0 < ags.length → ∃ g, g ∈ gl ∧ aA = some ⟨g, 0, none⟩) (hA : RdL Ag.cells 5 v0 aA ags)
    (hI : RIr ags used f met now) (hx : now[k]? = some x) (hk0 : k = 0 → s = ⟨0, [], []⟩) (hk1 : 0 < k → s.c = c ∧ cb ∈ s.sl ∧ fb ∈ s.sl ∧ ∀ b ∈ gl, b ∈ s.sl) (hpend : s.pend = (now.take k).map (msgs ags used))
    (ha : At (Cr Tryd.prog v0.heap.size N [] v0 s) fr [.blk xb (.cells [.int .u8 (x : Int)].toArray 77 (0, 0)), .row 77 1 (some ⟨gr, 0, none⟩) now.length nc (u8s now), .blk cb (.cells [.slice aA ags.length cg, .int .u8 (used : Int)].toArray 75 (0, if k = 0 then 0 else 2)), .blk fb (.cells [.chan (some c)].toArray 158 (0, if k = 0 then 0 else 1)), .blk c (if k = 0 then .chan 0 #[] false 0 0 false else blank)] a w) :
    c ∉ [cb, xb, fb] ++ gl ∧ low ≤ c ∧ Givable ([cb, xb, fb] ++ gl) w ∧ (∀ b ∈ [cb, xb, fb] ++ gl, b ∈ s.sl ∨ ∃ cs t, w.heap[b]? = some (.cells cs t (0, 0))) ∧
      ((s.pend = [] ∧ s.sl = [] ∧ w.heap[c]? = some (.chan 0 #[] false 0 0 false)) ∨ (s.pend ≠ [] ∧ s.c = c)) ∧
      Works Tryd.prog (Kf low) c (born Tryd.prog { target := .fn (.func 123) [.pointer (some ⟨cb, 0, none⟩), .pointer (some ⟨xb, 0, none⟩), .pointer (some ⟨fb, 0, none⟩)].toArray, args := #[] }) (saying (onlyV ([cb, xb, fb] ++ gl) w) #[enc1 (msgs ags used x)]) ∧
      At (Cr Tryd.prog v0.heap.size N [] v0 ⟨c, s.sl ++ ([cb, xb, fb] ++ gl), s.pend ++ [msgs ags used x]⟩) fr [.row 77 1 (some ⟨gr, 0, none⟩) now.length nc (u8s now), .blk cb (.cells [.slice aA ags.length cg, .int .u8 (used : Int)].toArray 75 (0, 2)), .blk fb (.cells [.chan (some c)].toArray 158 (0, 1)), .blk c blank] a (saying (hideB c (chill ([cb, xb, fb] ++ gl) w)) (Gst.enc ⟨c, s.sl ++ ([cb, xb, fb] ++ gl), s.pend ++ [msgs ags used x]⟩)) := by
  have hb := fun r (h : r ∈ [Res.blk xb (.cells [.int .u8 (x : Int)].toArray 77 (0, 0)), .row 77 1 (some ⟨gr, 0, none⟩) now.length nc (u8s now), .blk cb (.cells [.slice aA ags.length cg, .int .u8 (used : Int)].toArray 75 (0, if k = 0 then 0 else 2)), .blk fb (.cells [.chan (some c)].toArray 158 (0, if k = 0 then 0 else 1)), .blk c (if k = 0 then .chan 0 #[] false 0 0 false else blank)]) => ha.own r h
  have hap := ha.apart
  have h1 := hb (.blk xb (.cells [.int .u8 (x : Int)].toArray 77 (0, 0))) (by simp)
  have h2 := hb (.row 77 1 (some ⟨gr, 0, none⟩) now.length nc (u8s now)) (by simp)
  have h3 := hb (.blk cb (.cells [.slice aA ags.length cg, .int .u8 (used : Int)].toArray 75 (0, if k = 0 then 0 else 2))) (by simp)
  have h4 := hb (.blk fb (.cells [.chan (some c)].toArray 158 (0, if k = 0 then 0 else 1))) (by simp)
  have h5 := hb (.blk c (if k = 0 then .chan 0 #[] false 0 0 false else blank)) (by simp)
  have hids : [xb, gr, cb, fb, c].Nodup := hap
  simp only [List.nodup_cons, List.mem_cons, List.not_mem_nil, or_false, not_or, List.nodup_nil, and_true, not_false_eq_true] at hids
  obtain ⟨⟨n1, n2, n3, n4⟩, ⟨n5, n6, n7⟩, ⟨n8, n9⟩, n10⟩ := hids
  have hgrB : v0.heap.size ≤ gr := (Res.lt h2 gr rfl).1
  have hglB : ∀ b ∈ gl, b < v0.heap.size := fun b hb => by obtain ⟨cs, t, h, _⟩ := hgl b hb; exact (Array.getElem?_eq_some_iff.1 h).1
  have hglw : ∀ b ∈ gl, ∃ cs t, v0.heap[b]? = some (.cells cs t (0, 0)) ∧ 0 < cs.size ∧ w.heap[b]? = some (.cells cs t (0, if b ∈ s.sl then cs.size else 0)) := fun b hb => by
    obtain ⟨cs, t, h, h'⟩ := hgl b hb
    refine ⟨cs, t, h, h', ?_⟩
    rw [ha.oldR (hglB b hb), h]
    by_cases e : b ∈ s.sl <;> simp [e, Obj.chill]
  have hxlt : x < 64 := (hI.sub x (List.mem_of_getElem? hx)).1
  have hcB : v0.heap.size ≤ c := h5.1
  have hcl : c ∉ [cb, xb, fb] ++ gl := by
    simp only [List.cons_append, List.nil_append, List.mem_cons, not_or]
    exact ⟨fun e => n9 e.symm, fun e => n4 e.symm, fun e => n10 e.symm, fun h => by have := hglB c h; omega⟩
  have hxc : k = 0 ∨ 0 < k := by omega
  have hsl0 : k = 0 → s.sl = [] := fun e => by rw [hk0 e]
  refine ⟨hcl, Nat.le_trans hlow h5.1, fun b hbm => ?_, fun b hbm => ?_, ?_, ?_, ?_⟩
  · simp only [List.cons_append, List.nil_append, List.mem_cons] at hbm
    rcases hbm with rfl | rfl | rfl | hbm
    · exact ⟨_, _, _, h3.2, by by_cases e : k = 0 <;> simp [e], by simp⟩
    · exact ⟨_, _, _, h1.2, .inl rfl, by simp⟩
    · exact ⟨_, _, _, h4.2, by by_cases e : k = 0 <;> simp [e], by simp⟩
    · obtain ⟨cs, t, _, h6, h7⟩ := hglw b hbm
      exact ⟨_, _, _, h7, by by_cases e : b ∈ s.sl <;> simp [e], h6⟩
  · simp only [List.cons_append, List.nil_append, List.mem_cons] at hbm
    rcases hbm with rfl | rfl | rfl | hbm
    · rcases hxc with e | e
      · exact .inr ⟨_, _, by simpa [e] using h3.2⟩
      · exact .inl (hk1 e).2.1
    · exact .inr ⟨_, _, h1.2⟩
    · rcases hxc with e | e
      · exact .inr ⟨_, _, by simpa [e] using h4.2⟩
      · exact .inl (hk1 e).2.2.1
    · rcases hxc with e | e
      · obtain ⟨cs, t, _, h6, h7⟩ := hglw b hbm
        exact .inr ⟨cs, t, by simpa [hsl0 e] using h7⟩
      · exact .inl ((hk1 e).2.2.2 b hbm)
  · rcases hxc with e | e
    · refine .inl ⟨by rw [hpend, e]; rfl, hsl0 e, by simpa [e] using h5.2⟩
    · refine .inr ⟨?_, (hk1 e).1⟩
      rw [hpend]
      intro e2
      have := congrArg List.length e2
      have hl := (List.getElem?_eq_some_iff.1 hx).1
      simp only [List.length_map, List.length_take, List.length_nil] at this
      omega
  · refine worker_c (cg := cg) (ctb := 75) (fz1 := (0, 2)) (fz2 := (0, 1)) (fz3 := (0, 1)) hok hu hxlt ?_ ?_ ?_ (rdl_only hA fun hl g o he => ?_)
    · exact (by rw [heap_onlyV, h3.2]; simp [Obj.chill] : (onlyV ([cb, xb, fb] ++ gl) w).heap[cb]? = some (.cells [.slice aA ags.length cg, .int .u8 (used : Int)].toArray 75 (0, 2)))
    · exact (by rw [heap_onlyV, h1.2]; simp [Obj.chill] : (onlyV ([cb, xb, fb] ++ gl) w).heap[xb]? = some (.cells [.int .u8 (x : Int)].toArray 77 (0, 1)))
    · exact (by rw [heap_onlyV, h4.2]; simp [Obj.chill] : (onlyV ([cb, xb, fb] ++ gl) w).heap[fb]? = some (.cells [.chan (some c)].toArray 158 (0, 1)))
    · obtain ⟨g', hg', e⟩ := hRd hl
      rw [e] at he
      cases he
      obtain ⟨cs, t, h6, _, h7⟩ := hglw _ hg'
      exact ⟨by simp [hg'], cs, t, _, _, h6, h7⟩
  · refine ha.hired h5.1 (fun r hr => ?_) ?_
    · simp only [List.mem_cons, List.not_mem_nil, or_false] at hr
      rcases hr with rfl | rfl | rfl | rfl
      · refine Res.held h2 fun k hk => ?_
        cases hk
        refine ⟨?_, n7⟩
        simp only [List.cons_append, List.nil_append, List.mem_cons, not_or]
        exact ⟨n5, fun e => n1 e.symm, n6, fun h => by have := hglB _ h; omega⟩
      · exact Res.lent h3 (by simp) n9
      · exact Res.lent h4 (by simp) n10
      · exact Res.gone h5
    · show [gr, cb, fb, c].Nodup
      simp [n5, n6, n7, n8, n9, n10]
end Go.Proofs.YtofkhehcnfiopaaDoor.N
namespace Go.Proofs.YtofkhehcnfiopaaDoor.N
open Go Go.RowKit Go.Proofs Go.Conc
set_option autoImplicit false
set_option linter.unusedSectionVars false
set_option maxRecDepth 4000 in
theorem reach_c {low : Nat} {ags : List Ag} {used f cg : Nat} {aA : Option Addr} {gl : List Nat} (hok : Oks ags) (hu : used < 256) (hf : f < 64) (w : World)
    (hlow : low ≤ w.heap.size) (hout : w.output = Gst.enc ⟨0, [], []⟩) (hgl : ∀ b ∈ gl, ∃ cs t, w.heap[b]? = some (.cells cs t (0, 0)) ∧ 0 < cs.size) (hRd : 0 < ags.length → ∃ g, g ∈ gl ∧ aA = some ⟨g, 0, none⟩) (hA : RdL Ag.cells 5 w aA ags) :
    @Calls Tryd.prog (mSys Tryd.prog (Kf low)) 105 #[.agg [.slice aA ags.length cg, .int .u8 (used : Int)].toArray, .int .u8 (f : Int)] w fun e w' => ∃ m, SetN m (Rch ags used f) ∧ e = .returned (.int .u64 (m : Int)) ∧ Grew w w' [] := by
  letI : Sys := mSys Tryd.prog (Kf low)
  have h64 := hok.1
  refine enter (N := 57) [(0, .agg [.slice aA ags.length cg, .int .u8 (used : Int)].toArray), (1, .int .u8 (f : Int))] Tryd.func105 rfl Tryd.ntmps105 rfl rfl ?_
  refine cod_startR hout ?_
  refine cod_seq ?_
  refine cod_region ?_
  refine lst_box rfl rfl ?_
  intro cb
  refine lst_assign rfl rfl ?_
  refine lst_nil ?_
  refine ex_then ?_
  refine cod_scope ?_
  refine cod_seq ?_
  refine cod_region ?_
  refine lst_move rfl rfl ?_
  refine lst_fn0 (vs := [_, _]) rfl rfl F.ent121 (fun a w ha => mwith_c 0 f (by omega) hf w) ?_
  refine lst_assign rfl rfl ?_
  refine lst_nil ?_
  refine ex_then ?_
  refine cod_seq ?_
  refine cod_region ?_
  refine lst_move rfl rfl ?_
  refine lst_lit (vs := [(0, _)]) rfl rfl Tryd.underlying84 F.ti77 rfl rfl rfl ?_
  intro b16
  refine lst_assign rfl rfl ?_
  refine lst_blk_row1 (.head _) ?_
  refine lst_nil ?_
  refine ex_then ?_
  refine cod_seq ?_
  refine cod_label ?_
  refine ex_then ?_
  refine cod_seq ?_
  refine cod_block ?_
  -- the rounds
  refine cod_loop' (G := Nat × List Nat × Option Addr × Nat) (fun g => RIr ags used f g.1 g.2.1 ∧ g.2.1 ≠ []) (fun g => unmet g.1) (fun g => [(2, .pointer (some ⟨cb, 0, none⟩)), (5, .int .u64 (g.1 : Int)), (6, .slice g.2.2.1 g.2.1.length g.2.2.2)]) (fun g => [.row 77 1 g.2.2.1 g.2.1.length g.2.2.2 (u8s g.2.1), .blk cb (.cells [.slice aA ags.length cg, .int .u8 (used : Int)].toArray 75 (0, 0))]) (0 ||| 1 <<< f, [f], some ⟨b16, 0, none⟩, 1) ⟨RIr.first hf, by simp⟩ sbn pkk ?_
  rintro ⟨met, now, nA, nc⟩ ⟨hI, hne⟩
  dsimp only at hI hne ⊢
  have hnow : ∀ x ∈ now, x < 64 := fun x hx => (hI.sub x hx).1
  have hn64 : now.length ≤ 64 := nodup_le 64 now hI.nodup hnow
  have hnpos : 0 < now.length := List.length_pos_iff.2 hne
  refine cod_block ?_
  refine cod_seq ?_
  refine cod_region ?_
  refine lst_know (φ := ∃ g, nA = some ⟨g, 0, none⟩) (fun a w ha => row_some (ha.own (.row 77 1 nA now.length nc (u8s now)) (by simp)) hnpos) (fun hsome => ?_)
  obtain ⟨gr, rfl⟩ := hsome
  refine lst_makeChan rfl Tryd.underlying158 F.ti160 ?_
  intro c
  refine lst_alloc rfl F.ti158 ?_
  intro fb
  refine lst_store rfl rfl F.ti158 rfl ?_
  refine lst_nil ?_
  refine ex_then ?_
  refine cod_seq ?_
  refine cod_seq ?_
  refine cod_region ?_
  refine lst_move rfl rfl ?_
  refine lst_len rfl rfl Tryd.underlying84 ?_
  refine lst_move rfl rfl ?_
  refine lst_nil ?_
  refine ex_then ?_
  refine cod_block ?_
  -- who is started
  refine cod_loopC (T := Nat × Gst) (fun g => g.1 ≤ now.length ∧ (g.1 = 0 → g.2 = ⟨0, [], []⟩) ∧ (0 < g.1 → g.2.c = c ∧ cb ∈ g.2.sl ∧ fb ∈ g.2.sl ∧ ∀ b ∈ gl, b ∈ g.2.sl) ∧ g.2.pend = (now.take g.1).map (msgs ags used) ∧ ∀ b ∈ g.2.sl, b < w.heap.size → b ∈ gl) (fun g => now.length - g.1) (fun g => Cr Tryd.prog w.heap.size 57 [] w g.2)
    (fun g => [(2, .pointer (some ⟨cb, 0, none⟩)), (5, .int .u64 (met : Int)), (6, .slice (some ⟨gr, 0, none⟩) now.length nc), (7, .pointer (some ⟨fb, 0, none⟩)), (18, .slice (some ⟨gr, 0, none⟩) now.length nc), (19, .int .i64 (now.length : Int)), (20, .int .i64 (g.1 : Int))])
    (fun g => [.row 77 1 (some ⟨gr, 0, none⟩) now.length nc (u8s now), .blk cb (.cells [.slice aA ags.length cg, .int .u8 (used : Int)].toArray 75 (0, if g.1 = 0 then 0 else 2)), .blk fb (.cells [.chan (some c)].toArray 158 (0, if g.1 = 0 then 0 else 1)), .blk c (if g.1 = 0 then .chan 0 #[] false 0 0 false else blank)]) (fun _ => rfl) (0, ⟨0, [], []⟩) ⟨Nat.zero_le _, fun _ => rfl, fun h => absurd h (by simp), rfl, fun b hb => by cases hb⟩ rfl sbn pkk ?_
  rintro ⟨k, s⟩ ⟨hk, hk0, hk1, hpend, hold⟩
  dsimp only at hk hk0 hk1 hpend hold ⊢
  refine cod_seq ?_
  refine cod_region ?_
  refine lst_int rfl rfl rfl bin_lss ?_
  refine lst_nil ?_
  refine ex_then ?_
  refine cod_seq ?_
  refine cod_cond_dec rfl (fun hc0 => ?_) (fun hc0 => ?_)
  · have hk' : k < now.length := by omega
    obtain ⟨x, hx⟩ : ∃ x, now[k]? = some x := ⟨_, List.getElem?_eq_getElem hk'⟩
    refine cod_skip ?_
    refine ex_then ?_
    refine cod_seq ?_
    refine cod_block ?_
    refine cod_seq ?_
    refine cod_region ?_
    refine lst_index_row (j := k) rfl rfl rfl Tryd.underlying84 F.ti77 rfl hk' rfl rfl ?_
    intro gr' hgr'
    cases hgr'
    refine lst_load_row (v := .int .u8 (x : Int)) rfl rfl F.one77 rfl (by rw [Nat.mul_one]; unfold u8s; rw [List.getElem?_map, hx]; rfl) ?_
    refine lst_alloc rfl F.ti77 ?_
    intro xb
    refine lst_store rfl rfl F.ti77 rfl ?_
    refine lst_know (φ := w.heap.size ≤ cb ∧ w.heap.size ≤ xb ∧ w.heap.size ≤ fb) (fun a w ha => ⟨(ha.own _ (InB.mem (b := cb))).1, (ha.own _ (InB.mem (b := xb))).1, (ha.own _ (InB.mem (b := fb))).1⟩) (fun hbs => ?_)
    refine lst_nil ?_
    refine ex_then ?_
    refine cod_region ?_
    refine lst_makeFunc (fs := []) (cs := [_, _, _]) rfl rfl rfl ?_
    refine lst_sync0 (T := Unit) (fun _ => True) (fun _ => Cr Tryd.prog w.heap.size 57 [] w ⟨c, s.sl ++ ([cb, xb, fb] ++ gl), s.pend ++ [msgs ags used x]⟩) (fun _ => [.row 77 1 (some ⟨gr, 0, none⟩) now.length nc (u8s now), .blk cb (.cells [.slice aA ags.length cg, .int .u8 (used : Int)].toArray 75 (0, 2)), .blk fb (.cells [.chan (some c)].toArray 158 (0, 1)), .blk c blank]) (fun _ => rfl) (fun a w1 ha => ?_) (fun _ _ => ?_)
    · obtain ⟨h1, h2, h3, h4, h5, h6, h7⟩ := go_c (low := low) (met := met) hok hu hf hlow hgl hRd hA hI hx hk0 hk1 hpend ha
      exact sy_go (K := Kf low) ha.outs h5 h2 h1 h3 h4 (msgs_said hok (hnow x (List.mem_of_getElem? hx)) (hI.sound x (hnow x (List.mem_of_getElem? hx)) (hI.sub x (List.mem_of_getElem? hx)).2)).1 tame_goV (run_go rfl ha) rfl h6 ⟨(), trivial, h7⟩
    refine lst_nil ?_
    refine ex_block_normal ?_
    refine ex_then ?_
    refine cod_region ?_
    refine lst_int rfl rfl rfl (fun w => bin_add w (wrap_i64' _ (by omega) (by omega))) ?_
    refine lst_move rfl rfl ?_
    refine lst_nil ?_
    refine ex_roundC (k + 1, ⟨c, s.sl ++ ([cb, xb, fb] ++ gl), s.pend ++ [msgs ags used x]⟩) rfl ⟨by (try dsimp only); omega, fun h => absurd h (by simp), fun _ => ⟨rfl, by simp, by simp, fun b hb => by simp [hb]⟩, ?_, ?_⟩ (by (try dsimp only); omega) sbn pkk
    · show s.pend ++ [msgs ags used x] = _
      rw [hpend, List.take_add_one, hx]
      simp
    · intro b hb hlt
      rcases List.mem_append.1 hb with h | h
      · exact hold b h hlt
      · simp only [List.cons_append, List.nil_append, List.mem_cons] at h
        rcases h with rfl | rfl | rfl | h
        · omega
        · omega
        · omega
        · exact h
  · obtain rfl : k = now.length := by omega
    obtain ⟨sc, ssl, spend⟩ := s
    obtain ⟨rfl, hcb, hfb, hgs⟩ := hk1 hnpos
    have hn0 : now.length ≠ 0 := by omega
    simp only [if_neg hn0]
    dsimp only at hpend hold hcb hfb hgs
    rw [List.take_length] at hpend
    subst hpend
    refine cod_exit ?_
    refine ex_then_exit ?_
    refine ex_then_exit ?_
    refine ex_block_exit ?_
    refine ex_then ?_
    refine cod_seq ?_
    refine cod_region ?_
    refine lst_assign rfl rfl ?_
    refine lst_nil ?_
    refine ex_then ?_
    refine cod_nil 77 1 ?_
    refine cod_seq ?_
    refine cod_seq ?_
    refine cod_region ?_
    refine lst_move rfl rfl ?_
    refine lst_len rfl rfl Tryd.underlying84 ?_
    refine lst_assign rfl rfl ?_
    refine lst_nil ?_
    refine ex_then ?_
    refine cod_block ?_
    -- what they tell
    refine cod_loopC (T := Nat × List Nat × Option Addr × Nat × List (List UInt8)) (fun g => RR ags used f met now g.1 g.2.1 g.2.2.2.2 ∧ g.2.2.2.2.length ≤ 64) (fun g => words g.2.2.2.2) (fun g => Cr Tryd.prog w.heap.size 57 [] w ⟨sc, ssl, g.2.2.2.2⟩)
      (fun g => [(2, .pointer (some ⟨cb, 0, none⟩)), (5, .int .u64 (g.1 : Int)), (7, .pointer (some ⟨fb, 0, none⟩)), (10, .slice g.2.2.1 g.2.1.length g.2.2.2.1), (11, .int .i64 (g.2.2.2.2.length : Int))])
      (fun g => [.row 77 1 g.2.2.1 g.2.1.length g.2.2.2.1 (u8s g.2.1), .blk cb (.cells [.slice aA ags.length cg, .int .u8 (used : Int)].toArray 75 (0, 2)), .blk fb (.cells [.chan (some sc)].toArray 158 (0, 1))]) (fun _ => rfl) (met, [], none, 0, now.map (msgs ags used)) ⟨hI.start hok, by (try dsimp only); rw [List.length_map]; exact hn64⟩ rfl (by (try dsimp only); rw [List.length_map]; repeat (first | exact Sub.nil _ | refine Sub.cons rfl ?_)) pkk ?_
    rintro ⟨met', next, xA, xc, pend⟩ ⟨hR, hpl⟩
    dsimp only at hR hpl ⊢
    have hnx : next.length ≤ 64 := nodup_le 64 next hR.nodup (fun y hy => (hR.fresh y hy).1)
    refine cod_seq ?_
    refine cod_seq ?_
    refine cod_region ?_
    refine lst_move rfl rfl ?_
    refine lst_int rfl rfl rfl bin_gtr ?_
    refine lst_nil ?_
    refine ex_then ?_
    refine cod_cond_dec rfl (fun hc1 => ?_) (fun hc1 => ?_)
    · have hpe : pend ≠ [] := by rintro rfl; simp at hc1
      refine cod_skip ?_
      refine ex_then ?_
      refine cod_block ?_
      refine cod_seq ?_
      refine cod_region ?_
      refine lst_load_fz rfl rfl F.one158 ?_
      refine lst_sync (T := Nat × UInt8 × List UInt8) (fun g => pend[g.1]? = some (g.2.1 :: g.2.2)) (fun g => Cr Tryd.prog w.heap.size 57 [] w (Gst.after (Kf low) ⟨sc, ssl, pend⟩ g.1 g.2.1 g.2.2)) (fun g => .agg (newsL g.2.1).toArray) (fun _ => [.row 77 1 xA next.length xc (u8s next), .blk cb (.cells [.slice aA ags.length cg, .int .u8 (used : Int)].toArray 75 (0, 2)), .blk fb (.cells [.chan (some sc)].toArray 158 (0, 1))]) (fun _ => rfl) (fun _ => rfl) rfl
        (fun a w1 ha => sy_recv (K := Kf low) (s := ⟨sc, ssl, pend⟩) ha.outs hpe (tame_recvOp ..) (fun w2 => run_recv rfl Tryd.underlying158 F.ti160 ha w2) (fun i b l hl => ⟨(i, b, l), hl, rfl, ha.saidR (Gst.after (Kf low) ⟨sc, ssl, pend⟩ i b l) rfl⟩)) ?_
      rintro ⟨i, b, l⟩ hl
      dsimp only at hl ⊢
      by_cases hb : b = 255
      · subst hb
        have e1 : newsL 255 = [.int .u8 0, .bool true] := by unfold newsL; rw [if_pos rfl]
        have e2 : Gst.after (Kf low) ⟨sc, ssl, pend⟩ i 255 l = ⟨sc, ssl, pend.eraseIdx i⟩ := by unfold Gst.after; rw [if_pos (show (255 : UInt8) = (Kf low).done from rfl)]
        rw [e1, e2]
        have hil : i < pend.length := (List.getElem?_eq_some_iff.1 hl).1
        have e3 : (pend.eraseIdx i).length = pend.length - 1 := by rw [List.length_eraseIdx, if_pos hil]
        have e4 : ((pend.length - 1 : Nat) : Int) = (pend.length : Int) - 1 := by omega
        refine lst_alloc rfl F.ti160 ?_
        intro b12
        refine lst_store rfl rfl F.ti160 rfl ?_
        refine lst_nil ?_
        refine ex_then ?_
        refine cod_block ?_
        refine cod_seq ?_
        refine cod_region ?_
        refine lst_field_z rfl rfl F.fi160_1 F.ti4 ?_
        refine lst_load rfl rfl F.one4 ?_
        refine lst_assign rfl rfl ?_
        refine lst_nil ?_
        refine ex_then ?_
        refine cod_cond_true rfl ?_
        refine cod_region ?_
        refine lst_move rfl rfl ?_
        refine lst_int rfl rfl rfl (fun w => bin_sub w (wrap_i64' _ (by omega) (by omega))) ?_
        refine lst_assign rfl rfl ?_
        refine lst_nil ?_
        refine ex_block_normal ?_
        refine ex_block_normal ?_
        exact ex_roundC (met', next, xA, xc, pend.eraseIdx i) rfl ⟨hR.done hok hnow hl, by (try dsimp only); omega⟩ (words_erase hl) (by (try dsimp only); rw [e3, e4]; repeat (first | exact Sub.nil _ | refine Sub.cons rfl ?_)) pkk
      · have hb64 := ((hR.one hl).2 b (by simp) hb).1
        have e1 : newsL b = [.int .u8 (b.toNat : Int), .bool false] := by unfold newsL; rw [if_neg hb]
        have e2 : Gst.after (Kf low) ⟨sc, ssl, pend⟩ i b l = ⟨sc, ssl, pend.set i l⟩ := by unfold Gst.after; rw [if_neg (show ¬ b = (Kf low).done from hb)]
        rw [e1, e2]
        refine lst_alloc rfl F.ti160 ?_
        intro b12
        refine lst_store rfl rfl F.ti160 rfl ?_
        refine lst_nil ?_
        refine ex_then ?_
        refine cod_block ?_
        refine cod_seq ?_
        refine cod_region ?_
        refine lst_field_z rfl rfl F.fi160_1 F.ti4 ?_
        refine lst_load rfl rfl F.one4 ?_
        refine lst_assign rfl rfl ?_
        refine lst_nil ?_
        refine ex_then ?_
        refine cod_cond_false rfl ?_
        refine cod_seq ?_
        refine cod_region ?_
        refine lst_move rfl rfl ?_
        refine lst_field_z rfl rfl F.fi160_0 F.ti77 ?_
        refine lst_load rfl rfl F.one77 ?_
        refine lst_fn0 (vs := [_, _]) rfl rfl F.ent104 (fun a w ha => mhas_c met' b.toNat hR.lt w) ?_
        refine lst_not rfl rfl ?_
        refine lst_assign rfl rfl ?_
        refine lst_nil ?_
        refine ex_then ?_
        refine cod_cond_bool rfl (fun hc3 => ?_) (fun hc3 => ?_)
        · have hc3' : met'.testBit b.toNat = false := by simpa using hc3
          refine cod_seq ?_
          refine cod_region ?_
          refine lst_move rfl rfl ?_
          refine lst_field_z rfl rfl F.fi160_0 F.ti77 ?_
          refine lst_load rfl rfl F.one77 ?_
          refine lst_fn0 (vs := [_, _]) rfl rfl F.ent121 (fun a w ha => mwith_c met' b.toNat hR.lt hb64 w) ?_
          refine lst_assign rfl rfl ?_
          refine lst_nil ?_
          refine ex_then ?_
          refine cod_region ?_
          refine lst_move rfl rfl ?_
          refine lst_field_z rfl rfl F.fi160_0 F.ti77 ?_
          refine lst_load rfl rfl F.one77 ?_
          refine lst_lit (vs := [(0, _)]) rfl rfl Tryd.underlying84 F.ti77 rfl rfl rfl ?_
          intro b50
          refine lst_append rfl rfl rfl Tryd.underlying84 F.ti77 rfl rfl rfl (by unfold maxLen; omega) (by omega) ?_
          intro A1 c1
          refine lst_assign rfl rfl ?_
          refine lst_nil ?_
          refine ex_block_normal ?_
          refine ex_block_normal ?_
          exact ex_roundC (met' ||| 1 <<< b.toNat, next ++ [b.toNat], A1, c1, pend.set i l) rfl ⟨hR.new hok hnow hl hb hc3', by (try dsimp only); rw [List.length_set]; exact hpl⟩ (words_set hl) (by (try dsimp only); simp only [List.length_append, List.length_singleton, List.length_set]; repeat (first | exact Sub.nil _ | refine Sub.cons rfl ?_)) (by (try dsimp only); simp only [u8s_snoc, List.length_append, List.length_singleton]; repeat (first | exact Pck.nil _ | exact Pck.refl _ | (apply Pck.cons; focus ((repeat (first | exact Rem.here _ | apply Rem.there)); done)) | refine Pck.skip _ ?_))
        · have hc3' : met'.testBit b.toNat = true := by simpa using hc3
          refine cod_skip ?_
          refine ex_block_normal ?_
          refine ex_block_normal ?_
          exact ex_roundC (met', next, xA, xc, pend.set i l) rfl ⟨hR.word hok hnow hl hb hc3', by (try dsimp only); rw [List.length_set]; exact hpl⟩ (words_set hl) (by (try dsimp only); rw [List.length_set]; repeat (first | exact Sub.nil _ | refine Sub.cons rfl ?_)) pkk
    · obtain rfl : pend = [] := by
        cases pend with
        | nil => rfl
        | cons a l => simp at hc1
      refine cod_exit ?_
      refine ex_then_exit ?_
      refine ex_then_exit ?_
      refine ex_block_exit ?_
      refine ex_then ?_
      refine cod_settle (K := Kf low) [.row 77 1 xA next.length xc (u8s next), .blk cb (.cells [.slice aA ags.length cg, .int .u8 (used : Int)].toArray 75 (0, 0))] rfl (fun a v ha => ha.settled (fun b hb hlt => by obtain ⟨cs, t, h, _⟩ := hgl b (hold b hb hlt); exact ⟨cs, t, h⟩) (fun r hr => ?_) ?_) ?_
      · simp only [List.mem_cons, List.not_mem_nil, or_false] at hr
        rcases hr with rfl | rfl
        · exact Res.kept (ha.own _ (by simp)) (fun b o e => by cases e)
        · exact Res.back (ha.own (.blk cb (.cells [.slice aA ags.length cg, .int .u8 (used : Int)].toArray 75 (0, 2))) (by simp)) hcb
      · have h1 := ha.apart.sublist (List.Sublist.filterMap Res.id (show [Res.row 77 1 xA next.length xc (u8s next), .blk cb (.cells [.slice aA ags.length cg, .int .u8 (used : Int)].toArray 75 (0, 2))].Sublist [.row 77 1 xA next.length xc (u8s next), .blk cb (.cells [.slice aA ags.length cg, .int .u8 (used : Int)].toArray 75 (0, 2)), .blk fb (.cells [.chan (some sc)].toArray 158 (0, 1))] from .cons_cons _ (.cons_cons _ (List.nil_sublist _))))
        have e : List.filterMap Res.id [Res.row 77 1 xA next.length xc (u8s next), .blk cb (.cells [.slice aA ags.length cg, .int .u8 (used : Int)].toArray 75 (0, 0))] = List.filterMap Res.id [Res.row 77 1 xA next.length xc (u8s next), .blk cb (.cells [.slice aA ags.length cg, .int .u8 (used : Int)].toArray 75 (0, 2))] := by simp [List.filterMap_cons, Res.id]
        rw [e]
        exact h1
      have hfin := hR.over hI hf
      refine cod_seq ?_
      refine cod_seq ?_
      refine cod_region ?_
      refine lst_move rfl rfl ?_
      refine lst_len rfl rfl Tryd.underlying84 ?_
      refine lst_int rfl rfl rfl bin_eql ?_
      refine lst_nil ?_
      refine ex_then ?_
      refine cod_cond_dec rfl (fun hc2 => ?_) (fun hc2 => ?_)
      · obtain rfl : next = [] := List.eq_nil_of_length_eq_zero (by omega)
        refine cod_exit ?_
        refine ex_then_exit ?_
        refine ex_block_other rfl ?_
        refine ex_then_exit ?_
        refine ex_block_exit ?_
        refine ex_then ?_
        refine cod_seq ?_
        refine cod_region ?_
        refine lst_move rfl rfl ?_
        refine lst_assign rfl rfl ?_
        refine lst_nil ?_
        refine ex_then ?_
        refine cod_ret ?_
        refine ex_scope_ret ?_
        exact ex_ret rfl (fun a w ha => res_one rfl rfl ha) (fun a w' ha => ⟨met', hfin.final hok hf, rfl, (ha.endR hout).grown (List.nil_sublist _)⟩)
      · have hnn : next ≠ [] := by rintro rfl; simp at hc2
        refine cod_skip ?_
        refine ex_then ?_
        refine cod_region ?_
        refine lst_move rfl rfl ?_
        refine lst_assign rfl rfl ?_
        refine lst_nil ?_
        refine ex_block_normal ?_
        exact ex_round' (met', next, xA, xc) ⟨hfin, hnn⟩ (hR.nearer hnn) sbn pkk
end Go.Proofs.YtofkhehcnfiopaaDoor.N
namespace Go.Proofs.YtofkhehcnfiopaaDoor.N
open Go Go.RowKit Go.Proofs
set_option linter.unusedSectionVars false
variable [I : Sys]
theorem F.ent101 : Enters Tryd.prog 101 := enters_of Tryd.func101 rfl (by kernel_rfl)
end Go.Proofs.YtofkhehcnfiopaaDoor.N
namespace Go.Proofs.YtofkhehcnfiopaaDoor.N
open Go Go.RowKit Go.Proofs
set_option linter.unusedSectionVars false
variable [I : Sys]
/-- What Shortest says. -/
structure ShS (ags : List Ag) (p f : Nat) (W : List Nat) (E : Nat) : Prop where
  yes : E = 0 → Clr ags (usedAll ags.length) p f ∧ (∃ c, Wy ags (usedAll ags.length) p f c W.length) ∧ ∀ c k, Wy ags (usedAll ags.length) p f c k → W.length ≤ k
  no : E ≠ 0 → E = 11 ∧ ¬ Clr ags (usedAll ags.length) p f ∧ W = []
theorem ShS.zero {ags : List Ag} {p f E : Nat} {W : List Nat} (h : ShS ags p f W E) (hc : Clr ags (usedAll ags.length) p f) : E = 0 := by
  by_cases hE : E = 0
  · exact hE
  · exact absurd hc (h.no hE).2.1
theorem ShS.iff {ags : List Ag} {p f E : Nat} {W : List Nat} (h : ShS ags p f W E) : E = 0 ↔ Clr ags (usedAll ags.length) p f := ⟨fun hE => (h.yes hE).1, h.zero⟩
end Go.Proofs.YtofkhehcnfiopaaDoor.N
namespace Go.Proofs.YtofkhehcnfiopaaDoor.N
open Go Go.RowKit Go.Proofs Go.Conc
set_option autoImplicit false
set_option linter.unusedSectionVars false
/-- Whoever may call reach. -/
class Rea [I : Sys] where
  low : Nat
  reach : ∀ {ags : List Ag} {used f cg : Nat} {aA : Option Addr} {gl : List Nat} (_ : Oks ags) (_ : used < 256) (_ : f < 64) (w : World) (_ : low ≤ w.heap.size) (_ : w.output = Gst.enc ⟨0, [], []⟩)
    (_ : ∀ b ∈ gl, ∃ cs t, w.heap[b]? = some (.cells cs t (0, 0)) ∧ 0 < cs.size) (_ : 0 < ags.length → ∃ g, g ∈ gl ∧ aA = some ⟨g, 0, none⟩) (_ : RdL Ag.cells 5 w aA ags),
    Calls Tryd.prog 105 #[.agg [.slice aA ags.length cg, .int .u8 (used : Int)].toArray, .int .u8 (f : Int)] w fun e w' => ∃ m, SetN m (Rch ags used f) ∧ e = .returned (.int .u64 (m : Int)) ∧ Grew w w' []
instance rea_main (low : Nat) : @Rea (mSys Tryd.prog (Kf low)) := @Rea.mk (mSys Tryd.prog (Kf low)) low fun h1 h2 h3 w h4 h5 h6 h7 h8 => reach_c h1 h2 h3 w h4 h5 h6 h7 h8
/-- The world in which it may be called. -/
def Rdy [I : Sys] [R : Rea] (w : World) : Prop := R.low ≤ w.heap.size ∧ w.output = Gst.enc ⟨0, [], []⟩
variable [I : Sys] [R : Rea]
theorem Rdy.later {w w' : World} {B : Nat} (h : Rdy w) (hb : Below B w w') : Rdy w' := ⟨Nat.le_trans h.1 hb.size, hb.output.trans h.2⟩
theorem reach_in {C : Ctx} {fr : List (Nat × Value)} {T : List Res} {a : Act} {w : World} (hC : C.P = Tryd.prog) {ags : List Ag} {used f cg : Nat} {aA : Option Addr} (hok : Oks ags) (hu : used < 256) (hf : f < 64) (hR : Rdy C.w0) (hAg : Res.row 89 5 aA ags.length cg (ags.flatMap Ag.cells) ∈ T) (ha : At C fr T a w) :
    Calls C.P 105 #[.agg [.slice aA ags.length cg, .int .u8 (used : Int)].toArray, .int .u8 (f : Int)] w fun e w' => ∃ m, SetN m (Rch ags used f) ∧ e = .returned (.int .u64 (m : Int)) ∧ Grew w w' [] := by
  obtain ⟨P, B, w0, N0, ds⟩ := C
  obtain rfl : P = Tryd.prog := hC
  have hR' := hR.later ha.below
  have hrd := row_reads ha (cells := Ag.cells) (e := 89) (c := cg) (n := ags.length) (l := ags) (fun _ => rfl) hAg rfl
  have hown := ha.own _ hAg
  by_cases hl : 0 < ags.length
  · obtain ⟨hx, h2 | ⟨g, cap, cur, hv, hg, hh, hc, hm, hs, ht⟩⟩ := hown
    · omega
    · cases hv
      refine R.reach (gl := [g]) hok hu hf w hR'.1 hR'.2 (fun b hb => ?_) (fun _ => ⟨g, by simp, rfl⟩) hrd
      simp at hb
      subst hb
      exact ⟨cur, 89, hh, by rw [hs]; omega⟩
  · exact R.reach (gl := []) hok hu hf w hR'.1 hR'.2 (fun b hb => by cases hb) (fun h => absurd h hl) hrd
/-- All that a melt can become, in order. -/
noncomputable def rchL (ags : List Ag) (f : Nat) : List Nat := fltP (Rch ags (usedAll ags.length) f) (List.range 64)
theorem rchL_mem {ags : List Ag} (hok : Oks ags) {f : Nat} (hf : f < 64) {y : Nat} : y ∈ rchL ags f ↔ Rch ags (usedAll ags.length) f y := by
  unfold rchL
  rw [fltP_mem, List.mem_range]
  exact ⟨fun h => h.2, fun h => ⟨h.lt hok hf, h⟩⟩
theorem rchL_len (ags : List Ag) (f : Nat) : (rchL ags f).length ≤ 64 := by
  have := fltP_len (Rch ags (usedAll ags.length) f) (List.range 64)
  rw [List.length_range] at this
  exact this
end Go.Proofs.YtofkhehcnfiopaaDoor.N
namespace Go.Proofs.YtofkhehcnfiopaaDoor.N
open Go Go.RowKit Go.Proofs
set_option linter.unusedSectionVars false
variable [I : Sys] [R : Rea]
theorem F.ent105 : Enters Tryd.prog 105 := enters_of Tryd.func105 rfl (by kernel_rfl)
theorem Reach_ok (A : Option Addr) (c : Nat) (ags : List Ag) (hok : Oks ags) (f : Nat) (hf : f < 64) (w : World) (hA : RdL Ag.cells 5 w A ags) (hR : Rdy w) : Calls Tryd.prog 59 #[.slice A ags.length c, .int .i64 (f : Int)] w fun e w' => ∃ A' c', e = .returned (.tuple #[.slice A' (rchL ags f).length c', .int .i64 0]) ∧ Grew w w' [.row 3 1 A' (rchL ags f).length c' (ints (rchL ags f))] := by
  have hua : usedAll ags.length < 256 := by have := usedAll_lt hok.1; omega
  refine enter_defers (N := 14) [(0, .slice A ags.length c), (1, .int .i64 (f : Int))] Tryd.func59 rfl Tryd.ntmps59 rfl rfl ?_
  refine cod_seq ?_
  refine cod_region ?_
  refine lst_assign rfl rfl ?_
  refine lst_alloc rfl F.ti35 ?_
  intro b5
  refine lst_nil ?_
  refine ex_then ?_
  refine cod_seq ?_
  refine cod_region ?_
  refine lst_defer (first := []) (cap := []) (vs := [_]) rfl rfl ?_
  refine lst_nil ?_
  refine ex_then ?_
  refine cod_seq ?_
  refine cod_region ?_
  refine lst_move rfl rfl ?_
  refine lst_fn (X := Option Addr × Nat) (vs := [_]) (p := fun _ => True) (val := fun x => .agg [.slice x.1 ags.length x.2, .int .u8 (usedAll ags.length : Nat)].toArray) (rs := fun x => [.row 89 5 x.1 ags.length x.2 (ags.flatMap Ag.cells)]) rfl rfl F.ent75 (fun a w ha => (begin_ok A c ags hok w (hA.later ha.below)).mono (fun e w' h => by obtain ⟨A', c', h1, h2⟩ := h; exact ⟨(A', c'), trivial, h1, h2⟩)) ?_
  rintro ⟨aA, cg⟩ -
  dsimp only [List.cons_append, List.nil_append]
  refine lst_alloc rfl F.ti75 ?_
  intro b6
  refine lst_store rfl rfl F.ti75 rfl ?_
  refine lst_nil ?_
  refine ex_then ?_
  refine cod_seq ?_
  refine any_begin [.b b5] F.follows 7 rfl [false, false, false, false, false, false, false] rfl ?_
  refine any_tk 0 rfl rfl rfl (yld_loadN rfl F.agg75 F.ti75) ?_
  refine any_tk 1 rfl rfl rfl (yld_move rfl) ?_
  refine any_one 2 (by kernel_rfl) rfl rfl ?_
  refine lst_fn0 (vs := [_]) rfl rfl F.ent76 (fun a w ha => melt_ok f hf w) ?_
  refine lst_nil ?_
  refine any_next sbl ?_
  refine any_one 3 (by kernel_rfl) rfl rfl ?_
  refine lst_fn (X := Nat) (vs := [_, _]) (p := fun n => SetN n (Rch ags (usedAll ags.length) f)) (val := fun n => .int .u64 (n : Int)) (rs := fun _ => []) rfl rfl F.ent105 (fun a w ha => reach_in rfl hok hua hf hR (cg := cg) (by simp) ha) ?_
  intro n hset
  dsimp only [List.nil_append] at hset ⊢
  refine lst_nil ?_
  refine any_next sbl ?_
  refine any_one 4 (by kernel_rfl) rfl rfl ?_
  refine lst_fn (X := Option Addr × Nat) (vs := [_]) (p := fun _ => True) (val := fun x => .slice x.1 (rchL ags f).length x.2) (rs := fun x => [.row 3 1 x.1 (rchL ags f).length x.2 (ints (rchL ags f))]) rfl rfl F.ent101 (fun a w ha => (mlist_c n hset.1 w).mono (fun e w' h => by obtain ⟨A', c', h1, h2⟩ := h; rw [listN_flt hset] at h1 h2; exact ⟨(A', c'), trivial, h1, h2⟩)) ?_
  rintro ⟨lA, lc⟩ -
  dsimp only [List.cons_append, List.nil_append]
  refine lst_nil ?_
  refine any_next sbl ?_
  refine any_tk 5 rfl rfl rfl (yld_assign rfl) ?_
  refine any_one 6 (by kernel_rfl) rfl rfl ?_
  refine lst_store rfl rfl F.ti35 rfl ?_
  refine lst_nil ?_
  refine any_next sbl ?_
  refine any_done rfl (by kernel_rfl) ?_
  refine ex_then ?_
  refine cod_ret ?_
  exact ex_ret_caught (fun a w ha => ⟨_, res_tc (fn := Tryd.f59) ha rfl rfl rfl F.one35, lA, lc, rfl, ha.grown sbl⟩)

end Go.Proofs.YtofkhehcnfiopaaDoor.N
namespace Go.Proofs.YtofkhehcnfiopaaDoor.N
open Go Go.RowKit Go.Proofs
set_option linter.unusedSectionVars false
variable [I : Sys]
variable {C : Ctx} {fr : List (Nat × Value)} {hp : List Res} {ops : Array Oper} {Q : Exit → Act → World → Prop} {rest : List Oper} {d : Nat} {ty : TypeId} {pos : String} {after : Array Edge}
theorem flatMap_len {α : Type} {cells : α → List Value} {size : Nat} (hs : ∀ x, (cells x).length = size) (l : List α) : (l.flatMap cells).length = l.length * size := by
  induction l with
  | nil => simp
  | cons x l ih => rw [List.flatMap_cons, List.length_append, hs, ih, List.length_cons, Nat.succ_mul]; omega
theorem RdL.cells_at {α : Type} {cells : α → List Value} {size : Nat} (hs : ∀ x, (cells x).length = size) (h0 : 0 < size) {w : World} {p : Addr} {l : List α} (h : RdL cells size w (some p) l) {j : Nat} {u : Value} (hu : (l.flatMap cells)[j]? = some u) : w.cell? (p.add j) = some u := by
  have hj : j < l.length * size := by
    rw [← flatMap_len hs]
    rcases Nat.lt_or_ge j (l.flatMap cells).length with h1 | h1
    · exact h1
    · rw [List.getElem?_eq_none h1] at hu; cases hu
  have hk : j / size < l.length := Nat.div_lt_of_lt_mul (by rw [Nat.mul_comm]; exact hj)
  obtain ⟨b, o, h1, _, h3⟩ := h (Nat.lt_of_le_of_lt (Nat.zero_le _) hk)
  cases h1
  have hd := Nat.div_add_mod j size
  rw [Nat.mul_comm] at hd
  have hm : j % size < size := Nat.mod_lt _ h0
  have hx : l[j / size]? = some l[j / size] := List.getElem?_eq_getElem hk
  have hjs : j % size < (cells l[j / size]).length := by rw [hs]; exact hm
  have hc : (cells l[j / size])[j % size]? = some (cells l[j / size])[j % size] := List.getElem?_eq_getElem hjs
  have h4 := flatMap_get hs l _ _ hx _ _ hc
  rw [hd, hu] at h4
  have h5 := h3 _ _ hx _ _ hc
  rw [addr_add]
  rw [Nat.add_assoc, hd] at h5
  rw [h5]
  exact h4.symm
/-- What is appended reads as a list. -/
theorem lst_append_cells {α : Type} {cells : α → List Value} {x y : Operand} {t e : TypeId} {A : Option Addr} {p : Addr} {n c m cb size bytes : Nat} {xs : List Value} {l : List α} {z : Value} {hp' : Option Addr → Nat → List Res} (hd : Nat.blt d C.N = true)
    (hx : ev fr x = some (.slice A n c)) (hy : ev fr y = some (.slice (some p) m cb)) (ht : C.P.underlying t = some (.slice e)) (hi : TI C.P e z size bytes) (hzs : z.cells.size = size) (hs0 : Nat.blt 0 size = true) (hs : ∀ x, (cells x).length = size) (ho1 : ∀ x, ∀ u ∈ cells x, u.oneCell' = true)
    (hnews : ∀ a w, At C fr hp a w → RdL cells size w (some p) l) (hl : l.length = m) [hr : InR A e size n c xs hp] [hu : ∀ A' c', UpR A e size n c xs (.row e size A' (n + m) c' (xs ++ l.flatMap cells)) hp (hp' A' c')]
    (h63 : n + m ≤ maxLen) (hbytes : (n + m) * bytes ≤ 140737488355328)
    (k : ∀ A' c', Lst C ops Q rest ((d, .slice A' (n + m) c') :: fr) (hp' A' c')) :
    Lst C ops Q (⟨some d, .call { callee := .builtin .append, args := #[x, y], argTypes := #[t, t] }, ty, pos, after, none⟩ :: rest) fr hp := by
  have ho : ∀ u ∈ l.flatMap cells, u.oneCell' = true := by
    intro u hu'
    obtain ⟨x, _, hx⟩ := List.mem_flatMap.1 hu'
    exact ho1 x u hx
  have hi' := hi
  obtain ⟨i, hi1, hi2, hi3, hi4⟩ := hi'
  have h0 := lt_of_blt hs0
  subst hi4
  refine lst_append_at hd hx hy ht hi hzs hs0 (fun a w ha j u hu => (hnews a w ha).cells_at hs h0 hu) (by rw [flatMap_len hs, hl]) ho (fun w v' w' hown hn hrun => ?_) h63 hbytes k
  exact append_place ht hi1 hi2 (hi3 ▸ hown) (by rw [flatMap_len hs, hi3, hl]) hn ho h63 hbytes hrun
theorem ra_len (x : RA) : x.cells.length = 5 := rfl
theorem ra_one (x : RA) : ∀ u ∈ x.cells, u.oneCell' = true := by
  intro u hu
  simp [RA.cells] at hu
  rcases hu with h | h | h | h | h <;> subst h <;> simp [Value.oneCell']
end Go.Proofs.YtofkhehcnfiopaaDoor.N
namespace Go.Proofs.YtofkhehcnfiopaaDoor.N
open Go Go.RowKit Go.Proofs
set_option linter.unusedSectionVars false
variable [I : Sys]
theorem ChS.mono {ags ms : List Ag} {p q f c c' E' : Nat} {W W' : List Nat} (hu : ∀ x ∈ ags, x ∈ ms) (hp : ∀ f, nn f p = 0 → nn f q = 0) (h : ChS ags p f W c 0) (h' : ChS ms q f W' c' E') : E' = 0 ∧ c' ≤ c := by
  have hw := (h.yes rfl).1.1.mono (ags' := ms) (used' := usedAll ms.length) (fun x hx => us_all.2 (hu x (us_all.1 hx))) hp
  by_cases hE : E' = 0
  · have := (h'.yes hE).1.2 _ _ hw
    unfold lexle at this
    exact ⟨hE, by omega⟩
  · exact absurd hw ((h'.no hE).2.2.2 _ _)
end Go.Proofs.YtofkhehcnfiopaaDoor.N
namespace Go.Proofs.YtofkhehcnfiopaaDoor.N
open Go Go.RowKit Go.Proofs
set_option linter.unusedSectionVars false
variable [I : Sys]
theorem F.ent24 : Enters Tryd.prog 24 := enters_of Tryd.func24 rfl (by kernel_rfl)
theorem dupa_nil  (w : World) : Calls Tryd.prog 24 #[.slice none 0 0] w fun e w' => ∃ A' c', e = .returned (.slice A' 0 c') ∧ Grew w w' [.row 24 5 A' 0 c' []] := by
  refine enter (N := 6) [(0, .slice none 0 0)] Tryd.func24 rfl Tryd.ntmps24 rfl rfl ?_
  refine cod_seq ?_
  refine cod_region ?_
  refine lst_assign rfl rfl ?_
  refine lst_nil ?_
  refine ex_then ?_
  refine cod_seq ?_
  refine cod_region ?_
  refine lst_lit0 rfl Tryd.underlying22 F.ti24 ?_
  intro b3
  refine lst_as_row 5 (.head _) ?_
  refine lst_move rfl rfl ?_
  refine lst_append_none rfl rfl rfl Tryd.underlying22 F.ti24 (Nat.le_refl _) ?_
  refine lst_assign rfl rfl ?_
  refine lst_nil ?_
  refine ex_then ?_
  refine cod_ret ?_
  exact ex_ret rfl (fun a w ha => res_one rfl rfl ha) (fun a w ha => ⟨_, 0, rfl, ha.grown sbl⟩)

theorem dupa_some {α : Type} {cells : α → List Value} (hs : ∀ x, (cells x).length = 5) (ho : ∀ x, ∀ u ∈ cells x, u.oneCell' = true) (p : Addr) (c : Nat) (l : List α) (hl : l.length ≤ 400000) (w : World) (hA : RdL cells 5 w (some p) l) : Calls Tryd.prog 24 #[.slice (some p) l.length c] w fun e w' => ∃ A' c', e = .returned (.slice A' l.length c') ∧ Grew w w' [.row 24 5 A' l.length c' (l.flatMap cells)] := by
  refine enter (N := 6) [(0, .slice (some p) l.length c)] Tryd.func24 rfl Tryd.ntmps24 rfl rfl ?_
  refine cod_seq ?_
  refine cod_region ?_
  refine lst_assign rfl rfl ?_
  refine lst_nil ?_
  refine ex_then ?_
  refine cod_seq ?_
  refine cod_region ?_
  refine lst_lit0 rfl Tryd.underlying22 F.ti24 ?_
  intro b3
  refine lst_as_row 5 (.head _) ?_
  refine lst_move rfl rfl ?_
  refine lst_append_cells (cells := cells) rfl rfl rfl Tryd.underlying22 F.ti24 rfl rfl hs ho (fun a w ha => hA.later ha.below) rfl (by unfold maxLen; omega) (by omega) ?_
  intro A1 c1
  refine lst_assign rfl rfl ?_
  refine lst_nil ?_
  refine ex_then ?_
  refine cod_ret ?_
  simp only [Nat.zero_add, List.nil_append]
  exact ex_ret rfl (fun a w ha => res_one rfl rfl ha) (fun a w ha => ⟨A1, c1, rfl, ha.grown sbl⟩)

theorem DupAgents_c {α : Type} {cells : α → List Value} (hs : ∀ x, (cells x).length = 5) (ho : ∀ x, ∀ u ∈ cells x, u.oneCell' = true) (A : Option Addr) (c : Nat) (l : List α) (hl : l.length ≤ 400000) (w : World) (hn : A = none → l = [] ∧ c = 0) (hA : RdL cells 5 w A l) :
    Calls Tryd.prog 24 #[.slice A l.length c] w fun e w' => ∃ A' c', e = .returned (.slice A' l.length c') ∧ Grew w w' [.row 24 5 A' l.length c' (l.flatMap cells)] := by
  cases A with
  | none =>
    obtain ⟨rfl, rfl⟩ := hn rfl
    exact dupa_nil w
  | some p => exact dupa_some hs ho p c l hl w hA

end Go.Proofs.YtofkhehcnfiopaaDoor.N
namespace Go.Proofs.YtofkhehcnfiopaaDoor.N
open Go Go.RowKit Go.Proofs
set_option linter.unusedSectionVars false
variable [I : Sys]
variable {C : Ctx} {fr : List (Nat × Value)} {hp hp' : List Res} {ops : Array Oper} {Q : Exit → Act → World → Prop} {rest : List Oper} {d : Nat} {ty : TypeId} {pos : String} {after : Array Edge}
theorem splice_take {cur xs vs out : List Value} {o L : Nat} (hx : cur.take L = xs) (hL : xs.length = L) (hs : Splice xs o vs out) : (cur.take o ++ vs ++ cur.drop (o + vs.length)).take L = out ∧ out.length = L := by
  have hl := hs.len
  have hcl : L ≤ cur.length := by
    have := congrArg List.length hx
    rw [List.length_take] at this
    omega
  have e : out = xs.take o ++ vs ++ xs.drop (o + vs.length) := hs.eq
  constructor
  · rw [e, ← hx]
    apply List.ext_getElem?
    intro i
    simp only [List.getElem?_take, List.getElem?_append, List.length_append, List.length_take, List.getElem?_drop]
    by_cases h1 : i < L
    · by_cases h2 : i < o
      · have h3 : i < min o cur.length := by omega
        have h4 : i < min o cur.length + vs.length := by omega
        have h5 : i < min o (min L cur.length) := by omega
        have h6 : i < min o (min L cur.length) + vs.length := by omega
        simp [h1, h2, h3, h4, h5, h6]
      · have e1 : min o cur.length = o := by omega
        have e2 : min o (min L cur.length) = o := by omega
        rw [e1, e2]
        by_cases h3 : i < o + vs.length
        · simp [h1, h2, h3]
        · have h4 : o + vs.length + (i - (o + vs.length)) < L := by omega
          simp [h1, h3, h4]
    · have h2 : ¬ i < min o (min L cur.length) := by omega
      have h3 : ¬ i < min o (min L cur.length) + vs.length := by omega
      have h4 : ¬ o + vs.length + (i - (min o (min L cur.length) + vs.length)) < L := by omega
      simp only [if_neg h1, if_neg h3, if_neg h4]
  · rw [e]
    simp
    omega
/-- A store, of one cell or of several, into a slice that is owned. -/
theorem lst_store_row {x y : Operand} {t e g o size N c n m : Nat} {xs vs out : List Value} {v z : Value} (hx : ev fr x = some (.pointer (some ⟨g, o, none⟩))) (hy : ev fr y = some v) (hi : TI C.P t z n m) [hc : Cells v vs] (hn : vs.length = n) (hs : Splice xs o vs out)
    (hu : Upd (.row e size (some ⟨g, 0, none⟩) N c xs) (.row e size (some ⟨g, 0, none⟩) N c out) hp hp')
    (k : Lst C ops Q rest fr hp') : Lst C ops Q (⟨none, .store t x y, ty, pos, after, none⟩ :: rest) fr hp := by
  obtain ⟨i, hi, _, hsz, _⟩ := hi
  refine lst_skip (fun _ _ _ => tame_storeOp ..) (fun a w ha => ?_) k
  obtain ⟨hlen, hown⟩ := ha.own _ hu.mem
  rcases hown with ⟨h1, _⟩ | ⟨g', cap, cur, hv, hb, hg, hnc, hm, hsize, htake⟩
  · cases h1
  · simp only [Value.slice.injEq, Option.some.injEq, Addr.mk.injEq, and_true, true_and] at hv
    obtain ⟨rfl, rfl⟩ := hv
    obtain ⟨ht1, ht2⟩ := splice_take htake hlen hs
    have hl := hs.len
    have hcl : N * size ≤ c * size := Nat.mul_le_mul_right size hnc
    have hcs : cur.toList.length = cur.size := Array.length_toList
    have hspl0 : o + vs.length ≤ cur.toList.length := by rw [hcs, hsize]; exact Nat.le_trans hl (by rw [hlen]; exact hcl)
    have hspl : Splice cur.toList o vs (cur.toList.take o ++ vs ++ cur.toList.drop (o + vs.length)) := ⟨rfl, hspl0⟩
    obtain ⟨w', s1, s2, s3⟩ := splice_upd hspl (t := e) (b := g) (w := w) (by rw [Array.toArray_toList]; exact hg) hc.one C.P
    refine ⟨w', ?_, ha.turn hu s3 ⟨ht2, .inr ⟨g, c, _, rfl, hb, s2, hnc, hm, ?_, ?_⟩⟩ (fun k hk => .inl hk)⟩
    · simp [execOp, ha.eval hx, ha.eval hy, Instr.storeAt, Instr.sureAddr, storeVar, sizeOf, typeInfo, hi, hc.eq, hn, hsz, s1]
    · simp
      omega
    · rw [List.toList_toArray]
      exact ht1
end Go.Proofs.YtofkhehcnfiopaaDoor.N
namespace Go.Proofs.YtofkhehcnfiopaaDoor.N
open Go Go.RowKit Go.Proofs
set_option linter.unusedSectionVars false
variable [I : Sys]
theorem splice_ints {l : List Nat} {o y : Nat} (ho : o < l.length) : Splice (ints l) o [.int .i64 (y : Int)] (ints (l.set o y)) := ⟨by
  unfold ints
  rw [List.map_set, List.set_eq_take_append_cons_drop, if_pos (by rw [List.length_map]; exact ho), List.append_assoc]; rfl, by rw [ints_len]; exact ho⟩
/-- No number twice. -/
def Inj (n : Nat) (l : List Nat) : Prop := l.length = n ∧ (∀ (a x : Nat), l[a]? = some x → x < n) ∧ ∀ (a b x : Nat), l[a]? = some x → l[b]? = some x → a = b
theorem Inj.range (n : Nat) : Inj n (List.range n) := by
  refine ⟨List.length_range, fun a x h => ?_, fun a b x h h' => ?_⟩
  · have := List.mem_range.1 (List.mem_of_getElem? h)
    exact this
  · obtain ⟨h1, e1⟩ := List.getElem?_eq_some_iff.1 h
    obtain ⟨h2, e2⟩ := List.getElem?_eq_some_iff.1 h'
    simp at e1 e2
    omega
theorem Inj.swap {n : Nat} {l : List Nat} (h : Inj n l) {i j x y : Nat} (hx : l[i]? = some x) (hy : l[j]? = some y) : Inj n ((l.set i y).set j x) := by
  obtain ⟨h1, h2, h3⟩ := h
  obtain ⟨hi, _⟩ := List.getElem?_eq_some_iff.1 hx
  obtain ⟨hj, _⟩ := List.getElem?_eq_some_iff.1 hy
  have key : ∀ (a z : Nat), ((l.set i y).set j x)[a]? = some z → l[if a = j then i else if a = i then j else a]? = some z := by
    intro a z hz
    rw [List.getElem?_set, List.length_set] at hz
    by_cases e1 : j = a
    · subst e1
      rw [if_pos rfl, if_pos hj] at hz
      rw [if_pos rfl, hx]
      exact hz
    · rw [if_neg e1, List.getElem?_set] at hz
      rw [if_neg (fun e => e1 e.symm)]
      by_cases e2 : i = a
      · subst e2
        rw [if_pos rfl, if_pos hi] at hz
        rw [if_pos rfl, hy]
        exact hz
      · rw [if_neg e2] at hz
        rw [if_neg (fun e => e2 e.symm)]
        exact hz
  refine ⟨by simp [h1], fun a z hz => h2 _ z (key a z hz), fun a b z ha hb => ?_⟩
  have := h3 _ _ z (key a z ha) (key b z hb)
  clear key h2 h3 ha hb hx hy
  revert this
  repeat' split
  all_goals omega
/-! Agents under other numbers. -/
theorem set_mem {l : List Ag} {o : Nat} {x y : Ag} (h : y ∈ l.set o x) : y ∈ l ∨ y = x := List.mem_or_eq_of_mem_set h
def Same (al bs : List Ag) : Prop := ∀ x, x ∈ al ↔ x ∈ bs
theorem Same.sym {al bs : List Ag} (h : Same al bs) : Same bs al := fun x => (h x).symm
theorem Same.clr {al bs : List Ag} (h : Same al bs) {p f : Nat} : Clr al (usedAll al.length) p f ↔ Clr bs (usedAll bs.length) p f :=
  ⟨Clr.mono (fun x hx => us_all.2 ((h x).1 (us_all.1 hx))) (fun _ h => h), Clr.mono (fun x hx => us_all.2 ((h x).2 (us_all.1 hx))) (fun _ h => h)⟩
theorem Same.wy {al bs : List Ag} (h : Same al bs) {p f c k : Nat} (hw : Wy al (usedAll al.length) p f c k) : Wy bs (usedAll bs.length) p f c k := hw.mono (fun x hx => us_all.2 ((h x).1 (us_all.1 hx))) (fun _ h => h)
theorem Same.short {al bs : List Ag} (h : Same al bs) {p f E E' : Nat} {W W' : List Nat} (h1 : ShS al p f W E) (h2 : ShS bs p f W' E') : E = E' ∧ W.length = W'.length := by
  by_cases hc : Clr al (usedAll al.length) p f
  · have e1 := h1.zero hc
    have e2 := h2.zero (h.clr.1 hc)
    obtain ⟨_, ⟨c1, w1⟩, m1⟩ := h1.yes e1
    obtain ⟨_, ⟨c2, w2⟩, m2⟩ := h2.yes e2
    exact ⟨by omega, Nat.le_antisymm (m1 _ _ (h.sym.wy w2)) (m2 _ _ (h.wy w1))⟩
  · have e1 := h1.no (fun e => hc (h1.iff.1 e))
    have e2 := h2.no (fun e => hc (h.clr.2 (h2.iff.1 e)))
    rw [e1.1, e2.1, e1.2.2, e2.2.2]
    exact ⟨rfl, rfl⟩
theorem Same.found {al bs : List Ag} (h : Same al bs) {p f : Nat} {o o' : Option Wk} (h1 : FoundO al (usedAll al.length) 1 (-1) (f, 0, 0) (fun t => decide (nn t.1 p = 0)) o) (h2 : FoundO bs (usedAll bs.length) 1 (-1) (f, 0, 0) (fun t => decide (nn t.1 p = 0)) o') : o.isSome = o'.isSome ∧ (wayO o).how.length = (wayO o').how.length := by
  obtain ⟨a1, a2, a3⟩ := short_spec h1
  obtain ⟨b1, b2, b3⟩ := short_spec h2
  have hi : o.isSome = true ↔ o'.isSome = true := a1.trans (h.clr.trans b1.symm)
  cases o with
  | none =>
    cases o' with
    | none => exact ⟨rfl, rfl⟩
    | some k => exact absurd (hi.2 rfl) (by simp)
  | some k =>
    cases o' with
    | none => exact absurd (hi.1 rfl) (by simp)
    | some k' =>
      refine ⟨rfl, ?_⟩
      obtain ⟨c1, w1⟩ := a2.resolve_right (by simp)
      obtain ⟨c2, w2⟩ := b2.resolve_right (by simp)
      exact Nat.le_antisymm ((a3.resolve_left (by simp)) _ _ (h.sym.wy w2)) ((b3.resolve_left (by simp)) _ _ (h.wy w1))
/-- What is known while agents get other numbers. -/
structure Ren (al os : List Ag) (l : List Nat) (i : Nat) : Prop where
  len : os.length = al.length
  sub : ∀ x ∈ os, x ∈ al
  done : ∀ (j q : Nat), j < i → l[j]? = some q → os[q]? = al[j]?
theorem Ren.zero (al : List Ag) (l : List Nat) : Ren al al l 0 := ⟨rfl, fun _ h => h, fun _ _ h => absurd h (by omega)⟩
theorem Ren.step {al os : List Ag} {l : List Nat} {i q : Nat} {x : Ag} (h : Ren al os l i) (hl : Inj al.length l) (hq : l[i]? = some q) (hx : al[i]? = some x) : Ren al (os.set q x) l (i + 1) := by
  have hql := hl.2.1 _ _ hq
  refine ⟨by rw [List.length_set]; exact h.len, fun y hy => ?_, fun j r hj hr => ?_⟩
  · rcases set_mem hy with h1 | h1
    · exact h.sub y h1
    · rw [h1]; exact List.mem_of_getElem? hx
  · rw [List.getElem?_set]
    by_cases e : q = r
    · subst e
      obtain rfl := hl.2.2 _ _ _ hq hr
      rw [if_pos rfl, if_pos (by rw [h.len]; exact hql), hx]
    · rw [if_neg e]
      have : j ≠ i := fun e' => by subst e'; rw [hq] at hr; exact e (Option.some.inj hr)
      exact h.done j r (by omega) hr
theorem Ren.same {al os : List Ag} {l : List Nat} (h : Ren al os l al.length) (hl : Inj al.length l) : Same al os := by
  intro x
  constructor
  · intro hx
    obtain ⟨j, hj, rfl⟩ := List.getElem_of_mem hx
    have hjl : j < l.length := by rw [hl.1]; exact hj
    have := h.done j _ hj (List.getElem?_eq_getElem hjl)
    rw [List.getElem?_eq_getElem hj] at this
    exact List.mem_of_getElem? this
  · exact h.sub x
end Go.Proofs.YtofkhehcnfiopaaDoor.N
namespace Go.Proofs.YtofkhehcnfiopaaDoor.N
open Go Go.RowKit Go.Proofs
set_option linter.unusedSectionVars false
variable [I : Sys] [R : Rea]
/-! The law's own search: a list that grows while it is read. -/
structure MB (ags : List Ag) (f : Nat) (met : List Nat) (i k : Nat) : Prop where
  nodup : met.Nodup
  sound : ∀ y ∈ met, Rch ags (usedAll ags.length) f y
  self : f ∈ met
  done : ∀ (j y : Nat), j < i → met[j]? = some y → ∀ a ∈ canTo ags (usedAll ags.length) y ags.length, putN (ags.getD a default) y ∈ met
  part : ∀ y : Nat, met[i]? = some y → ∀ a, a < k → a ∈ canTo ags (usedAll ags.length) y ags.length → putN (ags.getD a default) y ∈ met
section
variable {ags : List Ag} {f i k : Nat} {met : List Nat}
theorem MB.first : MB ags f [f] 0 0 := ⟨by simp, fun y hy => by simp at hy; subst hy; exact .base, by simp, fun j y hj => absurd hj (by omega), fun y _ a ha => absurd ha (by omega)⟩
theorem MB.le (h : MB ags f met i k) (hok : Oks ags) (hf : f < 64) : met.length ≤ 64 := nodup_le 64 met h.nodup fun x hx => (h.sound x hx).lt hok hf
theorem MB.skip (h : MB ags f met i k) {y : Nat} (hy : met[i]? = some y) (hn : k ∈ canTo ags (usedAll ags.length) y ags.length → putN (ags.getD k default) y ∈ met) : MB ags f met i (k + 1) := by
  refine ⟨h.nodup, h.sound, h.self, h.done, fun z hz a ha hc => ?_⟩
  rw [hy] at hz
  cases hz
  rcases Nat.lt_or_ge a k with h1 | h1
  · exact h.part y hy a h1 hc
  · obtain rfl : a = k := by omega
    exact hn hc
theorem MB.add (h : MB ags f met i k) {y : Nat} (hy : met[i]? = some y) (hc : k ∈ canTo ags (usedAll ags.length) y ags.length) (hn : putN (ags.getD k default) y ∉ met) : MB ags f (met ++ [putN (ags.getD k default) y]) i (k + 1) := by
  have hil : i < met.length := (List.getElem?_eq_some_iff.1 hy).1
  have old : ∀ (j z : Nat), j ≤ i → (met ++ [putN (ags.getD k default) y])[j]? = some z → met[j]? = some z := fun j z hj hz => by rwa [List.getElem?_append_left (by omega)] at hz
  refine ⟨?_, fun z hz => ?_, List.mem_append.2 (.inl h.self), fun j z hj hz a ha => List.mem_append.2 (.inl (h.done j z hj (old j z (by omega) hz) a ha)), fun z hz a ha hca => ?_⟩
  · rw [List.nodup_append]
    exact ⟨h.nodup, by simp, fun x hx z hz e => by simp at hz; subst hz; subst e; exact hn hx⟩
  · rcases List.mem_append.1 hz with h1 | h1
    · exact h.sound z h1
    · simp at h1; subst h1; exact (h.sound y (List.mem_of_getElem? hy)).step hc
  · have hz' := old i z (Nat.le_refl _) hz
    rcases Nat.lt_or_ge a k with h1 | h1
    · exact List.mem_append.2 (.inl (h.part z hz' a h1 hca))
    · obtain rfl : a = k := by omega
      rw [hy] at hz'
      cases hz'
      simp
theorem MB.row (h : MB ags f met i ags.length) : MB ags f met (i + 1) 0 := by
  refine ⟨h.nodup, h.sound, h.self, fun j y hj hy a ha => ?_, fun y _ a ha => absurd ha (by omega)⟩
  rcases Nat.lt_or_ge j i with h1 | h1
  · exact h.done j y h1 hy a ha
  · obtain rfl : j = i := by omega
    exact h.part y hy a (can_mem.1 ha).1 ha
theorem MB.all (h : MB ags f met met.length 0) {y : Nat} : y ∈ met ↔ Rch ags (usedAll ags.length) f y := by
  refine ⟨h.sound y, fun hr => ?_⟩
  induction hr with
  | base => exact h.self
  | step _ hi ih =>
    obtain ⟨j, hj⟩ := List.mem_iff_getElem?.1 ih
    exact h.done j _ (List.getElem?_eq_some_iff.1 hj).1 hj _ hi
theorem nodup_sub_len : ∀ (l m : List Nat), l.Nodup → (∀ x ∈ l, x ∈ m) → l.length ≤ m.length
  | [], _, _, _ => Nat.zero_le _
  | a :: l, m, h, hs => by
    have h1 := nodup_sub_len l (m.erase a) (List.nodup_cons.1 h).2 fun x hx => (List.mem_erase_of_ne (fun e => (List.nodup_cons.1 h).1 (by rw [← e]; exact hx))).2 (hs x (List.mem_cons_of_mem _ hx))
    rw [List.length_erase_of_mem (hs a (by simp))] at h1
    have := List.length_pos_of_mem (hs a (by simp))
    simp only [List.length_cons]
    omega
theorem rchL_sorted (ags : List Ag) (f : Nat) : (rchL ags f).Pairwise (· < ·) := List.Pairwise.sublist List.filter_sublist List.pairwise_lt_range
theorem rchL_nodup (ags : List Ag) (f : Nat) : (rchL ags f).Nodup := (rchL_sorted ags f).imp fun h => Nat.ne_of_lt h
theorem MB.length (h : MB ags f met met.length 0) (hok : Oks ags) (hf : f < 64) : met.length = (rchL ags f).length :=
  Nat.le_antisymm (nodup_sub_len _ _ h.nodup fun _x hx => (rchL_mem hok hf).2 (h.all.1 hx)) (nodup_sub_len _ _ (rchL_nodup ags f) fun _x hx => h.all.2 ((rchL_mem hok hf).1 hx))
end
end Go.Proofs.YtofkhehcnfiopaaDoor.N
namespace Go.Proofs.YtofkhehcnfiopaaDoor.N
open Go Go.RowKit Go.Proofs
set_option linter.unusedSectionVars false
variable [I : Sys] [R : Rea]
theorem F.ent59 : Enters Tryd.prog 59 := enters_of Tryd.func59 rfl (by kernel_rfl)
end Go.Proofs.YtofkhehcnfiopaaDoor.N
namespace Go.Proofs.YtofkhehcnfiopaaDoor.N
open Go Go.RowKit Go.Proofs
set_option linter.unusedSectionVars false
variable [I : Sys] [R : Rea]
section
variable {ags : List Ag} {a p k i : Nat} {v : List Nat} {o : Option Wk}
theorem sho_63 (hok : Oks ags) (ha : a < 64) (hf : FoundO ags (usedAll ags.length) 1 (-1) (a, 0, 0) (fun t => decide (nn t.1 p = 0)) o) : (wayO o).how.length ≤ 63 := by
  cases o with
  | none => exact Nat.zero_le _
  | some kk =>
    obtain ⟨s1, s2, s3⟩ := short_spec hf
    obtain ⟨c, hw⟩ := s2.resolve_right (by simp)
    have h3 := s3.resolve_left (by simp)
    obtain ⟨c', k', ho⟩ := Opt.ex hw
    have h63 := Opt.short hok ha ho
    have := h3 _ _ ho.1
    omega
end
end Go.Proofs.YtofkhehcnfiopaaDoor.N
namespace Go.Proofs.YtofkhehcnfiopaaDoor.N
open Go Go.RowKit Go.Proofs
set_option linter.unusedSectionVars false
variable [I : Sys]
/-- What is said first of agents and two numbers. -/
def askedR (l : List RA) (m p : Int) : Nat := if ¬ checkR l = 0 then checkR l else if (inB m 0 63 && inB p 0 63) = true then 0 else 1
theorem askedR_ok {ags : List Ag} {m : Nat} {p : Int} (hok : Oks ags) (hm : m < 64) (hp : 0 ≤ p ∧ p ≤ 63) : askedR (ags.map Ag.raw) (m : Int) p = 0 := by
  unfold askedR
  rw [checkR_raw hok, if_neg (by simp), if_pos]
  rw [Bool.and_eq_true, inB_true, inB_true]
  omega
end Go.Proofs.YtofkhehcnfiopaaDoor.N
