/- Parts of the walks of the laws on fining, those that FiningWays needs: Bfs, Step, F4, Goals, F5, Found, Found2, Caught, F6, Far. -/
import Derived.Test.YtofkhehcnfiopaaDoorSFiningWays03
import Derived.Test.YtofkhehcnfiopaaDoorProg
import Derived.Test.YtofkhehcnfiopaaDoorSFiningWays01
namespace Go.Proofs.YtofkhehcnfiopaaDoor.N
set_option linter.unusedSectionVars false
/-- The code of a word over n letters: the shorter words first, those of one length in lexicographic order. -/
def code (n : Nat) (w : List Nat) : Nat := w.foldl (fun c i => c * n + i + 1) 0
theorem code_nil (n : Nat) : code n [] = 0 := rfl
theorem code_snoc (n : Nat) (w : List Nat) (i : Nat) : code n (w ++ [i]) = code n w * n + i + 1 := by
  simp [code, List.foldl_append]
/-- All letters are below n. -/
def Wd (n : Nat) (w : List Nat) : Prop := ∀ i ∈ w, i < n
theorem Wd.snoc {n : Nat} {w : List Nat} {i : Nat} : Wd n (w ++ [i]) ↔ Wd n w ∧ i < n := by
  unfold Wd
  constructor
  · intro h
    exact ⟨fun j hj => h j (by simp [hj]), h i (by simp)⟩
  · rintro ⟨h, hi⟩ j hj
    rcases List.mem_append.1 hj with hj | hj
    · exact h j hj
    · simp at hj; omega
theorem snoc_cases (w : List Nat) : w = [] ∨ ∃ u i, w = u ++ [i] := by
  rcases List.eq_nil_or_concat w with h | ⟨u, i, h⟩
  · exact .inl h
  · exact .inr ⟨u, i, by simpa using h⟩
theorem code_snoc_lt {n a b i j : Nat} (h : a < b) (hj : j < n) : a * n + j + 1 < b * n + i + 1 := by
  have h1 : (a + 1) * n ≤ b * n := Nat.mul_le_mul_right n h
  rw [Nat.succ_mul] at h1
  omega
theorem code_lt_of_len (n : Nat) : ∀ (k : Nat) (u w : List Nat), u.length = k → w.length < k → Wd n w → code n w < code n u := by
  intro k
  induction k with
  | zero => intro u w _ h; omega
  | succ k ih =>
    intro u w hu hw hwd
    rcases snoc_cases u with rfl | ⟨u', i, rfl⟩
    · simp at hu
    rcases snoc_cases w with rfl | ⟨w', j, rfl⟩
    · rw [code_nil, code_snoc]; omega
    · rw [code_snoc, code_snoc]
      rw [Wd.snoc] at hwd
      simp at hu hw
      exact code_snoc_lt (ih u' w' hu (by omega) hwd.1) hwd.2
theorem len_le_of_code {n : Nat} {u w : List Nat} (hu : Wd n u) (h : code n w ≤ code n u) : w.length ≤ u.length := by
  rcases Nat.lt_or_ge u.length w.length with hl | hl
  · have := code_lt_of_len n _ w u rfl hl hu
    omega
  · exact hl
theorem digit_inj {n a b i j : Nat} (hi : i < n) (hj : j < n) (h : a * n + i + 1 = b * n + j + 1) : a = b ∧ i = j := by
  rcases Nat.lt_trichotomy a b with hab | hab | hab
  · have := code_snoc_lt (n := n) (i := j) hab hi; omega
  · subst hab; exact ⟨rfl, by omega⟩
  · have := code_snoc_lt (n := n) (i := i) hab hj; omega
theorem code_inj (n : Nat) : ∀ (k : Nat) (u w : List Nat), u.length = k → Wd n u → Wd n w → code n u = code n w → u = w := by
  intro k
  induction k with
  | zero =>
    intro u w hu hwu hww h
    have hu' : u = [] := List.length_eq_zero_iff.1 hu
    subst hu'
    rcases snoc_cases w with rfl | ⟨w', j, rfl⟩
    · rfl
    · rw [code_nil, code_snoc] at h; omega
  | succ k ih =>
    intro u w hu hwu hww h
    rcases snoc_cases u with rfl | ⟨u', i, rfl⟩
    · simp at hu
    rcases snoc_cases w with rfl | ⟨w', j, rfl⟩
    · rw [code_nil, code_snoc] at h; omega
    · rw [code_snoc, code_snoc] at h
      rw [Wd.snoc] at hwu hww
      simp at hu
      obtain ⟨h1, h2⟩ := digit_inj hwu.2 hww.2 h
      rw [ih u' w' hu hwu.1 hww.1 h1, h2]
theorem code_mono_snoc {n : Nat} {u w : List Nat} {i : Nat} (h : code n w ≤ code n u) : code n (w ++ [i]) ≤ code n (u ++ [i]) := by
  rw [code_snoc, code_snoc]
  have := Nat.mul_le_mul_right n h
  omega

section
variable {S : Type} (step : S → Nat → Option S)
/-- Where a word leads from a state. -/
def run : S → List Nat → Option S
  | s, [] => some s
  | s, i :: w => (step s i).bind fun t => run t w
theorem run_append (s : S) (u v : List Nat) : run step s (u ++ v) = (run step s u).bind fun t => run step t v := by
  induction u generalizing s with
  | nil => rfl
  | cons i u ih =>
    show (step s i).bind _ = ((step s i).bind _).bind _
    cases step s i with
    | none => rfl
    | some t => exact ih t
theorem run_snoc (s : S) (u : List Nat) (i : Nat) : run step s (u ++ [i]) = (run step s u).bind fun t => step t i := by
  rw [run_append]
  cases run step s u with
  | none => rfl
  | some t =>
    show (step t i).bind _ = step t i
    cases step t i <;> rfl
theorem run_wd {n : Nat} (hn : ∀ s i, n ≤ i → step s i = none) : ∀ (w : List Nat) (s t : S), run step s w = some t → Wd n w := by
  intro w
  induction w with
  | nil => intro s t _ i hi; simp at hi
  | cons i w ih =>
    intro s t h j hj
    have h' : ((step s i).bind fun t => run step t w) = some t := h
    cases hs : step s i with
    | none => rw [hs] at h'; cases h'
    | some s' =>
      rw [hs] at h'
      rcases List.mem_cons.1 hj with rfl | hj
      · rcases Nat.lt_or_ge j n with h2 | h2
        · exact h2
        · rw [hn s j h2] at hs; cases hs
      · exact ih s' t h' j hj

/-- Words that are not too long. -/
def Fits (most : Int) (w : List Nat) : Prop := most < 0 ∨ (w.length : Int) ≤ most
theorem Fits.init {most : Int} {u : List Nat} {i : Nat} (h : Fits most (u ++ [i])) : Fits most u ∧ (u.length : Int) ≠ most := by
  unfold Fits at *
  simp at h
  omega

/-- The first word, the shorter ones first, that leads to a goal. -/
def IsFirst (n : Nat) (most : Int) (s₀ : S) (goal : S → Bool) (w : List Nat) : Prop :=
  (∃ s, run step s₀ w = some s ∧ goal s = true) ∧ Fits most w ∧ ∀ v t, run step s₀ v = some t → goal t = true → Fits most v → code n w ≤ code n v
def NoWord (most : Int) (s₀ : S) (goal : S → Bool) : Prop := ∀ v t, run step s₀ v = some t → Fits most v → goal t = false

theorem IsFirst.unique {n : Nat} {most : Int} {s₀ : S} {goal : S → Bool} {w v : List Nat} (hn : ∀ s i, n ≤ i → step s i = none)
    (hw : IsFirst step n most s₀ goal w) (hv : IsFirst step n most s₀ goal v) : w = v := by
  obtain ⟨⟨s, hs, hg⟩, hf, hm⟩ := hw
  obtain ⟨⟨t, ht, hg'⟩, hf', hm'⟩ := hv
  have h1 := hm v t ht hg' hf'
  have h2 := hm' w s hs hg hf
  exact code_inj n _ w v rfl (run_wd step hn w _ _ hs) (run_wd step hn v _ _ ht) (by omega)
theorem IsFirst.not_none {n : Nat} {most : Int} {s₀ : S} {goal : S → Bool} {w : List Nat} (hw : IsFirst step n most s₀ goal w) (hv : NoWord step most s₀ goal) : False := by
  obtain ⟨⟨s, hs, hg⟩, hf, _⟩ := hw
  rw [hv w s hs hf] at hg
  cases hg

/-- What is met: words and states; those before k are done; of the one at k the letters below i are done. -/
structure BIn (n : Nat) (most : Int) (s₀ : S) (goal : S → Bool) (full : List (List Nat × S)) (k i : Nat) : Prop where
  sorted : ∀ (a b : Nat) (e f : List Nat × S), a < b → full[a]? = some e → full[b]? = some f → code n e.1 < code n f.1
  leads : ∀ e : List Nat × S, e ∈ full → run step s₀ e.1 = some e.2
  fits : ∀ e : List Nat × S, e ∈ full → Fits most e.1
  first : full[0]? = some ([], s₀)
  closed : ∀ (j : Nat) (e : List Nat × S), j < k → full[j]? = some e → goal e.2 = false ∧ ((e.1.length : Int) ≠ most → ∀ l t, step e.2 l = some t → ∃ f, f ∈ full ∧ f.2 = t ∧ code n f.1 ≤ code n (e.1 ++ [l]))
  now : ∀ e : List Nat × S, full[k]? = some e → ∀ l t, l < i → step e.2 l = some t → ∃ f, f ∈ full ∧ f.2 = t ∧ code n f.1 ≤ code n (e.1 ++ [l])
  parents : ∀ f : List Nat × S, f ∈ full → f.1 = [] ∨ ∃ j l e, full[j]? = some e ∧ (j < k ∨ j = k ∧ l < i) ∧ l < n ∧ f.1 = e.1 ++ [l]
  nodup : (full.map (·.2)).Nodup

variable {step}
variable {n : Nat} {most : Int} {s₀ : S} {goal : S → Bool} {full : List (List Nat × S)} {k i : Nat}

theorem BIn.start : BIn step n most s₀ goal [([], s₀)] 0 0 := by
  constructor
  · intro a b e f hab h1 h2
    have : b = 0 := by
      rcases Nat.eq_zero_or_pos b with h | h
      · exact h
      · rw [List.getElem?_eq_none (by simp; omega)] at h2; cases h2
    omega
  · intro e he; simp at he; subst he; rfl
  · intro e he; simp at he; subst he; unfold Fits; simp; omega
  · rfl
  · intro j e hj; omega
  · intro e _ l t hl; omega
  · intro f hf; simp at hf; subst hf; exact .inl rfl
  · simp

/-- Whoever is met has a smaller code than the next word. -/
theorem BIn.below (h : BIn step n most s₀ goal full k i) {w : List Nat} {s : S} (hk : full[k]? = some (w, s)) {f : List Nat × S} (hf : f ∈ full) :
    code n f.1 < code n (w ++ [i]) := by
  rcases h.parents f hf with h0 | ⟨j, l, e, he, hj, hl, hfe⟩
  · rw [h0, code_nil, code_snoc]; omega
  · rw [hfe, code_snoc, code_snoc]
    rcases hj with hj | ⟨rfl, hli⟩
    · exact code_snoc_lt (h.sorted _ _ _ _ hj he hk) hl
    · rw [hk] at he
      cases he
      show code n w * n + l + 1 < code n w * n + i + 1
      omega

theorem BIn.skip_none (h : BIn step n most s₀ goal full k i) {w : List Nat} {s : S} (hk : full[k]? = some (w, s)) (hs : step s i = none) :
    BIn step n most s₀ goal full k (i + 1) := by
  refine ⟨h.sorted, h.leads, h.fits, h.first, h.closed, ?_, ?_, h.nodup⟩
  · intro e he l t hl hst
    rcases Nat.lt_or_ge l i with h1 | h1
    · exact h.now e he l t h1 hst
    · have : l = i := by omega
      subst this
      rw [hk] at he; cases he
      rw [hs] at hst; cases hst
  · intro f hf
    rcases h.parents f hf with h0 | ⟨j, l, e, he, hj, hl, hfe⟩
    · exact .inl h0
    · exact .inr ⟨j, l, e, he, by omega, hl, hfe⟩

theorem BIn.skip_met (h : BIn step n most s₀ goal full k i) {w : List Nat} {s t : S} (hk : full[k]? = some (w, s)) (hs : step s i = some t) (hm : t ∈ full.map (·.2)) :
    BIn step n most s₀ goal full k (i + 1) := by
  refine ⟨h.sorted, h.leads, h.fits, h.first, h.closed, ?_, ?_, h.nodup⟩
  · intro e he l t' hl hst
    rcases Nat.lt_or_ge l i with h1 | h1
    · exact h.now e he l t' h1 hst
    · have : l = i := by omega
      subst this
      rw [hk] at he; cases he
      rw [hs] at hst; cases hst
      obtain ⟨f, hf, hft⟩ := List.mem_map.1 hm
      exact ⟨f, hf, hft, Nat.le_of_lt (h.below hk hf)⟩
  · intro f hf
    rcases h.parents f hf with h0 | ⟨j, l, e, he, hj, hl, hfe⟩
    · exact .inl h0
    · exact .inr ⟨j, l, e, he, by omega, hl, hfe⟩

theorem getElem?_snoc_old {α : Type} {l : List α} {a : α} {j : Nat} {x : α} (h : l[j]? = some x) : (l ++ [a])[j]? = some x := by
  have hj : j < l.length := by
    rcases Nat.lt_or_ge j l.length with h1 | h1
    · exact h1
    · rw [List.getElem?_eq_none h1] at h; cases h
  rw [List.getElem?_append_left hj]; exact h
theorem getElem?_snoc_cases {α : Type} {l : List α} {a : α} {j : Nat} {x : α} (h : (l ++ [a])[j]? = some x) : l[j]? = some x ∧ j < l.length ∨ j = l.length ∧ x = a := by
  rcases Nat.lt_or_ge j l.length with h1 | h1
  · rw [List.getElem?_append_left h1] at h
    exact .inl ⟨h, h1⟩
  · rw [List.getElem?_append_right h1] at h
    rcases Nat.eq_zero_or_pos (j - l.length) with h2 | h2
    · rw [h2] at h; simp at h; exact .inr ⟨by omega, h.symm⟩
    · rw [List.getElem?_eq_none (by simp; omega)] at h; cases h

theorem BIn.push (h : BIn step n most s₀ goal full k i) {w : List Nat} {s t : S} (hk : full[k]? = some (w, s)) (hi : i < n) (hs : step s i = some t) (hm : t ∉ full.map (·.2))
    (hlen : (w.length : Int) ≠ most) : BIn step n most s₀ goal (full ++ [(w ++ [i], t)]) k (i + 1) := by
  have hkl : k < full.length := by
    rcases Nat.lt_or_ge k full.length with h1 | h1
    · exact h1
    · rw [List.getElem?_eq_none h1] at hk; cases hk
  have hmem : (w, s) ∈ full := List.mem_of_getElem? hk
  refine ⟨?_, ?_, ?_, getElem?_snoc_old h.first, ?_, ?_, ?_, ?_⟩
  · intro a b e f hab h1 h2
    rcases getElem?_snoc_cases h2 with ⟨h2, hb⟩ | ⟨hb, rfl⟩
    · rcases getElem?_snoc_cases h1 with ⟨h1, _⟩ | ⟨ha, _⟩
      · exact h.sorted a b e f hab h1 h2
      · omega
    · rcases getElem?_snoc_cases h1 with ⟨h1, _⟩ | ⟨ha, _⟩
      · exact h.below hk (List.mem_of_getElem? h1)
      · omega
  · intro e he
    rcases List.mem_append.1 he with he | he
    · exact h.leads e he
    · simp at he; subst he
      show run step s₀ (w ++ [i]) = some t
      rw [run_snoc, h.leads _ hmem]
      exact hs
  · intro e he
    rcases List.mem_append.1 he with he | he
    · exact h.fits e he
    · simp at he; subst he
      have := h.fits _ hmem
      unfold Fits at *
      simp
      simp at this
      omega
  · intro j e hj he
    rcases getElem?_snoc_cases he with ⟨he, _⟩ | ⟨hb, _⟩
    · obtain ⟨h1, h2⟩ := h.closed j e hj he
      refine ⟨h1, fun h3 l t' hst => ?_⟩
      obtain ⟨f, hf, h4, h5⟩ := h2 h3 l t' hst
      exact ⟨f, List.mem_append.2 (.inl hf), h4, h5⟩
    · omega
  · intro e he l t' hl hst
    rcases getElem?_snoc_cases he with ⟨he', _⟩ | ⟨hb, _⟩
    · clear he
      rcases Nat.lt_or_ge l i with h1 | h1
      · obtain ⟨f, hf, h4, h5⟩ := h.now e he' l t' h1 hst
        exact ⟨f, List.mem_append.2 (.inl hf), h4, h5⟩
      · have : l = i := by omega
        subst this
        rw [hk] at he'; cases he'
        rw [hs] at hst; cases hst
        exact ⟨(w ++ [l], t), by simp, rfl, Nat.le_refl _⟩
    · omega
  · intro f hf
    rcases List.mem_append.1 hf with hf | hf
    · rcases h.parents f hf with h0 | ⟨j, l, e, he, hj, hl, hfe⟩
      · exact .inl h0
      · exact .inr ⟨j, l, e, getElem?_snoc_old he, by omega, hl, hfe⟩
    · simp at hf; subst hf
      exact .inr ⟨k, i, (w, s), getElem?_snoc_old hk, by omega, hi, rfl⟩
  · rw [List.map_append, List.nodup_append]
    refine ⟨h.nodup, by simp, ?_⟩
    intro a ha b hb
    simp at hb
    subst hb
    intro hab
    subst hab
    exact hm ha

theorem BIn.next (h : BIn step n most s₀ goal full k n) (hn : ∀ s i, n ≤ i → step s i = none) {w : List Nat} {s : S} (hk : full[k]? = some (w, s)) (hg : goal s = false) :
    BIn step n most s₀ goal full (k + 1) 0 := by
  refine ⟨h.sorted, h.leads, h.fits, h.first, ?_, fun e _ l t hl => by omega, ?_, h.nodup⟩
  · intro j e hj he
    rcases Nat.lt_or_ge j k with h1 | h1
    · exact h.closed j e h1 he
    · have : j = k := by omega
      subst this
      rw [hk] at he; cases he
      refine ⟨hg, fun _ l t hst => ?_⟩
      rcases Nat.lt_or_ge l n with h2 | h2
      · exact h.now _ hk l t h2 hst
      · have hst' : step s l = some t := hst
        rw [hn s l h2] at hst'; cases hst'
  · intro f hf
    rcases h.parents f hf with h0 | ⟨j, l, e, he, hj, hl, hfe⟩
    · exact .inl h0
    · exact .inr ⟨j, l, e, he, by omega, hl, hfe⟩

theorem BIn.next_long (h : BIn step n most s₀ goal full k 0) {w : List Nat} {s : S} (hk : full[k]? = some (w, s)) (hg : goal s = false) (hl : (w.length : Int) = most) :
    BIn step n most s₀ goal full (k + 1) 0 := by
  refine ⟨h.sorted, h.leads, h.fits, h.first, ?_, fun e _ l t hl => by omega, ?_, h.nodup⟩
  · intro j e hj he
    rcases Nat.lt_or_ge j k with h1 | h1
    · exact h.closed j e h1 he
    · have : j = k := by omega
      subst this
      rw [hk] at he; cases he
      exact ⟨hg, fun h2 => absurd hl h2⟩
  · intro f hf
    rcases h.parents f hf with h0 | ⟨j, l, e, he, hj, hl, hfe⟩
    · exact .inl h0
    · exact .inr ⟨j, l, e, he, by omega, hl, hfe⟩

/-- Each word is met by one that is no later, or has not been looked at yet. -/
theorem BIn.reached (h : BIn step n most s₀ goal full k 0) (hn : ∀ s i, n ≤ i → step s i = none) :
    ∀ (m : Nat) (v : List Nat) (t : S), v.length = m → run step s₀ v = some t → Fits most v →
      (∃ f, f ∈ full ∧ f.2 = t ∧ code n f.1 ≤ code n v) ∨ (∃ j f, k ≤ j ∧ full[j]? = some f ∧ code n f.1 ≤ code n v) := by
  intro m
  induction m with
  | zero =>
    intro v t hv hr _
    have : v = [] := List.length_eq_zero_iff.1 hv
    subst this
    have h0 : t = s₀ := by
      have : some s₀ = some t := hr
      cases this; rfl
    exact .inl ⟨([], s₀), List.mem_of_getElem? h.first, h0.symm, Nat.le_refl _⟩
  | succ m ih =>
    intro v t hv hr hfit
    rcases snoc_cases v with rfl | ⟨u, i, rfl⟩
    · simp at hv
    have hwd := run_wd step hn _ _ _ hr
    rw [Wd.snoc] at hwd
    obtain ⟨hfu, hlu⟩ := hfit.init
    simp at hv
    rw [run_snoc] at hr
    cases hu : run step s₀ u with
    | none => rw [hu] at hr; cases hr
    | some t' =>
      rw [hu] at hr
      have hr' : step t' i = some t := hr
      have hle : code n u ≤ code n (u ++ [i]) := Nat.le_of_lt (code_lt_of_len n _ (u ++ [i]) u rfl (by simp) hwd.1)
      rcases ih u t' hv hu hfu with ⟨f, hf, hft, hc⟩ | ⟨j, f, hj, hf, hc⟩
      · obtain ⟨j, hjl⟩ := List.mem_iff_getElem?.1 hf
        rcases Nat.lt_or_ge j k with hjk | hjk
        · obtain ⟨_, h2⟩ := h.closed j f hjk hjl
          have hlen := len_le_of_code hwd.1 hc
          have hne : (f.1.length : Int) ≠ most := by
            unfold Fits at hfit
            simp at hfit
            omega
          obtain ⟨g, hg, hgt, hgc⟩ := h2 hne i t (by rw [hft]; exact hr')
          exact .inl ⟨g, hg, hgt, Nat.le_trans hgc (code_mono_snoc hc)⟩
        · exact .inr ⟨j, f, hjk, hjl, Nat.le_trans hc hle⟩
      · exact .inr ⟨j, f, hj, hf, Nat.le_trans hc hle⟩

theorem BIn.found (h : BIn step n most s₀ goal full k 0) (hn : ∀ s i, n ≤ i → step s i = none) {w : List Nat} {s : S} (hk : full[k]? = some (w, s)) (hg : goal s = true) :
    IsFirst step n most s₀ goal w := by
  have hmem : (w, s) ∈ full := List.mem_of_getElem? hk
  have hrun := h.leads _ hmem
  have later : ∀ j f, k ≤ j → full[j]? = some f → code n w ≤ code n f.1 := by
    intro j f hj hf
    rcases Nat.lt_or_ge k j with h1 | h1
    · exact Nat.le_of_lt (h.sorted _ _ _ _ h1 hk hf)
    · have : j = k := by omega
      subst this
      rw [hk] at hf; cases hf
      exact Nat.le_refl _
  refine ⟨⟨s, hrun, hg⟩, h.fits _ hmem, ?_⟩
  intro v t hv hgt hfv
  rcases h.reached hn _ v t rfl hv hfv with ⟨f, hf, hft, hc⟩ | ⟨j, f, hj, hf, hc⟩
  · obtain ⟨j, hjl⟩ := List.mem_iff_getElem?.1 hf
    rcases Nat.lt_or_ge j k with hjk | hjk
    · have := (h.closed j f hjk hjl).1
      rw [hft, hgt] at this; cases this
    · exact Nat.le_trans (later j f hjk hjl) hc
  · exact Nat.le_trans (later j f hj hf) hc

theorem BIn.none_ (h : BIn step n most s₀ goal full k 0) (hn : ∀ s i, n ≤ i → step s i = none) (hk : full.length ≤ k) : NoWord step most s₀ goal := by
  intro v t hv hfv
  rcases h.reached hn _ v t rfl hv hfv with ⟨f, hf, hft, hc⟩ | ⟨j, f, hj, hf, hc⟩
  · obtain ⟨j, hjl⟩ := List.mem_iff_getElem?.1 hf
    have hjlen : j < full.length := by
      rcases Nat.lt_or_ge j full.length with h1 | h1
      · exact h1
      · rw [List.getElem?_eq_none h1] at hjl; cases hjl
    rw [← hft]
    exact (h.closed j f (by omega) hjl).1
  · rw [List.getElem?_eq_none (by omega)] at hf; cases hf
end

/-- Numbers below N, none twice: there are no more than N. -/
theorem nodup_le (N : Nat) : ∀ (l : List Nat), l.Nodup → (∀ x ∈ l, x < N) → l.length ≤ N := by
  induction N with
  | zero =>
    intro l _ h
    cases l with
    | nil => simp
    | cons a l => have := h a (by simp); omega
  | succ N ih =>
    intro l hd h
    have h1 := ih (l.filter (· ≠ N)) (hd.filter _) (fun x hx => by
      rw [List.mem_filter] at hx
      have := h x hx.1
      have h3 : x ≠ N := by simpa using hx.2
      omega)
    have h2 : l.length ≤ (l.filter (· ≠ N)).length + 1 := by
      clear ih h1 h
      induction l with
      | nil => simp
      | cons a l ih =>
        rw [List.nodup_cons] at hd
        by_cases ha : a = N
        · subst ha
          have : l.filter (· ≠ a) = l := by
            rw [List.filter_eq_self]
            intro x hx
            simp only [ne_eq, decide_not, Bool.not_eq_true', decide_eq_false_iff_not]
            rintro rfl
            exact hd.1 hx
          rw [List.filter_cons_of_neg (by simp)]
          rw [this]
          simp
        · rw [List.filter_cons_of_pos (by simpa using ha)]
          have := ih hd.2
          simp only [List.length_cons]
          omega
    omega
end Go.Proofs.YtofkhehcnfiopaaDoor.N
namespace Go.Proofs.YtofkhehcnfiopaaDoor.N
open Go Go.RowKit Go.Proofs
set_option linter.unusedSectionVars false
variable [I : Sys]
def tget (t : Tm) : Nat → Nat
  | 0 => t.1
  | 1 => t.2.1
  | _ => t.2.2
def tput (t : Tm) (j v : Nat) : Tm :=
  match j with
  | 0 => (v, t.2.1, t.2.2)
  | 1 => (t.1, v, t.2.2)
  | _ => (t.1, t.2.1, v)
/-- The first j sets of a team, behind an agent. -/
def putT (x : Ag) (t : Tm) : Nat → Tm
  | 0 => t
  | j + 1 => tput (putT x t j) j (putN x (tget t j))
def mayT (x : Ag) (t : Tm) (n : Nat) : Bool := (List.range n).all fun j => mayN x (tget t j)
theorem mayT_succ (x : Ag) (t : Tm) (n : Nat) : mayT x t (n + 1) = (mayT x t n && mayN x (tget t n)) := by
  simp [mayT, List.range_succ]
/-- One agent's step. -/
def stepT (ags : List Ag) (used n : Nat) (t : Tm) (i : Nat) : Option Tm :=
  if i < ags.length ∧ used.testBit i = true ∧ mayT (ags.getD i default) t n = true then some (putT (ags.getD i default) t n) else none
theorem stepT_none {ags : List Ag} {used n : Nat} : ∀ (t : Tm) (i : Nat), ags.length ≤ i → stepT ags used n t i = none := by
  intro t i h
  exact if_neg (fun h' => by omega)
def Tm.lo (t : Tm) : Prop := t.1 < 64 ∧ t.2.1 < 64 ∧ t.2.2 < 64
theorem Tm.lo.ok {t : Tm} (h : Tm.lo t) : Tm.ok t := ⟨by have := h.1; omega, by have := h.2.1; omega, by have := h.2.2; omega⟩
theorem tget_lo {t : Tm} (h : Tm.lo t) (j : Nat) : tget t j < 64 := by
  rcases j with _ | _ | j
  · exact h.1
  · exact h.2.1
  · exact h.2.2
theorem tput_lo {t : Tm} (h : Tm.lo t) (j : Nat) {v : Nat} (hv : v < 64) : Tm.lo (tput t j v) := by
  rcases j with _ | _ | j
  · exact ⟨hv, h.2.1, h.2.2⟩
  · exact ⟨h.1, hv, h.2.2⟩
  · exact ⟨h.1, h.2.1, hv⟩
theorem putT_lo {x : Ag} (hx : x.ok) {t : Tm} (h : Tm.lo t) : ∀ j, Tm.lo (putT x t j)
  | 0 => h
  | j + 1 => tput_lo (putT_lo hx h j) j (putN_lt hx (tget_lo h j))
theorem tput_cells (t : Tm) {j v : Nat} (hj : j < 3) : ([.int .u8 ((tput t j v).1 : Int), .int .u8 ((tput t j v).2.1 : Int), .int .u8 ((tput t j v).2.2 : Int)] : List Value) =
    ([.int .u8 (t.1 : Int), .int .u8 (t.2.1 : Int), .int .u8 (t.2.2 : Int)] : List Value).set (0 + j * 1) (.int .u8 (v : Int)) := by
  rcases j with _ | _ | _ | j
  · rfl
  · rfl
  · rfl
  · omega
theorem tget_cell (t : Tm) {j : Nat} (hj : j < 3) : ([.int .u8 (t.1 : Int), .int .u8 (t.2.1 : Int), .int .u8 (t.2.2 : Int)] : List Value)[j]? = some (.int .u8 (tget t j : Int)) := by
  rcases j with _ | _ | _ | j
  · rfl
  · rfl
  · rfl
  · omega
theorem wk_get (k : Wk) {j : Nat} (hj : j < 3) : ([.slice k.A k.how.length k.c, .int .u8 (k.team.1 : Int), .int .u8 (k.team.2.1 : Int), .int .u8 (k.team.2.2 : Int)] : List Value)[1 + j * 1]? = some (.int .u8 (tget k.team j : Int)) := by
  rcases j with _ | _ | _ | j
  · rfl
  · rfl
  · rfl
  · omega
theorem Pck.suffix (l T : List Res) : Pck T (l ++ T) := by
  induction l with
  | nil => exact Pck.refl T
  | cons x l ih => exact Pck.skip x ih
theorem Pck.pull {k : Wk} {rws : List Wk} (h : k ∈ rws) (T : List Res) : Pck (k.res :: T) (rws.map Wk.res ++ T) := by
  induction rws with
  | nil => cases h
  | cons x l ih =>
    rcases List.mem_cons.1 h with e | e
    · subst e
      exact Pck.cons (Rem.here _) (Pck.suffix _ _)
    · exact Pck.skip _ (ih e)
theorem row_nil {C : Ctx} {fr : List (Nat × Value)} {hp : List Res} {a : Act} {w : World} (ha : At C fr hp a w) {e size n c : Nat} {A : Option Addr} {xs : List Value} (hm : Res.row e size A n c xs ∈ hp) (hA : A = none) : n = 0 := by
  rcases Nat.eq_zero_or_pos n with h | h
  · exact h
  · obtain ⟨g, hg⟩ := row_some (ha.own _ hm) h
    rw [hA] at hg; cases hg
theorem stepT_some {ags : List Ag} {used n i : Nat} {t : Tm} {x : Ag} (hi : i < ags.length) (hx : ags.getD i default = x) (hu : used.testBit i = true) (hm : mayT x t n = true) : stepT ags used n t i = some (putT x t n) := by
  unfold stepT
  rw [hx, if_pos ⟨hi, hu, hm⟩]
theorem stepT_not {ags : List Ag} {used n i j : Nat} {t : Tm} {x : Ag} (hx : ags.getD i default = x) (hj : j < n) (h : (used.testBit i && mayN x (tget t j)) = false) : stepT ags used n t i = none := by
  unfold stepT
  rw [hx]
  refine if_neg ?_
  rintro ⟨_, h1, h2⟩
  rw [h1] at h
  unfold mayT at h2
  have := List.all_eq_true.1 h2 j (by simpa using hj)
  rw [this] at h
  cases h
def Wk.pr (k : Wk) : List Nat × Tm := (k.how, k.team)
structure FInv (ags : List Ag) (used n : Nat) (most : Int) (t0 : Tm) (goal : Tm → Bool) (full : List Wk) (kk i : Nat) (rws : List Wk) : Prop where
  bin : BIn (stepT ags used n) ags.length most t0 goal (full.map Wk.pr) kk i
  rows : ∀ k ∈ full, k ∈ rws
  lo : ∀ k ∈ full, Tm.lo k.team
  lens : ∀ (j : Nat) (k : Wk), full[j]? = some k → k.how.length ≤ j
def pushF (full : List Wk) (k : Wk) : List Wk := if k.team ∈ full.map Wk.team then full else full ++ [k]
section
variable {ags : List Ag} {used n : Nat} {most : Int} {t0 : Tm} {goal : Tm → Bool} {full : List Wk} {kk i : Nat} {rws : List Wk} {k kn : Wk} {rest : List Wk}
theorem map_team (full : List Wk) : (full.map Wk.pr).map (·.2) = full.map Wk.team := by simp [Wk.pr]
theorem FInv.start (h0 : Tm.lo t0) (c : Nat) : FInv ags used n most t0 goal [⟨none, c, [], t0⟩] 0 0 [⟨none, c, [], t0⟩] where
  bin := BIn.start
  rows := fun k h => h
  lo := fun k h => by simp at h; subst h; exact h0
  lens := fun j k h => by
    cases j with
    | zero => simp at h; subst h; simp
    | succ j => simp at h
def tcode (t : Tm) : Nat := t.1 * 4096 + t.2.1 * 64 + t.2.2
theorem FInv.len (h : FInv ags used n most t0 goal full kk i rws) : full.length ≤ 262144 := by
  have hn := h.bin.nodup
  rw [map_team] at hn
  have : ((full.map Wk.team).map tcode).Nodup := by
    unfold List.Nodup at hn ⊢
    rw [List.pairwise_map]
    refine hn.imp_of_mem ?_
    intro a b ha hb hab e
    obtain ⟨ka, hka, rfl⟩ := List.mem_map.1 ha
    obtain ⟨kb, hkb, rfl⟩ := List.mem_map.1 hb
    have h1 := h.lo ka hka
    have h2 := h.lo kb hkb
    obtain ⟨h11, h12, h13⟩ := h1
    obtain ⟨h21, h22, h23⟩ := h2
    apply hab
    unfold tcode at e
    have e1 : ka.team.1 = kb.team.1 := by omega
    have e2 : ka.team.2.1 = kb.team.2.1 := by omega
    have e3 : ka.team.2.2 = kb.team.2.2 := by omega
    exact Prod.ext e1 (Prod.ext e2 e3)
  have hle := nodup_le 262144 _ this (fun x hx => by
    obtain ⟨t, ht, rfl⟩ := List.mem_map.1 hx
    obtain ⟨k, hk, rfl⟩ := List.mem_map.1 ht
    obtain ⟨h1, h2, h3⟩ := h.lo k hk
    unfold tcode
    omega)
  simpa using hle
theorem pr_get (hk : full[kk]? = some k) : (full.map Wk.pr)[kk]? = some (k.how, k.team) := by
  rw [List.getElem?_map, hk]; rfl
theorem cur_of (h : full.drop kk = k :: rest) : full[kk]? = some k ∧ rest = full.drop (kk + 1) ∧ kk < full.length := by
  have hlt : kk < full.length := by
    rcases Nat.lt_or_ge kk full.length with h1 | h1
    · exact h1
    · rw [List.drop_of_length_le h1] at h; cases h
  rw [List.drop_eq_getElem_cons hlt] at h
  injection h with h1 h2
  exact ⟨by rw [List.getElem?_eq_getElem hlt, h1], h2.symm, hlt⟩
theorem FInv.none_ (h : FInv ags used n most t0 goal full kk 0 rws) (hd : full.drop kk = []) : NoWord (stepT ags used n) most t0 goal :=
  h.bin.none_ stepT_none (by
    rw [List.length_map]
    exact List.drop_eq_nil_iff.1 hd)
theorem FInv.found (h : FInv ags used n most t0 goal full kk 0 rws) (hk : full[kk]? = some k) (hg : goal k.team = true) : IsFirst (stepT ags used n) ags.length most t0 goal k.how ∧ run (stepT ags used n) t0 k.how = some k.team :=
  ⟨h.bin.found stepT_none (pr_get hk) hg, h.bin.leads _ (List.mem_of_getElem? (pr_get hk))⟩
theorem FInv.long (h : FInv ags used n most t0 goal full kk 0 rws) (hk : full[kk]? = some k) (hg : goal k.team = false) (hl : (k.how.length : Int) = most) : FInv ags used n most t0 goal full (kk + 1) 0 rws :=
  ⟨h.bin.next_long (pr_get hk) hg hl, h.rows, h.lo, h.lens⟩
theorem FInv.next (h : FInv ags used n most t0 goal full kk ags.length rws) (hk : full[kk]? = some k) (hg : goal k.team = false) : FInv ags used n most t0 goal full (kk + 1) 0 rws :=
  ⟨h.bin.next stepT_none (pr_get hk) hg, h.rows, h.lo, h.lens⟩
theorem FInv.skip_none (h : FInv ags used n most t0 goal full kk i rws) (hk : full[kk]? = some k) (hs : stepT ags used n k.team i = none) : FInv ags used n most t0 goal full kk (i + 1) rws :=
  ⟨h.bin.skip_none (pr_get hk) hs, h.rows, h.lo, h.lens⟩
theorem FInv.skip_met (h : FInv ags used n most t0 goal full kk i rws) (hk : full[kk]? = some k) {t : Tm} (hs : stepT ags used n k.team i = some t) (hm : t ∈ full.map Wk.team) : FInv ags used n most t0 goal full kk (i + 1) rws :=
  ⟨h.bin.skip_met (pr_get hk) hs (by rw [map_team]; exact hm), h.rows, h.lo, h.lens⟩
theorem FInv.same (h : FInv ags used n most t0 goal full kk i rws) (hk : full[kk]? = some k) (hs : stepT ags used n k.team i = some k.team) : FInv ags used n most t0 goal full kk (i + 1) rws :=
  h.skip_met hk hs (List.mem_map.2 ⟨k, List.mem_of_getElem? hk, rfl⟩)
theorem FInv.more (h : FInv ags used n most t0 goal full kk i rws) (x : Wk) : FInv ags used n most t0 goal full kk i (x :: rws) :=
  ⟨h.bin, fun k hk => List.mem_cons.2 (.inr (h.rows k hk)), h.lo, h.lens⟩
theorem FInv.push (h : FInv ags used n most t0 goal full kk i rws) (hk : full[kk]? = some k) (hi : i < ags.length) (hs : stepT ags used n k.team i = some kn.team) (hw : kn.how = k.how ++ [i]) (hl : (k.how.length : Int) ≠ most) (hlo : Tm.lo kn.team) :
    FInv ags used n most t0 goal (pushF full kn) kk (i + 1) (kn :: rws) := by
  unfold pushF
  split
  · rename_i hm
    exact (h.skip_met hk hs hm).more kn
  · rename_i hm
    have hb := h.bin.push (pr_get hk) hi hs (by rw [map_team]; exact hm) hl
    refine ⟨?_, ?_, ?_, ?_⟩
    · rw [List.map_append]
      rw [← hw] at hb
      exact hb
    · intro x hx
      rcases List.mem_append.1 hx with h1 | h1
      · exact List.mem_cons.2 (.inr (h.rows x h1))
      · simp at h1; subst h1; simp
    · intro x hx
      rcases List.mem_append.1 hx with h1 | h1
      · exact h.lo x h1
      · simp at h1; subst h1; exact hlo
    · intro j x hx
      rcases getElem?_snoc_cases hx with ⟨h1, _⟩ | ⟨h1, h2⟩
      · exact h.lens j x h1
      · subst h2
        rw [hw, List.length_append, List.length_singleton, h1]
        have h3 := h.lens kk k hk
        have h4 := (List.getElem?_eq_some_iff.1 hk).1
        omega
theorem pushF_drop (hk : kk + 1 ≤ full.length) : (pushF full kn).drop (kk + 1) = pushT (full.drop (kk + 1)) (full.map Wk.team) kn := by
  unfold pushF pushT
  split
  · rfl
  · rw [List.drop_append_of_le_length hk]
theorem pushF_map : (pushF full kn).map Wk.team = pushM (full.map Wk.team) kn.team := by
  unfold pushF pushM
  split
  · rfl
  · rw [List.map_append]; rfl
theorem pushF_get (hk : full[kk]? = some k) : (pushF full kn)[kk]? = some k := by
  unfold pushF
  split
  · exact hk
  · exact getElem?_snoc_old hk
end
end Go.Proofs.YtofkhehcnfiopaaDoor.N
namespace Go.Proofs.YtofkhehcnfiopaaDoor.N
open Go Go.RowKit Go.Proofs
set_option linter.unusedSectionVars false
variable [I : Sys]
theorem F.ent112 : Enters Tryd.prog 112 := enters_of Tryd.func112 rfl (by kernel_rfl)
theorem F.ent113 : Enters Tryd.prog 113 := enters_of Tryd.func113 rfl (by kernel_rfl)
theorem F.ent114 : Enters Tryd.prog 114 := enters_of Tryd.func114 rfl (by kernel_rfl)
theorem F.ent91 : Enters Tryd.prog 91 := enters_of Tryd.func91 rfl (by kernel_rfl)
theorem F.fi142_0 : FI Tryd.prog 142 0 25 0 := ⟨_, _, Tryd.underlying142, rfl, rfl, rfl⟩
theorem F.fi142_1 : FI Tryd.prog 142 1 79 1 := ⟨_, _, Tryd.underlying142, rfl, rfl, rfl⟩
theorem F.one25 : One Tryd.prog 25 := ⟨by unfold aggB; rw [Tryd.underlying25], by rw [Tryd.underlying25]; simp⟩
theorem F.one77 : One Tryd.prog 77 := ⟨by unfold aggB; rw [Tryd.underlying77], by rw [Tryd.underlying77]; simp⟩
theorem F.pl139 : Places Tryd.prog 139 [(0, 1), (1, 1)] := .inl ⟨_, Tryd.underlying139, by kernel_rfl⟩
theorem F.pl142 : Places Tryd.prog 142 [(0, 1), (1, 3)] := .inl ⟨_, Tryd.underlying142, by kernel_rfl⟩
theorem F.ti139 : TI Tryd.prog 139 (.agg [.slice none 0 0, .map none].toArray) 2 32 := TI.of (by kernel_rfl)
theorem F.ti25 : TI Tryd.prog 25 (.slice none 0 0) 1 24 := TI.of (by kernel_rfl)
theorem F.ti77 : TI Tryd.prog 77 (.int .u8 0) 1 1 := TI.of (by kernel_rfl)
theorem find_c {C : Ctx} {fr : List (Nat × Value)} {T : List Res} {a : Act} {w : World} (hC : C.P = Tryd.prog) {ags : List Ag} {used n : Nat} {most : Int} {t0 : Tm} {goal : Tm → Bool} {aA : Option Addr} {cg : Nat} {fid : FuncId} {cap : List Value} {r : Res} {r' : Tm → Res} (hok : Oks ags) (hu : used < 256) (hn1 : 1 ≤ n) (hn3 : n ≤ 3) (h0 : Tm.lo t0) (hAg : Res.row 89 5 aA ags.length cg (ags.flatMap Ag.cells) ∈ T) (hent : Enters Tryd.prog fid) (hG : ∀ (N : Nat) (fr : List (Nat × Value)) (Y : List Res) (a : Act) (w : World) (t : Tm), Tm.lo t → (∀ x ∈ T, x ∈ Y) → At ⟨Tryd.prog, C.B, C.w0, N, []⟩ fr (r :: Y) a w → Calls Tryd.prog fid ([(.agg [.int .u8 (t.1 : Int), .int .u8 (t.2.1 : Int), .int .u8 (t.2.2 : Int)].toArray : Value)] ++ cap).toArray w (fun e w' => e = .returned (.bool (goal t)) ∧ At ⟨Tryd.prog, C.B, C.w0, N, []⟩ fr ((if goal t = true then r' t else r) :: Y) a w')) (ha : At C fr (r :: T) a w) : Calls C.P 77 #[.agg [.slice aA ags.length cg, .int .u8 (used : Int)].toArray, .agg [.int .u8 (t0.1 : Int), .int .u8 (t0.2.1 : Int), .int .u8 (t0.2.2 : Int)].toArray, .int .i64 (n : Int), .int .i64 most, .func (.func fid) ([] : List Value).toArray cap.toArray] w fun e w' => (∃ k : Wk, IsFirst (stepT ags used n) ags.length most t0 goal k.how ∧ run (stepT ags used n) t0 k.how = some k.team ∧ goal k.team = true ∧ e = .returned (.tuple #[.slice k.A k.how.length k.c, .bool true]) ∧ At C fr (r' k.team :: k.res :: T) a w') ∨ (NoWord (stepT ags used n) most t0 goal ∧ e = .returned (.tuple #[.slice none 0 0, .bool false]) ∧ At C fr (r :: T) a w') := by
  obtain ⟨P, B, w0, N0, ds⟩ := C
  obtain rfl : P = Tryd.prog := hC
  refine enter_in (N := 101) [(0, .agg [.slice aA ags.length cg, .int .u8 (used : Int)].toArray), (1, .agg [.int .u8 (t0.1 : Int), .int .u8 (t0.2.1 : Int), .int .u8 (t0.2.2 : Int)].toArray), (2, .int .i64 (n : Int)), (3, .int .i64 most), (4, .func (.func fid) ([] : List Value).toArray cap.toArray)] ha Tryd.func77 rfl Tryd.ntmps77 rfl rfl ?_
  refine cod_seq ?_
  refine cod_region ?_
  refine lst_box rfl rfl ?_
  intro b5
  refine lst_box rfl rfl ?_
  intro b6
  refine lst_assign rfl rfl ?_
  refine lst_assign rfl rfl ?_
  refine lst_nil ?_
  refine ex_then ?_
  refine cod_seq ?_
  refine cod_region ?_
  refine lst_makeMap rfl ?_
  intro b20
  refine lst_struct (vs := [(1, _)]) (l' := [_, _]) rfl rfl F.ti139 F.pl139 (.cons rfl rfl (.nil _)) rfl ?_
  refine lst_box rfl rfl ?_
  intro b22
  refine lst_assign rfl rfl ?_
  refine lst_nil ?_
  refine ex_then ?_
  refine cod_seq ?_
  refine cod_region ?_
  refine lst_move rfl rfl ?_
  refine lst_makeFunc (fs := [_]) (cs := []) rfl rfl rfl ?_
  refine lst_assign rfl rfl ?_
  refine lst_nil ?_
  refine ex_then ?_
  refine cod_seq ?_
  refine cod_region ?_
  refine lst_move rfl rfl ?_
  refine lst_loadN rfl rfl F.agg79 F.ti79 ?_
  refine lst_loadN rfl rfl F.agg79 F.ti79 ?_
  refine lst_struct (vs := [(1, _)]) (l' := [_, _, _, _]) rfl rfl F.ti142 F.pl142 (.cons rfl rfl (.nil _)) rfl ?_
  refine lst_nilque 142 4 ?_
  refine lst_nilrow 3 1 ?_
  have hp0 : pushT [] [] (⟨none, 0, [], t0⟩ : Wk) = [⟨none, 0, [], t0⟩] := by simp [pushT]
  have hm0 : pushM [] (⟨none, 0, [], t0⟩ : Wk).team = [t0] := by simp [pushM]
  refine lst_call (X := Option Addr × Nat) (first := [.pointer (some ⟨b22, 0, none⟩)]) (cap := []) (vs := [_, _]) (p := fun _ => True) (val := fun _ => .tuple #[]) (rs := fun x => .blk b22 (.cells [.slice x.1 1 x.2, .map (some b20)].toArray 139 (0, 0)) :: .blk b20 (metObj [t0]) :: .que 142 4 x.1 1 x.2 ([(⟨none, 0, [], t0⟩ : Wk)].flatMap Wk.cells) :: .blk b5 (.cells [.slice aA ags.length cg, .int .u8 (used : Int)].toArray 75 (0, 0)) :: r :: .row 3 1 none 0 0 [] :: T) rfl rfl rfl F.ent112 (fun a w ha => (push_c (bq := b22) (bm := b20) (A := none) (c := 0) (todo := []) (met := []) (k := ⟨none, 0, [], t0⟩) (T := .blk b5 (.cells [.slice aA ags.length cg, .int .u8 (used : Int)].toArray 75 (0, 0)) :: r :: .row 3 1 none 0 0 [] :: T) rfl (by simp) (by simp) h0.ok (ha.pck pkk)).mono (fun e w' h => by rw [hp0, hm0] at h; obtain ⟨A', c', h1, h2⟩ := h; exact ⟨(A', c'), trivial, h1, h2⟩)) ?_
  rintro ⟨A0, c0⟩ -
  refine lst_nil ?_
  refine ex_then ?_
  refine cod_block ?_
  refine cod_loop' (G := Option Addr × Nat × List Wk × Nat × List Wk) (fun g => FInv ags used n most t0 goal g.2.2.1 g.2.2.2.1 0 g.2.2.2.2) (fun g => 300000 - g.2.2.2.1) (fun g => [(2, .int .i64 (n : Int)), (3, .int .i64 most), (4, .func (.func fid) ([] : List Value).toArray cap.toArray), (5, .pointer (some ⟨b5, 0, none⟩)), (12, .pointer (some ⟨b22, 0, none⟩)), (13, .func (.func 112) [.pointer (some ⟨b22, 0, none⟩)].toArray ([] : List Value).toArray)]) (fun g => .blk b22 (.cells [.slice g.1 (g.2.2.1.drop (g.2.2.2.1)).length g.2.1, .map (some b20)].toArray 139 (0, 0)) :: .blk b20 (metObj (g.2.2.1.map Wk.team)) :: .que 142 4 g.1 (g.2.2.1.drop (g.2.2.2.1)).length g.2.1 ((g.2.2.1.drop (g.2.2.2.1)).flatMap Wk.cells) :: .blk b5 (.cells [.slice aA ags.length cg, .int .u8 (used : Int)].toArray 75 (0, 0)) :: r :: (g.2.2.2.2.map Wk.res ++ T)) (A0, c0, [⟨none, 0, [], t0⟩], 0, [⟨none, 0, [], t0⟩]) (FInv.start h0 0) sbn pkk ?_
  rintro ⟨A1, c1, full, kk, rws⟩ hI
  dsimp only at hI ⊢
  refine cod_block ?_
  refine cod_scope ?_
  refine cod_seq ?_
  rcases hdrop : full.drop kk with _ | ⟨k, rest⟩
  · skip
    refine cod_region ?_
    have hno := hI.none_ hdrop
    refine lst_move rfl rfl ?_
    refine lst_call (X := Unit) (first := []) (cap := []) (vs := [_]) (p := fun _ => True) (val := fun _ => .tuple #[.agg [.slice none 0 0, .int .u8 0, .int .u8 0, .int .u8 0].toArray, .bool false]) (rs := fun _ => .blk b5 (.cells [.slice aA ags.length cg, .int .u8 (used : Int)].toArray 75 (0, 0)) :: r :: (rws.map Wk.res ++ T)) rfl rfl rfl F.ent113 (fun a w ha => (pop_none rfl ha).mono (fun e w' h => ⟨(), trivial, h.1, h.2⟩)) ?_
    rintro ⟨⟩ -
    refine lst_move rfl rfl ?_
    refine lst_extract rfl rfl rfl ?_
    refine lst_extract rfl rfl rfl ?_
    refine lst_alloc rfl F.ti142 ?_
    intro b14
    refine lst_store rfl rfl F.ti142 rfl ?_
    refine lst_assign rfl rfl ?_
    refine lst_nil ?_
    refine ex_then ?_
    refine cod_seq ?_
    refine cod_seq ?_
    refine cod_region ?_
    refine lst_move rfl rfl ?_
    refine lst_not rfl rfl ?_
    refine lst_nil ?_
    refine ex_then ?_
    refine cod_cond_true rfl ?_
    refine cod_seq ?_
    refine cod_region ?_
    refine lst_assign rfl rfl ?_
    refine lst_assign rfl rfl ?_
    refine lst_nil ?_
    refine ex_then ?_
    refine cod_ret ?_
    refine ex_then_ret ?_
    refine ex_scope_ret ?_
    refine ex_block_ret ?_
    refine ex_then_ret ?_
    refine ex_block_ret ?_
    exact ex_ret rfl (fun a w ha => res_two rfl rfl rfl ha) (fun _ _ ha' => .inr ⟨hno, rfl, ha.back (ha'.pck (by repeat (first | exact Pck.nil _ | exact Pck.refl _ | exact Pck.suffix _ _ | (apply Pck.cons; focus ((repeat (first | exact Rem.here _ | apply Rem.there)); done)) | refine Pck.skip _ ?_)))⟩)
  · skip
    refine cod_region ?_
    obtain ⟨hk, hrest, hkl⟩ := cur_of hdrop
    subst hrest
    have hlen := hI.len
    refine lst_move rfl rfl ?_
    refine lst_call (X := Option Addr × Nat) (first := []) (cap := []) (vs := [_]) (p := fun _ => True) (val := fun _ => .tuple #[.agg [.slice k.A k.how.length k.c, .int .u8 (k.team.1 : Int), .int .u8 (k.team.2.1 : Int), .int .u8 (k.team.2.2 : Int)].toArray, .bool true]) (rs := fun x => .blk b22 (.cells [.slice x.1 (full.drop (kk + 1)).length x.2, .map (some b20)].toArray 139 (0, 0)) :: .blk b20 (metObj (full.map Wk.team)) :: .que 142 4 x.1 (full.drop (kk + 1)).length x.2 ((full.drop (kk + 1)).flatMap Wk.cells) :: .blk b5 (.cells [.slice aA ags.length cg, .int .u8 (used : Int)].toArray 75 (0, 0)) :: r :: (rws.map Wk.res ++ T)) rfl rfl rfl F.ent113 (fun a w ha => (pop_some (k := k) (todo := full.drop (kk + 1)) rfl ha).mono (fun e w' h => by obtain ⟨A', c', h1, h2⟩ := h; exact ⟨(A', c'), trivial, h1, h2⟩)) ?_
    rintro ⟨A2, c2⟩ -
    refine lst_move rfl rfl ?_
    refine lst_extract rfl rfl rfl ?_
    refine lst_extract rfl rfl rfl ?_
    refine lst_alloc rfl F.ti142 ?_
    intro b14
    refine lst_store rfl rfl F.ti142 rfl ?_
    refine lst_assign rfl rfl ?_
    refine lst_nil ?_
    refine ex_then ?_
    refine cod_seq ?_
    refine cod_seq ?_
    refine cod_region ?_
    refine lst_move rfl rfl ?_
    refine lst_not rfl rfl ?_
    refine lst_nil ?_
    refine ex_then ?_
    refine cod_cond_false rfl ?_
    refine cod_skip ?_
    refine ex_then ?_
    refine cod_seq ?_
    refine cod_seq ?_
    refine cod_region ?_
    refine lst_move rfl rfl ?_
    refine lst_field_z rfl rfl F.fi142_1 F.ti79 ?_
    refine lst_loadN rfl rfl F.agg79 F.ti79 ?_
    refine lst_call (X := Unit) (first := []) (cap := cap) (vs := [_]) (p := fun _ => True) (val := fun _ => .bool (goal k.team)) (rs := fun _ => (if goal k.team = true then r' k.team else r) :: .blk b14 (.cells [.slice k.A k.how.length k.c, .int .u8 (k.team.1 : Int), .int .u8 (k.team.2.1 : Int), .int .u8 (k.team.2.2 : Int)].toArray 142 (0, 0)) :: .blk b22 (.cells [.slice A2 (full.drop (kk + 1)).length c2, .map (some b20)].toArray 139 (0, 0)) :: .blk b20 (metObj (full.map Wk.team)) :: .que 142 4 A2 (full.drop (kk + 1)).length c2 ((full.drop (kk + 1)).flatMap Wk.cells) :: .blk b5 (.cells [.slice aA ags.length cg, .int .u8 (used : Int)].toArray 75 (0, 0)) :: (rws.map Wk.res ++ T)) rfl rfl rfl hent (fun a w ha => (hG _ _ (.blk b14 (.cells [.slice k.A k.how.length k.c, .int .u8 (k.team.1 : Int), .int .u8 (k.team.2.1 : Int), .int .u8 (k.team.2.2 : Int)].toArray 142 (0, 0)) :: .blk b22 (.cells [.slice A2 (full.drop (kk + 1)).length c2, .map (some b20)].toArray 139 (0, 0)) :: .blk b20 (metObj (full.map Wk.team)) :: .que 142 4 A2 (full.drop (kk + 1)).length c2 ((full.drop (kk + 1)).flatMap Wk.cells) :: .blk b5 (.cells [.slice aA ags.length cg, .int .u8 (used : Int)].toArray 75 (0, 0)) :: (rws.map Wk.res ++ T)) a w k.team (hI.lo k (List.mem_of_getElem? hk)) (fun x hx => by simp [hx]) (ha.pck pkk)).mono (fun e w' h => ⟨(), trivial, h.1, h.2⟩)) ?_
    rintro ⟨⟩ -
    dsimp only
    refine lst_nil ?_
    refine ex_then ?_
    refine cod_cond_bool rfl (fun hc1 => ?_) (fun hc1 => ?_)
    · skip
      rw [if_pos hc1]
      obtain ⟨hf1, hf2⟩ := hI.found hk hc1
      have hkr := hI.rows k (List.mem_of_getElem? hk)
      refine cod_seq ?_
      refine cod_region ?_
      refine lst_field_z rfl rfl F.fi142_0 F.ti25 ?_
      refine lst_load rfl rfl F.one25 ?_
      refine lst_assign rfl rfl ?_
      refine lst_assign rfl rfl ?_
      refine lst_nil ?_
      refine ex_then ?_
      refine cod_ret ?_
      refine ex_then_ret ?_
      refine ex_scope_ret ?_
      refine ex_block_ret ?_
      refine ex_then_ret ?_
      refine ex_block_ret ?_
      exact ex_ret rfl (fun a w ha => res_two rfl rfl rfl ha) (fun _ _ ha' => .inl ⟨k, hf1, hf2, hc1, rfl, ha.back (ha'.pck (by repeat (first | exact Pck.nil _ | exact Pck.refl _ | exact Pck.suffix _ _ | exact Pck.pull hkr _ | (apply Pck.cons; focus ((repeat (first | exact Rem.here _ | apply Rem.there)); done)) | refine Pck.skip _ ?_)))⟩)
    · skip
      rw [if_neg (by rw [hc1]; exact Bool.false_ne_true)]
      refine cod_skip ?_
      refine ex_then ?_
      refine cod_seq ?_
      refine cod_seq ?_
      refine cod_region ?_
      refine lst_field_z rfl rfl F.fi142_0 F.ti25 ?_
      refine lst_load rfl rfl F.one25 ?_
      refine lst_len rfl rfl Tryd.underlying25 ?_
      refine lst_move rfl rfl ?_
      refine lst_int rfl rfl rfl bin_eql ?_
      refine lst_nil ?_
      refine ex_then ?_
      refine cod_cond_dec rfl (fun hc2 => ?_) (fun hc2 => ?_)
      · skip
        refine cod_exit ?_
        refine ex_then_exit ?_
        refine ex_scope_exit ?_
        refine ex_block_exit ?_
        have hI' := hI.long hk hc1 hc2
        refine ex_round' (A2, c2, full, kk + 1, rws) hI' (by (try dsimp only); omega) (by (try dsimp only); repeat (first | exact Sub.nil _ | refine Sub.cons rfl ?_)) pkk
      · skip
        refine cod_skip ?_
        refine ex_then ?_
        refine cod_seq ?_
        refine cod_label ?_
        refine ex_then ?_
        refine cod_seq ?_
        refine cod_region ?_
        refine lst_field_z rfl rfl F.fi75_0 F.ti72 ?_
        refine lst_load rfl rfl F.one72 ?_
        refine lst_len rfl rfl Tryd.underlying72 ?_
        refine lst_move rfl rfl ?_
        refine lst_nil ?_
        refine ex_then ?_
        refine cod_block ?_
        refine cod_loop' (G := Option Addr × Nat × List Wk × List Wk × Nat) (fun g => FInv ags used n most t0 goal g.2.2.1 kk g.2.2.2.2 g.2.2.2.1 ∧ g.2.2.1[kk]? = some k ∧ kk < g.2.2.1.length ∧ g.2.2.2.2 ≤ ags.length) (fun g => ags.length - g.2.2.2.2) (fun g => [(2, .int .i64 (n : Int)), (3, .int .i64 most), (4, .func (.func fid) ([] : List Value).toArray cap.toArray), (5, .pointer (some ⟨b5, 0, none⟩)), (12, .pointer (some ⟨b22, 0, none⟩)), (13, .func (.func 112) [.pointer (some ⟨b22, 0, none⟩)].toArray ([] : List Value).toArray), (14, .pointer (some ⟨b14, 0, none⟩)), (49, .slice aA ags.length cg), (50, .int .i64 (ags.length : Int)), (51, .int .i64 (g.2.2.2.2 : Int))]) (fun g => .blk b22 (.cells [.slice g.1 (g.2.2.1.drop (kk + 1)).length g.2.1, .map (some b20)].toArray 139 (0, 0)) :: .blk b20 (metObj (g.2.2.1.map Wk.team)) :: .que 142 4 g.1 (g.2.2.1.drop (kk + 1)).length g.2.1 ((g.2.2.1.drop (kk + 1)).flatMap Wk.cells) :: .blk b14 (.cells [.slice k.A k.how.length k.c, .int .u8 (k.team.1 : Int), .int .u8 (k.team.2.1 : Int), .int .u8 (k.team.2.2 : Int)].toArray 142 (0, 0)) :: .blk b5 (.cells [.slice aA ags.length cg, .int .u8 (used : Int)].toArray 75 (0, 0)) :: r :: (g.2.2.2.1.map Wk.res ++ T)) (A2, c2, full, rws, 0) ⟨hI, hk, hkl, Nat.zero_le _⟩ sbn pkk ?_
        rintro ⟨A3, c3, full3, rws3, i⟩ ⟨hI3, hk3, hkl3, hile⟩
        dsimp only at hI3 hk3 hkl3 hile ⊢
        refine cod_seq ?_
        refine cod_region ?_
        refine lst_int rfl rfl rfl bin_lss ?_
        refine lst_nil ?_
        refine ex_then ?_
        refine cod_seq ?_
        refine cod_cond_dec rfl (fun hc3 => ?_) (fun hc3 => ?_)
        · skip
          have hi' : i < ags.length := by omega
          obtain ⟨gA, hgA⟩ := row_some (ha.own _ (List.mem_cons.2 (.inr hAg))) (by omega)
          subst hgA
          obtain ⟨x, hx⟩ : ∃ x, ags[i]? = some x := ⟨_, List.getElem?_eq_getElem hi'⟩
          have hxo : x.ok := hok.2 x (List.mem_of_getElem? hx)
          have hxd : ags.getD i default = x := by rw [List.getD_eq_getElem?_getD, hx]; rfl
          have hklo := hI3.lo k (List.mem_of_getElem? hk3)
          have hlen3 := hI3.len
          refine cod_skip ?_
          refine ex_then ?_
          refine cod_seq ?_
          refine cod_block ?_
          refine cod_seq ?_
          refine cod_region ?_
          refine lst_move rfl rfl ?_
          refine lst_index (j := i) rfl rfl rfl Tryd.underlying72 F.ti89 rfl hi' ?_
          refine lst_loadN_at (l := [.int .i64 (x.needs : Int), .int .i64 (x.no : Int), .int .i64 (x.takes : Int), .int .i64 (x.leaves : Int), .int .i64 (x.cost : Int)]) rfl rfl F.agg89 F.ti89 rfl (fun a w ha j u hu => row_at ha (e := 89) (n := ags.length) (c := cg) (cells := Ag.cells) (by simp [hAg]) (fun _ => rfl) hx hu) ?_
          refine lst_alloc rfl F.ti89 ?_
          intro b17
          refine lst_assign rfl rfl ?_
          refine lst_store rfl rfl F.ti89 rfl ?_
          refine lst_nil ?_
          refine ex_then ?_
          refine cod_seq ?_
          refine cod_region ?_
          refine lst_field_z rfl rfl F.fi142_1 F.ti79 ?_
          refine lst_loadN rfl rfl F.agg79 F.ti79 ?_
          refine lst_alloc rfl F.ti79 ?_
          intro b18
          refine lst_store rfl rfl F.ti79 rfl ?_
          refine lst_nil ?_
          refine ex_then ?_
          refine cod_seq ?_
          refine cod_seq ?_
          refine cod_region ?_
          refine lst_move rfl rfl ?_
          refine lst_move rfl rfl ?_
          refine lst_nil ?_
          refine ex_then ?_
          refine cod_block ?_
          refine cod_loop' (G := Nat) (fun g => g ≤ n ∧ (0 < g → used.testBit i = true) ∧ mayT x k.team g = true) (fun g => n - g) (fun g => [(2, .int .i64 (n : Int)), (3, .int .i64 most), (4, .func (.func fid) ([] : List Value).toArray cap.toArray), (5, .pointer (some ⟨b5, 0, none⟩)), (12, .pointer (some ⟨b22, 0, none⟩)), (13, .func (.func 112) [.pointer (some ⟨b22, 0, none⟩)].toArray ([] : List Value).toArray), (14, .pointer (some ⟨b14, 0, none⟩)), (49, .slice (some ⟨gA, 0, none⟩) ags.length cg), (50, .int .i64 (ags.length : Int)), (51, .int .i64 (i : Int)), (16, .int .i64 (i : Int)), (17, .pointer (some ⟨b17, 0, none⟩)), (18, .pointer (some ⟨b18, 0, none⟩)), (58, .int .i64 (n : Int)), (59, .int .i64 (g : Int))]) (fun g => .blk b18 (.cells [.int .u8 ((putT x k.team g).1 : Int), .int .u8 ((putT x k.team g).2.1 : Int), .int .u8 ((putT x k.team g).2.2 : Int)].toArray 79 (0, 0)) :: .blk b17 (.cells [.int .i64 (x.needs : Int), .int .i64 (x.no : Int), .int .i64 (x.takes : Int), .int .i64 (x.leaves : Int), .int .i64 (x.cost : Int)].toArray 89 (0, 0)) :: .blk b22 (.cells [.slice A3 (full3.drop (kk + 1)).length c3, .map (some b20)].toArray 139 (0, 0)) :: .blk b20 (metObj (full3.map Wk.team)) :: .que 142 4 A3 (full3.drop (kk + 1)).length c3 ((full3.drop (kk + 1)).flatMap Wk.cells) :: .blk b14 (.cells [.slice k.A k.how.length k.c, .int .u8 (k.team.1 : Int), .int .u8 (k.team.2.1 : Int), .int .u8 (k.team.2.2 : Int)].toArray 142 (0, 0)) :: .blk b5 (.cells [.slice (some ⟨gA, 0, none⟩) ags.length cg, .int .u8 (used : Int)].toArray 75 (0, 0)) :: r :: (rws3.map Wk.res ++ T)) (0) ⟨Nat.zero_le _, fun h => absurd h (by omega), rfl⟩ sbn pkk ?_
          rintro j ⟨hjn, hub, hmay⟩
          try dsimp only
          refine cod_seq ?_
          refine cod_region ?_
          refine lst_int rfl rfl rfl bin_lss ?_
          refine lst_nil ?_
          refine ex_then ?_
          refine cod_seq ?_
          refine cod_cond_dec rfl (fun hc4 => ?_) (fun hc4 => ?_)
          · skip
            have hj' : j < n := by omega
            have hj3 : j < 3 := by omega
            refine cod_skip ?_
            refine ex_then ?_
            refine cod_seq ?_
            refine cod_block ?_
            refine cod_seq ?_
            refine cod_region ?_
            refine lst_move rfl rfl ?_
            refine lst_assign rfl rfl ?_
            refine lst_nil ?_
            refine ex_then ?_
            refine cod_seq ?_
            refine cod_seq ?_
            refine cod_ghost (G := Unit) (fun _ => True) (fun _ => [(75, .bool (!(used.testBit i && mayN x (tget k.team j)))), (19, .int .i64 (j : Int)), (2, .int .i64 (n : Int)), (3, .int .i64 most), (4, .func (.func fid) ([] : List Value).toArray cap.toArray), (5, .pointer (some ⟨b5, 0, none⟩)), (12, .pointer (some ⟨b22, 0, none⟩)), (13, .func (.func 112) [.pointer (some ⟨b22, 0, none⟩)].toArray ([] : List Value).toArray), (14, .pointer (some ⟨b14, 0, none⟩)), (49, .slice (some ⟨gA, 0, none⟩) ags.length cg), (50, .int .i64 (ags.length : Int)), (51, .int .i64 (i : Int)), (16, .int .i64 (i : Int)), (17, .pointer (some ⟨b17, 0, none⟩)), (18, .pointer (some ⟨b18, 0, none⟩)), (58, .int .i64 (n : Int)), (59, .int .i64 (j : Int))]) (fun _ => .blk b18 (.cells [.int .u8 ((putT x k.team j).1 : Int), .int .u8 ((putT x k.team j).2.1 : Int), .int .u8 ((putT x k.team j).2.2 : Int)].toArray 79 (0, 0)) :: .blk b17 (.cells [.int .i64 (x.needs : Int), .int .i64 (x.no : Int), .int .i64 (x.takes : Int), .int .i64 (x.leaves : Int), .int .i64 (x.cost : Int)].toArray 89 (0, 0)) :: .blk b22 (.cells [.slice A3 (full3.drop (kk + 1)).length c3, .map (some b20)].toArray 139 (0, 0)) :: .blk b20 (metObj (full3.map Wk.team)) :: .que 142 4 A3 (full3.drop (kk + 1)).length c3 ((full3.drop (kk + 1)).flatMap Wk.cells) :: .blk b14 (.cells [.slice k.A k.how.length k.c, .int .u8 (k.team.1 : Int), .int .u8 (k.team.2.1 : Int), .int .u8 (k.team.2.2 : Int)].toArray 142 (0, 0)) :: .blk b5 (.cells [.slice (some ⟨gA, 0, none⟩) ags.length cg, .int .u8 (used : Int)].toArray 75 (0, 0)) :: r :: (rws3.map Wk.res ++ T)) ?_ ?_
            · skip
              refine any_begin [] F.follows 14 rfl [false, false, false, false, false, false, false, false, false, false, false, false, false, false] rfl ?_
              refine any_tk 0 rfl rfl rfl (yld_field_z rfl F.fi75_1 F.ti73) ?_
              refine any_tk 1 rfl rfl rfl (yld_load rfl F.one73) ?_
              refine any_tk 2 rfl rfl rfl (yld_move rfl) ?_
              refine any_one 3 (by kernel_rfl) rfl rfl ?_
              refine lst_fn0 (vs := [_, _]) rfl rfl F.ent110 (fun a w ha => set_has_c used i hu w) ?_
              refine lst_nil ?_
              refine any_next sbl ?_
              refine any_tk 4 rfl rfl rfl (yld_not rfl) ?_
              refine any_tk 5 rfl rfl rfl (yld_move rfl) ?_
              refine any_split_bool (t := 67) rfl (fun hg67 => ?_) (fun hg67 => ?_)
              · skip
                refine any_take_off 6 rfl rfl rfl rfl rfl (by kernel_rfl) (by kernel_rfl) (by kernel_rfl) sbl rfl ?_
                refine any_take_off 7 rfl rfl rfl rfl rfl (by kernel_rfl) (by kernel_rfl) (by kernel_rfl) sbl rfl ?_
                refine any_take_off 8 rfl rfl rfl rfl rfl (by kernel_rfl) (by kernel_rfl) (by kernel_rfl) sbl rfl ?_
                refine any_take_off 9 rfl rfl rfl rfl rfl (by kernel_rfl) (by kernel_rfl) (by kernel_rfl) sbl rfl ?_
                refine any_take_off 10 rfl rfl rfl rfl rfl (by kernel_rfl) (by kernel_rfl) (by kernel_rfl) sbl rfl ?_
                refine any_take_off 11 rfl rfl rfl rfl rfl (by kernel_rfl) (by kernel_rfl) (by kernel_rfl) sbl rfl ?_
                refine any_take_off 12 rfl rfl rfl rfl rfl (by kernel_rfl) (by kernel_rfl) (by kernel_rfl) sbl rfl ?_
                refine any_tk 13 rfl rfl rfl (yld_pick_true rfl rfl) ?_
                refine any_done rfl (by kernel_rfl) ?_
                exact ex_ghost () trivial (Sub.cons (by simp at hg67; simp [look, hg67]) sbn) pkk
              · skip
                refine any_take_on 6 rfl rfl rfl rfl rfl (by kernel_rfl) (by kernel_rfl) (by kernel_rfl) sbl (yld_loadN rfl F.agg89 F.ti89) rfl ?_
                refine any_take_on 7 rfl rfl rfl rfl rfl (by kernel_rfl) (by kernel_rfl) (by kernel_rfl) sbl (yld_move rfl) rfl ?_
                refine any_take_on 8 rfl rfl rfl rfl rfl (by kernel_rfl) (by kernel_rfl) (by kernel_rfl) sbl (yld_field_z rfl F.fi142_1 F.ti79) rfl ?_
                refine any_take_on 9 rfl rfl rfl rfl rfl (by kernel_rfl) (by kernel_rfl) (by kernel_rfl) sbl (yld_index_arr (j := _) rfl rfl Tryd.underlying79 F.ti77 rfl (by omega)) rfl ?_
                refine any_take_on 10 rfl rfl rfl rfl rfl (by kernel_rfl) (by kernel_rfl) (by kernel_rfl) sbl (yld_load_at rfl F.one77 (fun a w ha => cell_of_blk (ha.mem_blk (InB.mem (b := b14))) (wk_get k hj3))) rfl ?_
                refine any_one 11 (by kernel_rfl) rfl rfl ?_
                refine lst_on rfl rfl ?_
                refine lst_fn0 (vs := [_, _]) rfl rfl F.ent85 (fun a w ha => may_c x (tget k.team j) hxo (by have := tget_lo hklo j; omega) w) ?_
                refine lst_nil ?_
                refine any_next sbl ?_
                refine any_take_on 12 rfl rfl rfl rfl rfl (by kernel_rfl) (by kernel_rfl) (by kernel_rfl) sbl (yld_not rfl) rfl ?_
                refine any_tk 13 rfl rfl rfl (yld_pick_false rfl rfl) ?_
                refine any_done rfl (by kernel_rfl) ?_
                exact ex_ghost () trivial (Sub.cons (by simp at hg67; simp [look, hg67]) sbn) pkk
            · skip
              rintro ⟨⟩ -
              dsimp only
              refine ex_then ?_
              refine cod_cond_bool rfl (fun hc5 => ?_) (fun hc5 => ?_)
              · skip
                have hst : stepT ags used n k.team i = none := stepT_not hxd hj' (by cases h : (used.testBit i && mayN x (tget k.team j)) with
                  | false => rfl
                  | true => rw [h] at hc5; cases hc5)
                refine cod_exit ?_
                refine ex_then_exit ?_
                refine ex_block_other rfl ?_
                refine ex_then_exit ?_
                refine ex_then_exit ?_
                refine ex_block_other rfl ?_
                refine ex_then_exit ?_
                refine ex_block_exit ?_
                refine ex_then ?_
                refine cod_region ?_
                refine lst_int rfl rfl rfl (fun w => bin_add w (wrap_i64' _ (by omega) (by have := hok.1; omega))) ?_
                refine lst_move rfl rfl ?_
                refine lst_nil ?_
                refine ex_round' (A3, c3, full3, rws3, i + 1) ⟨hI3.skip_none hk3 hst, hk3, hkl3, hi'⟩ (by (try dsimp only); omega) (by (try dsimp only); repeat (first | exact Sub.nil _ | refine Sub.cons rfl ?_)) pkk
              · skip
                have hc5' : used.testBit i = true ∧ mayN x (tget k.team j) = true := by simpa using hc5
                refine cod_skip ?_
                refine ex_then ?_
                refine any_begin [.b b18] F.follows 9 rfl [false, false, false, false, false, false, false, false, false] rfl ?_
                refine any_tk 0 rfl rfl rfl (yld_move rfl) ?_
                refine any_tk 1 rfl rfl rfl (yld_loadN rfl F.agg89 F.ti89) ?_
                refine any_tk 2 rfl rfl rfl (yld_move rfl) ?_
                refine any_tk 3 rfl rfl rfl (yld_field_z rfl F.fi142_1 F.ti79) ?_
                refine any_tk 4 rfl rfl rfl (yld_index_arr (j := _) rfl rfl Tryd.underlying79 F.ti77 rfl (by omega)) ?_
                refine any_tk 5 rfl rfl rfl (yld_load_at rfl F.one77 (fun a w ha => cell_of_blk (ha.mem_blk (InB.mem (b := b14))) (wk_get k hj3))) ?_
                refine any_one 6 (by kernel_rfl) rfl rfl ?_
                refine lst_fn0 (vs := [_, _]) rfl rfl F.ent91 (fun a w ha => put_c x (tget k.team j) hxo (by have := tget_lo hklo j; omega) w) ?_
                refine lst_nil ?_
                refine any_next sbl ?_
                refine any_tk 7 rfl rfl rfl (yld_index_arr (j := _) rfl rfl Tryd.underlying79 F.ti77 rfl (by omega)) ?_
                refine any_one 8 (by kernel_rfl) rfl rfl ?_
                refine lst_store_any rfl rfl F.ti77 (by show 0 + j * 1 < 3; omega) (tput_cells (putT x k.team j) hj3) UpB.upd ?_
                refine lst_nil ?_
                refine any_next sbl ?_
                refine any_done rfl (by kernel_rfl) ?_
                refine ex_block_normal ?_
                refine ex_then ?_
                refine cod_region ?_
                refine lst_int rfl rfl rfl (fun w => bin_add w (wrap_i64' _ (by omega) (by omega))) ?_
                refine lst_move rfl rfl ?_
                refine lst_nil ?_
                refine ex_round' (j + 1) ⟨hj', fun _ => hc5'.1, by rw [mayT_succ, hmay, hc5'.2]; rfl⟩ (by (try dsimp only); omega) (by (try dsimp only); repeat (first | exact Sub.nil _ | refine Sub.cons rfl ?_)) pkk
          · skip
            obtain rfl : j = n := by omega
            have hst := stepT_some hi' hxd (hub (by omega)) hmay
            have hlo' := putT_lo hxo hklo j
            refine cod_exit ?_
            refine ex_then_exit ?_
            refine ex_then_exit ?_
            refine ex_block_exit ?_
            refine ex_then ?_
            refine cod_seq ?_
            refine cod_region ?_
            refine lst_loadN rfl rfl F.agg79 F.ti79 ?_
            refine lst_field_z rfl rfl F.fi142_1 F.ti79 ?_
            refine lst_loadN rfl rfl F.agg79 F.ti79 ?_
            refine lst_bin rfl rfl rfl (run_neq_team (t := putT x k.team j) (u := k.team) hlo'.ok hklo.ok _ _) ?_
            refine lst_nil ?_
            refine ex_then ?_
            refine cod_cond_dec rfl (fun hc6 => ?_) (fun hc6 => ?_)
            · skip
              refine cod_ghost (G := Option Addr × Nat × Option Addr × Nat) (fun _ => True) (fun _ => [(2, .int .i64 (j : Int)), (3, .int .i64 most), (4, .func (.func fid) ([] : List Value).toArray cap.toArray), (5, .pointer (some ⟨b5, 0, none⟩)), (12, .pointer (some ⟨b22, 0, none⟩)), (13, .func (.func 112) [.pointer (some ⟨b22, 0, none⟩)].toArray ([] : List Value).toArray), (14, .pointer (some ⟨b14, 0, none⟩)), (49, .slice (some ⟨gA, 0, none⟩) ags.length cg), (50, .int .i64 (ags.length : Int)), (51, .int .i64 (i : Int))]) (fun g => .blk b22 (.cells [.slice g.1 (pushT (full3.drop (kk + 1)) (full3.map Wk.team) (⟨g.2.2.1, g.2.2.2, k.how ++ [i], putT x k.team j⟩ : Wk)).length g.2.1, .map (some b20)].toArray 139 (0, 0)) :: .blk b20 (metObj (pushM (full3.map Wk.team) (putT x k.team j))) :: .que 142 4 g.1 (pushT (full3.drop (kk + 1)) (full3.map Wk.team) (⟨g.2.2.1, g.2.2.2, k.how ++ [i], putT x k.team j⟩ : Wk)).length g.2.1 ((pushT (full3.drop (kk + 1)) (full3.map Wk.team) (⟨g.2.2.1, g.2.2.2, k.how ++ [i], putT x k.team j⟩ : Wk)).flatMap Wk.cells) :: .blk b14 (.cells [.slice k.A k.how.length k.c, .int .u8 (k.team.1 : Int), .int .u8 (k.team.2.1 : Int), .int .u8 (k.team.2.2 : Int)].toArray 142 (0, 0)) :: .blk b5 (.cells [.slice (some ⟨gA, 0, none⟩) ags.length cg, .int .u8 (used : Int)].toArray 75 (0, 0)) :: r :: (((⟨g.2.2.1, g.2.2.2, k.how ++ [i], putT x k.team j⟩ : Wk) :: rws3).map Wk.res ++ T)) ?_ ?_
              · skip
                refine any_begin [.b b22, .b b20, .q A3] F.follows 11 rfl [false, false, false, false, false, false, false, false, false, false, false] rfl ?_
                refine any_tk 0 rfl rfl rfl (yld_move rfl) ?_
                refine any_tk 1 rfl rfl rfl (yld_loadN rfl F.agg79 F.ti79) ?_
                refine any_tk 2 rfl rfl rfl (yld_field_z rfl F.fi142_0 F.ti25) ?_
                refine any_tk 3 rfl rfl rfl (yld_load rfl F.one25) ?_
                refine any_tk 5 rfl rfl rfl (yld_move rfl) ?_
                refine any_tk 8 rfl rfl rfl (yld_loadN rfl F.agg79 F.ti79) ?_
                refine any_two 4 6 (by kernel_rfl) rfl rfl rfl rfl ?_ ?_
                · skip
                  have hkr := hI3.rows k (List.mem_of_getElem? hk3)
                  have hhow := hI3.lens _ _ hk3
                  have hkn : (k.how ++ [i]).length = k.how.length + 1 := by simp
                  refine lst_fn (X := Option Addr × Nat) (vs := [_]) (p := fun _ => True) (val := fun x => .slice x.1 k.how.length x.2) (rs := fun x => [.row 3 1 x.1 k.how.length x.2 (ints k.how)]) rfl rfl F.ent114 (fun a w ha => (clone_c k.A k.c k.how (by omega) (fun h => List.eq_nil_of_length_eq_zero (row_nil ha (e := 3) (size := 1) (n := k.how.length) (c := k.c) (xs := ints k.how) (by simp; exact .inr (.inl ⟨k, hkr, rfl⟩)) h)) w (row_reads ha (cells := ncell) (size := 1) (e := 3) (c := k.c) (n := k.how.length) (fun _ => rfl) (by rw [← ints_flat]; simp; exact .inr (.inl ⟨k, hkr, rfl⟩)) rfl)).mono (fun e w' h => by obtain ⟨A', c', h1, h2⟩ := h; exact ⟨(A', c'), trivial, h1, h2⟩)) ?_
                  rintro ⟨Ac, cc⟩ -
                  dsimp only [List.cons_append, List.nil_append]
                  refine lst_nil ?_
                  refine any_next sbl ?_
                  refine any_one 6 (by kernel_rfl) rfl rfl ?_
                  refine lst_lit (vs := [(0, _)]) rfl rfl Tryd.underlying25 F.ti3 rfl rfl rfl ?_
                  intro b95
                  refine lst_nil ?_
                  refine any_next sbl ?_
                  refine any_one 7 (by kernel_rfl) rfl rfl ?_
                  refine lst_append rfl rfl rfl Tryd.underlying25 F.ti3 rfl rfl rfl (by unfold maxLen; omega) (by omega) ?_
                  intro An cn
                  refine lst_nil ?_
                  refine any_next sbl ?_
                  refine any_tk 9 rfl rfl rfl (yld_struct (vs := [(0, _), (1, _)]) (l' := [_, _, _, _]) rfl F.ti142 F.pl142 (.cons rfl rfl (.cons rfl rfl (.nil _))) rfl) ?_
                  refine any_one 10 (by kernel_rfl) rfl rfl ?_
                  refine lst_call (X := Option Addr × Nat) (first := [.pointer (some ⟨b22, 0, none⟩)]) (cap := []) (vs := [_, _]) (p := fun _ => True) (val := fun _ => .tuple #[]) (rs := fun y => .blk b22 (.cells [.slice y.1 (pushT (full3.drop (kk + 1)) (full3.map Wk.team) (⟨An, cn, k.how ++ [i], putT x k.team j⟩ : Wk)).length y.2, .map (some b20)].toArray 139 (0, 0)) :: .blk b20 (metObj (pushM (full3.map Wk.team) (putT x k.team j))) :: .que 142 4 y.1 (pushT (full3.drop (kk + 1)) (full3.map Wk.team) (⟨An, cn, k.how ++ [i], putT x k.team j⟩ : Wk)).length y.2 ((pushT (full3.drop (kk + 1)) (full3.map Wk.team) (⟨An, cn, k.how ++ [i], putT x k.team j⟩ : Wk)).flatMap Wk.cells) :: .blk b18 (.cells [.int .u8 ((putT x k.team j).1 : Int), .int .u8 ((putT x k.team j).2.1 : Int), .int .u8 ((putT x k.team j).2.2 : Int)].toArray 79 (0, 0)) :: .blk b17 (.cells [.int .i64 (x.needs : Int), .int .i64 (x.no : Int), .int .i64 (x.takes : Int), .int .i64 (x.leaves : Int), .int .i64 (x.cost : Int)].toArray 89 (0, 0)) :: .blk b14 (.cells [.slice k.A k.how.length k.c, .int .u8 (k.team.1 : Int), .int .u8 (k.team.2.1 : Int), .int .u8 (k.team.2.2 : Int)].toArray 142 (0, 0)) :: .blk b5 (.cells [.slice (some ⟨gA, 0, none⟩) ags.length cg, .int .u8 (used : Int)].toArray 75 (0, 0)) :: r :: .row 3 1 An (k.how.length + 1) cn (ints k.how ++ [.int .i64 (i : Int)]) :: (rws3.map Wk.res ++ T)) rfl rfl rfl F.ent112 (fun a w ha => by
                    have h := push_c (bq := b22) (bm := b20) (A := A3) (c := c3) (todo := full3.drop (kk + 1)) (met := full3.map Wk.team) (k := (⟨An, cn, k.how ++ [i], putT x k.team j⟩ : Wk)) (T := .blk b18 (.cells [.int .u8 ((putT x k.team j).1 : Int), .int .u8 ((putT x k.team j).2.1 : Int), .int .u8 ((putT x k.team j).2.2 : Int)].toArray 79 (0, 0)) :: .blk b17 (.cells [.int .i64 (x.needs : Int), .int .i64 (x.no : Int), .int .i64 (x.takes : Int), .int .i64 (x.leaves : Int), .int .i64 (x.cost : Int)].toArray 89 (0, 0)) :: .blk b14 (.cells [.slice k.A k.how.length k.c, .int .u8 (k.team.1 : Int), .int .u8 (k.team.2.1 : Int), .int .u8 (k.team.2.2 : Int)].toArray 142 (0, 0)) :: .blk b5 (.cells [.slice (some ⟨gA, 0, none⟩) ags.length cg, .int .u8 (used : Int)].toArray 75 (0, 0)) :: r :: .row 3 1 An (k.how.length + 1) cn (ints k.how ++ [.int .i64 (i : Int)]) :: (rws3.map Wk.res ++ T)) rfl (by simp; omega) (fun u hu => by obtain ⟨v, hv, rfl⟩ := List.mem_map.1 hu; exact (hI3.lo v hv).ok) hlo'.ok (ha.pck pkk)
                    dsimp only at h
                    rw [hkn] at h
                    exact h.mono (fun e w' h => by obtain ⟨A', c', h1, h2⟩ := h; exact ⟨(A', c'), trivial, h1, h2⟩)) ?_
                  rintro ⟨A4, c4⟩ -
                  dsimp only
                  refine lst_nil ?_
                  refine any_next sbl ?_
                  refine any_done rfl (by kernel_rfl) ?_
                  exact ex_ghost (A4, c4, An, cn) trivial sbn (by simp only [List.map_cons, List.cons_append, Wk.res, hkn, ints_snoc]; repeat (first | exact Pck.nil _ | exact Pck.refl _ | exact Pck.suffix _ _ | (apply Pck.cons; focus ((repeat (first | exact Rem.here _ | apply Rem.there)); done)) | refine Pck.skip _ ?_))
                · skip
                  refine lst_lit (vs := [(0, _)]) rfl rfl Tryd.underlying25 F.ti3 rfl rfl rfl ?_
                  intro b95
                  refine lst_nil ?_
                  refine any_next sbl ?_
                  refine any_one 4 (by kernel_rfl) rfl rfl ?_
                  have hkr := hI3.rows k (List.mem_of_getElem? hk3)
                  have hhow := hI3.lens _ _ hk3
                  have hkn : (k.how ++ [i]).length = k.how.length + 1 := by simp
                  refine lst_fn (X := Option Addr × Nat) (vs := [_]) (p := fun _ => True) (val := fun x => .slice x.1 k.how.length x.2) (rs := fun x => [.row 3 1 x.1 k.how.length x.2 (ints k.how)]) rfl rfl F.ent114 (fun a w ha => (clone_c k.A k.c k.how (by omega) (fun h => List.eq_nil_of_length_eq_zero (row_nil ha (e := 3) (size := 1) (n := k.how.length) (c := k.c) (xs := ints k.how) (by simp; exact .inr (.inl ⟨k, hkr, rfl⟩)) h)) w (row_reads ha (cells := ncell) (size := 1) (e := 3) (c := k.c) (n := k.how.length) (fun _ => rfl) (by rw [← ints_flat]; simp; exact .inr (.inl ⟨k, hkr, rfl⟩)) rfl)).mono (fun e w' h => by obtain ⟨A', c', h1, h2⟩ := h; exact ⟨(A', c'), trivial, h1, h2⟩)) ?_
                  rintro ⟨Ac, cc⟩ -
                  dsimp only [List.cons_append, List.nil_append]
                  refine lst_nil ?_
                  refine any_next sbl ?_
                  refine any_one 7 (by kernel_rfl) rfl rfl ?_
                  refine lst_append rfl rfl rfl Tryd.underlying25 F.ti3 rfl rfl rfl (by unfold maxLen; omega) (by omega) ?_
                  intro An cn
                  refine lst_nil ?_
                  refine any_next sbl ?_
                  refine any_tk 9 rfl rfl rfl (yld_struct (vs := [(0, _), (1, _)]) (l' := [_, _, _, _]) rfl F.ti142 F.pl142 (.cons rfl rfl (.cons rfl rfl (.nil _))) rfl) ?_
                  refine any_one 10 (by kernel_rfl) rfl rfl ?_
                  refine lst_call (X := Option Addr × Nat) (first := [.pointer (some ⟨b22, 0, none⟩)]) (cap := []) (vs := [_, _]) (p := fun _ => True) (val := fun _ => .tuple #[]) (rs := fun y => .blk b22 (.cells [.slice y.1 (pushT (full3.drop (kk + 1)) (full3.map Wk.team) (⟨An, cn, k.how ++ [i], putT x k.team j⟩ : Wk)).length y.2, .map (some b20)].toArray 139 (0, 0)) :: .blk b20 (metObj (pushM (full3.map Wk.team) (putT x k.team j))) :: .que 142 4 y.1 (pushT (full3.drop (kk + 1)) (full3.map Wk.team) (⟨An, cn, k.how ++ [i], putT x k.team j⟩ : Wk)).length y.2 ((pushT (full3.drop (kk + 1)) (full3.map Wk.team) (⟨An, cn, k.how ++ [i], putT x k.team j⟩ : Wk)).flatMap Wk.cells) :: .blk b18 (.cells [.int .u8 ((putT x k.team j).1 : Int), .int .u8 ((putT x k.team j).2.1 : Int), .int .u8 ((putT x k.team j).2.2 : Int)].toArray 79 (0, 0)) :: .blk b17 (.cells [.int .i64 (x.needs : Int), .int .i64 (x.no : Int), .int .i64 (x.takes : Int), .int .i64 (x.leaves : Int), .int .i64 (x.cost : Int)].toArray 89 (0, 0)) :: .blk b14 (.cells [.slice k.A k.how.length k.c, .int .u8 (k.team.1 : Int), .int .u8 (k.team.2.1 : Int), .int .u8 (k.team.2.2 : Int)].toArray 142 (0, 0)) :: .blk b5 (.cells [.slice (some ⟨gA, 0, none⟩) ags.length cg, .int .u8 (used : Int)].toArray 75 (0, 0)) :: r :: .row 3 1 An (k.how.length + 1) cn (ints k.how ++ [.int .i64 (i : Int)]) :: (rws3.map Wk.res ++ T)) rfl rfl rfl F.ent112 (fun a w ha => by
                    have h := push_c (bq := b22) (bm := b20) (A := A3) (c := c3) (todo := full3.drop (kk + 1)) (met := full3.map Wk.team) (k := (⟨An, cn, k.how ++ [i], putT x k.team j⟩ : Wk)) (T := .blk b18 (.cells [.int .u8 ((putT x k.team j).1 : Int), .int .u8 ((putT x k.team j).2.1 : Int), .int .u8 ((putT x k.team j).2.2 : Int)].toArray 79 (0, 0)) :: .blk b17 (.cells [.int .i64 (x.needs : Int), .int .i64 (x.no : Int), .int .i64 (x.takes : Int), .int .i64 (x.leaves : Int), .int .i64 (x.cost : Int)].toArray 89 (0, 0)) :: .blk b14 (.cells [.slice k.A k.how.length k.c, .int .u8 (k.team.1 : Int), .int .u8 (k.team.2.1 : Int), .int .u8 (k.team.2.2 : Int)].toArray 142 (0, 0)) :: .blk b5 (.cells [.slice (some ⟨gA, 0, none⟩) ags.length cg, .int .u8 (used : Int)].toArray 75 (0, 0)) :: r :: .row 3 1 An (k.how.length + 1) cn (ints k.how ++ [.int .i64 (i : Int)]) :: (rws3.map Wk.res ++ T)) rfl (by simp; omega) (fun u hu => by obtain ⟨v, hv, rfl⟩ := List.mem_map.1 hu; exact (hI3.lo v hv).ok) hlo'.ok (ha.pck pkk)
                    dsimp only at h
                    rw [hkn] at h
                    exact h.mono (fun e w' h => by obtain ⟨A', c', h1, h2⟩ := h; exact ⟨(A', c'), trivial, h1, h2⟩)) ?_
                  rintro ⟨A4, c4⟩ -
                  dsimp only
                  refine lst_nil ?_
                  refine any_next sbl ?_
                  refine any_done rfl (by kernel_rfl) ?_
                  exact ex_ghost (A4, c4, An, cn) trivial sbn (by simp only [List.map_cons, List.cons_append, Wk.res, hkn, ints_snoc]; repeat (first | exact Pck.nil _ | exact Pck.refl _ | exact Pck.suffix _ _ | (apply Pck.cons; focus ((repeat (first | exact Rem.here _ | apply Rem.there)); done)) | refine Pck.skip _ ?_))
              · skip
                rintro ⟨A4, c4, An, cn⟩ -
                dsimp only
                refine ex_block_normal ?_
                refine ex_then ?_
                refine cod_region ?_
                refine lst_int rfl rfl rfl (fun w => bin_add w (wrap_i64' _ (by omega) (by have := hok.1; omega))) ?_
                refine lst_move rfl rfl ?_
                refine lst_nil ?_
                have hI' := hI3.push (kn := (⟨An, cn, k.how ++ [i], putT x k.team j⟩ : Wk)) hk3 hi' hst rfl hc2 hlo'
                refine ex_round' (A4, c4, pushF full3 (⟨An, cn, k.how ++ [i], putT x k.team j⟩ : Wk), (⟨An, cn, k.how ++ [i], putT x k.team j⟩ : Wk) :: rws3, i + 1) ⟨hI', pushF_get hk3, (List.getElem?_eq_some_iff.1 (pushF_get hk3)).1, hi'⟩ (by (try dsimp only); omega) (by (try dsimp only); repeat (first | exact Sub.nil _ | refine Sub.cons rfl ?_)) (by dsimp only; rw [pushF_drop (by omega), pushF_map]; repeat (first | exact Pck.nil _ | exact Pck.refl _ | exact Pck.suffix _ _ | (apply Pck.cons; focus ((repeat (first | exact Rem.here _ | apply Rem.there)); done)) | refine Pck.skip _ ?_))
            · skip
              have hsame : putT x k.team j = k.team := Classical.not_not.1 hc6
              rw [hsame] at hst
              refine cod_skip ?_
              refine ex_block_normal ?_
              refine ex_then ?_
              refine cod_region ?_
              refine lst_int rfl rfl rfl (fun w => bin_add w (wrap_i64' _ (by omega) (by have := hok.1; omega))) ?_
              refine lst_move rfl rfl ?_
              refine lst_nil ?_
              refine ex_round' (A3, c3, full3, rws3, i + 1) ⟨hI3.same hk3 hst, hk3, hkl3, hi'⟩ (by (try dsimp only); omega) (by (try dsimp only); repeat (first | exact Sub.nil _ | refine Sub.cons rfl ?_)) pkk
        · skip
          refine cod_exit ?_
          refine ex_then_exit ?_
          refine ex_then_exit ?_
          refine ex_block_exit ?_
          refine ex_scope_normal ?_
          refine ex_block_normal ?_
          obtain rfl : i = ags.length := by omega
          have hI' := hI3.next hk3 hc1
          have hlen3 := hI3.len
          refine ex_round' (A3, c3, full3, kk + 1, rws3) hI' (by (try dsimp only); omega) (by (try dsimp only); repeat (first | exact Sub.nil _ | refine Sub.cons rfl ?_)) pkk

end Go.Proofs.YtofkhehcnfiopaaDoor.N
namespace Go.Proofs.YtofkhehcnfiopaaDoor.N
open Go Go.RowKit Go.Proofs
set_option linter.unusedSectionVars false
variable [I : Sys]
/-- The first m melts are clear. -/
def clearT (p : Nat) (t : Tm) (m : Nat) : Bool := (List.range m).all fun j => decide (nn (tget t j) p = 0)
theorem clearT_succ (p : Nat) (t : Tm) (m : Nat) : clearT p t (m + 1) = (clearT p t m && decide (nn (tget t m) p = 0)) := by simp [clearT, List.range_succ]
theorem clearT_false {p m j : Nat} {t : Tm} (hj : j < m) (h : ¬ nn (tget t j) p = 0) : clearT p t m = false := by
  unfold clearT
  rw [List.all_eq_false]
  exact ⟨j, by simpa using hj, by simpa using h⟩
theorem tget_ok {t : Tm} (h : Tm.ok t) (j : Nat) : tget t j < 256 := by
  rcases j with _ | _ | j
  · exact h.1
  · exact h.2.1
  · exact h.2.2
/-- An agent tells two melts apart. -/
def tells (x : Ag) (t : Tm) : Bool := mayN x t.1 != mayN x t.2.1
def tellsI (ags : List Ag) (t : Tm) : Nat := ags.findIdx (tells · t)
def tellsG (ags : List Ag) (t : Tm) : Bool := ags.any (tells · t)
theorem tells_first {ags : List Ag} {t : Tm} {x : Ag} {k : Nat} (hx : ags[k]? = some x) (h0 : (ags.take k).all (fun x => !(tells x t)) = true) (h1 : tells x t = true) : tellsI ags t = k := by
  obtain ⟨hk, he⟩ := List.getElem?_eq_some_iff.1 hx
  unfold tellsI
  rw [List.findIdx_eq hk]
  refine ⟨by rw [he]; exact h1, fun j hj => ?_⟩
  have := List.all_eq_true.1 h0 ags[j] (List.mem_take_iff_getElem.2 ⟨j, by omega, rfl⟩)
  simpa using this
theorem tells_some {ags : List Ag} {t : Tm} {x : Ag} {k : Nat} (hx : ags[k]? = some x) (h1 : tells x t = true) : tellsG ags t = true := List.any_eq_true.2 ⟨x, List.mem_of_getElem? hx, h1⟩
theorem tells_none {ags : List Ag} {t : Tm} (h0 : ags.all (fun x => !(tells x t)) = true) : tellsG ags t = false := by
  unfold tellsG
  rw [List.any_eq_false]
  intro x hx
  have := List.all_eq_true.1 h0 x hx
  simpa using this
theorem run_neq_bool {P : Program} {t : TypeId} (ht : P.underlying t = some .bool) (u v : Bool) (x y : Operand) (w : World) : (do eqGuard .neq t x y (.bool u) (.bool v); binOp .neq t (.bool u) (.bool v) : Sem Value).run P w = .ok (.bool (u != v)) w := by
  have hg : (eqGuard .neq t x y (.bool u) (.bool v)).run P w = .ok () w := by simp [eqGuard]
  have hb : (binOp .neq t (.bool u) (.bool v)).run P w = .ok (.bool (u != v)) w := by
    show (do pure (.bool (!(← Op.equal t (.bool u) (.bool v)))) : Sem Value).run P w = _
    have he : (Op.equal t (.bool u) (.bool v)).run P w = .ok (u == v) w := by
      show (Op.equalIn (9999 + 1) t (.bool u) (.bool v)).run P w = _
      unfold Op.equalIn
      simp only [Sem.run_bind, run_underlying ht, Result.andThen_ok]
      simp
    simp only [Sem.run_bind, he, Result.andThen_ok, Sem.run_pure]
    rfl
  simp only [Sem.run_bind, hg, Result.andThen_ok, hb]
end Go.Proofs.YtofkhehcnfiopaaDoor.N
namespace Go.Proofs.YtofkhehcnfiopaaDoor.N
open Go Go.RowKit Go.Proofs
set_option linter.unusedSectionVars false
variable [I : Sys]
theorem F.ent115 : Enters Tryd.prog 115 := enters_of Tryd.func115 rfl (by kernel_rfl)
theorem F.ent79 : Enters Tryd.prog 79 := enters_of Tryd.func79 rfl (by kernel_rfl)
theorem F.ent80 : Enters Tryd.prog 80 := enters_of Tryd.func80 rfl (by kernel_rfl)
theorem F.ent81 : Enters Tryd.prog 81 := enters_of Tryd.func81 rfl (by kernel_rfl)
theorem shortest1_c {C : Ctx} {fr : List (Nat × Value)} {T : List Res} {a : Act} {w : World} (hC : C.P = Tryd.prog) {bp p : Nat} {t : Tm} (ht : Tm.ok t) (hp : p < 256) (ha : At C fr (.blk bp (.cells [.int .u8 (p : Int)].toArray 77 (0, 0)) :: T) a w) : Calls C.P 122 #[.agg [.int .u8 (t.1 : Int), .int .u8 (t.2.1 : Int), .int .u8 (t.2.2 : Int)].toArray, .pointer (some ⟨bp, 0, none⟩)] w fun e w' => e = .returned (.bool (decide (nn t.1 p = 0))) ∧ At C fr (.blk bp (.cells [.int .u8 (p : Int)].toArray 77 (0, 0)) :: T) a w' := by
  obtain ⟨P, B, w0, N0, ds⟩ := C
  obtain rfl : P = Tryd.prog := hC
  refine enter_in (N := 8) [(0, .agg [.int .u8 (t.1 : Int), .int .u8 (t.2.1 : Int), .int .u8 (t.2.2 : Int)].toArray), (1, .pointer (some ⟨bp, 0, none⟩))] ha Tryd.func122 rfl Tryd.ntmps122 rfl rfl ?_
  refine cod_seq ?_
  refine cod_region ?_
  refine lst_box rfl rfl ?_
  intro b2
  refine lst_assign rfl rfl ?_
  refine lst_nil ?_
  refine ex_then ?_
  refine cod_seq ?_
  refine cod_region ?_
  refine lst_index_lit (j := 0) (off := 0) rfl rfl rfl Tryd.underlying79 F.ti77 rfl rfl ?_
  refine lst_load rfl rfl F.one77 ?_
  refine lst_load rfl rfl F.one77 ?_
  refine lst_fn0 (vs := [_, _]) rfl rfl F.ent81 (fun a w ha => clear_c t.1 p ht.1 hp w) ?_
  refine lst_assign rfl rfl ?_
  refine lst_nil ?_
  refine ex_then ?_
  refine cod_ret ?_
  exact ex_ret rfl (fun a w ha => res_one rfl rfl ha) (fun _ _ ha' => ⟨rfl, ha.back (ha'.pck pkk)⟩)

theorem both11_c {C : Ctx} {fr : List (Nat × Value)} {T : List Res} {a : Act} {w : World} (hC : C.P = Tryd.prog) {bp p f : Nat} (hf : f < 256) (hp : p < 256) (ha : At C fr (.blk bp (.cells [.int .u8 (p : Int)].toArray 77 (0, 0)) :: T) a w) : Calls C.P 80 #[.int .u8 (f : Int), .pointer (some ⟨bp, 0, none⟩)] w fun e w' => e = .returned (.bool (!(decide (nn f p = 0)))) ∧ At C fr (.blk bp (.cells [.int .u8 (p : Int)].toArray 77 (0, 0)) :: T) a w' := by
  obtain ⟨P, B, w0, N0, ds⟩ := C
  obtain rfl : P = Tryd.prog := hC
  refine enter_in (N := 8) [(0, .int .u8 (f : Int)), (1, .pointer (some ⟨bp, 0, none⟩))] ha Tryd.func80 rfl Tryd.ntmps80 rfl rfl ?_
  refine cod_seq ?_
  refine cod_region ?_
  refine lst_assign rfl rfl ?_
  refine lst_nil ?_
  refine ex_then ?_
  refine cod_seq ?_
  refine cod_region ?_
  refine lst_move rfl rfl ?_
  refine lst_load rfl rfl F.one77 ?_
  refine lst_fn0 (vs := [_, _]) rfl rfl F.ent81 (fun a w ha => clear_c f p hf hp w) ?_
  refine lst_not rfl rfl ?_
  refine lst_assign rfl rfl ?_
  refine lst_nil ?_
  refine ex_then ?_
  refine cod_ret ?_
  exact ex_ret rfl (fun a w ha => res_one rfl rfl ha) (fun _ _ ha' => ⟨rfl, ha.back (ha'.pck pkk)⟩)

theorem index_c {C : Ctx} {fr : List (Nat × Value)} {T : List Res} {a : Act} {w : World} (hC : C.P = Tryd.prog) {bp p b3 m : Nat} {t : Tm} (ht : Tm.ok t) (hp : p < 256) (hm : m ≤ 3) (ha : At C fr (.blk bp (.cells [.int .u8 (p : Int)].toArray 77 (0, 0)) :: .blk b3 (.cells [.int .u8 (t.1 : Int), .int .u8 (t.2.1 : Int), .int .u8 (t.2.2 : Int)].toArray 79 (0, 0)) :: T) a w) : Calls C.P 115 #[.slice (some ⟨b3, 0, none⟩) m 3, .func (.func 80) ([] : List Value).toArray [.pointer (some ⟨bp, 0, none⟩)].toArray] w fun e w' => ∃ z : Int, e = .returned (.int .i64 z) ∧ (0 ≤ z ↔ clearT p t m = false) ∧ At C fr (.blk bp (.cells [.int .u8 (p : Int)].toArray 77 (0, 0)) :: .blk b3 (.cells [.int .u8 (t.1 : Int), .int .u8 (t.2.1 : Int), .int .u8 (t.2.2 : Int)].toArray 79 (0, 0)) :: T) a w' := by
  obtain ⟨P, B, w0, N0, ds⟩ := C
  obtain rfl : P = Tryd.prog := hC
  refine enter_in (N := 19) [(0, .slice (some ⟨b3, 0, none⟩) m 3), (1, .func (.func 80) ([] : List Value).toArray [.pointer (some ⟨bp, 0, none⟩)].toArray)] ha Tryd.func115 rfl Tryd.ntmps115 rfl rfl ?_
  refine cod_seq ?_
  refine cod_region ?_
  refine lst_assign rfl rfl ?_
  refine lst_nil ?_
  refine ex_then ?_
  refine cod_seq ?_
  refine cod_seq ?_
  refine cod_region ?_
  refine lst_move rfl rfl ?_
  refine lst_len rfl rfl Tryd.underlying84 ?_
  refine lst_move rfl rfl ?_
  refine lst_nil ?_
  refine ex_then ?_
  refine cod_block ?_
  refine cod_loop (G := Nat) (fun k => k ≤ m ∧ clearT p t k = true) (fun k => m - k) (fun k => [(0, .slice (some ⟨b3, 0, none⟩) m 3), (1, .func (.func 80) ([] : List Value).toArray [.pointer (some ⟨bp, 0, none⟩)].toArray), (7, .int .i64 (m : Int)), (8, .int .i64 (k : Int))]) (fun k => .blk bp (.cells [.int .u8 (p : Int)].toArray 77 (0, 0)) :: .blk b3 (.cells [.int .u8 (t.1 : Int), .int .u8 (t.2.1 : Int), .int .u8 (t.2.2 : Int)].toArray 79 (0, 0)) :: T) 0 ⟨Nat.zero_le _, rfl⟩ sbn sbl ?_
  intro k hk
  (try dsimp only at hk ⊢)
  refine cod_seq ?_
  refine cod_region ?_
  refine lst_int rfl rfl rfl bin_lss ?_
  refine lst_nil ?_
  refine ex_then ?_
  refine cod_seq ?_
  refine cod_cond_dec rfl (fun hc0 => ?_) (fun hc0 => ?_)
  · skip
    have hk' : k < m := by omega
    have hk3 : k < 3 := by omega
    refine cod_skip ?_
    refine ex_then ?_
    refine cod_seq ?_
    refine cod_block ?_
    refine cod_seq ?_
    refine cod_region ?_
    refine lst_move rfl rfl ?_
    refine lst_assign rfl rfl ?_
    refine lst_nil ?_
    refine ex_then ?_
    refine cod_seq ?_
    refine cod_region ?_
    refine lst_move rfl rfl ?_
    refine lst_move rfl rfl ?_
    refine lst_move rfl rfl ?_
    refine lst_index (j := k) rfl rfl rfl Tryd.underlying84 F.ti77 rfl hk' ?_
    refine lst_load_at (v := .int .u8 (tget t k : Int)) rfl rfl F.one77 (fun a w ha => by rw [Nat.zero_add, Nat.mul_one]; exact cell_of_blk (ha.mem_blk (InB.mem (b := b3))) (tget_cell t hk3)) ?_
    refine lst_call (X := Unit) (first := []) (cap := [.pointer (some ⟨bp, 0, none⟩)]) (vs := [_]) (p := fun _ => True) (val := fun _ => .bool (!(decide (nn (tget t k) p = 0)))) (rs := fun _ => .blk bp (.cells [.int .u8 (p : Int)].toArray 77 (0, 0)) :: .blk b3 (.cells [.int .u8 (t.1 : Int), .int .u8 (t.2.1 : Int), .int .u8 (t.2.2 : Int)].toArray 79 (0, 0)) :: T) rfl rfl rfl F.ent80 (fun a w ha => (both11_c rfl (tget_ok ht k) hp ha).mono (fun e w' h => ⟨(), trivial, h.1, h.2⟩)) ?_
    rintro ⟨⟩ -
    dsimp only
    refine lst_nil ?_
    refine ex_then ?_
    refine cod_cond_bool rfl (fun hc1 => ?_) (fun hc1 => ?_)
    · skip
      refine cod_seq ?_
      refine cod_region ?_
      refine lst_move rfl rfl ?_
      refine lst_assign rfl rfl ?_
      refine lst_nil ?_
      refine ex_then ?_
      refine cod_ret ?_
      refine ex_block_ret ?_
      refine ex_then_ret ?_
      refine ex_then_ret ?_
      refine ex_block_ret ?_
      refine ex_then_ret ?_
      have hf := clearT_false hk' (by simpa using hc1)
      exact ex_ret rfl (fun a w ha => res_one rfl rfl ha) (fun _ _ ha' => ⟨_, rfl, ⟨fun _ => hf, fun _ => by omega⟩, ha.back (ha'.pck pkk)⟩)
    · skip
      refine cod_skip ?_
      refine ex_block_normal ?_
      refine ex_then ?_
      refine cod_region ?_
      refine lst_int rfl rfl rfl (fun w => bin_add w (wrap_i64' _ (by omega) (by omega))) ?_
      refine lst_move rfl rfl ?_
      refine lst_nil ?_
      refine ex_round (k + 1) ⟨by omega, by rw [clearT_succ, hk.2]; simpa using hc1⟩ (by (try dsimp only); omega) sbn sbl
  · skip
    refine cod_exit ?_
    refine ex_then_exit ?_
    refine ex_then_exit ?_
    refine ex_block_exit ?_
    refine ex_then ?_
    refine cod_seq ?_
    refine cod_region ?_
    refine lst_assign rfl rfl ?_
    refine lst_nil ?_
    refine ex_then ?_
    refine cod_ret ?_
    obtain rfl : k = m := by omega
    exact ex_ret rfl (fun a w ha => res_one rfl rfl ha) (fun _ _ ha' => ⟨_, rfl, ⟨fun h => absurd h (by decide), fun h => by rw [hk.2] at h; cases h⟩, ha.back (ha'.pck pkk)⟩)

theorem contains_c {C : Ctx} {fr : List (Nat × Value)} {T : List Res} {a : Act} {w : World} (hC : C.P = Tryd.prog) {bp p b3 m : Nat} {t : Tm} (ht : Tm.ok t) (hp : p < 256) (hm : m ≤ 3) (ha : At C fr (.blk bp (.cells [.int .u8 (p : Int)].toArray 77 (0, 0)) :: .blk b3 (.cells [.int .u8 (t.1 : Int), .int .u8 (t.2.1 : Int), .int .u8 (t.2.2 : Int)].toArray 79 (0, 0)) :: T) a w) : Calls C.P 79 #[.slice (some ⟨b3, 0, none⟩) m 3, .func (.func 80) ([] : List Value).toArray [.pointer (some ⟨bp, 0, none⟩)].toArray] w fun e w' => e = .returned (.bool (!(clearT p t m))) ∧ At C fr (.blk bp (.cells [.int .u8 (p : Int)].toArray 77 (0, 0)) :: .blk b3 (.cells [.int .u8 (t.1 : Int), .int .u8 (t.2.1 : Int), .int .u8 (t.2.2 : Int)].toArray 79 (0, 0)) :: T) a w' := by
  obtain ⟨P, B, w0, N0, ds⟩ := C
  obtain rfl : P = Tryd.prog := hC
  refine enter_in (N := 9) [(0, .slice (some ⟨b3, 0, none⟩) m 3), (1, .func (.func 80) ([] : List Value).toArray [.pointer (some ⟨bp, 0, none⟩)].toArray)] ha Tryd.func79 rfl Tryd.ntmps79 rfl rfl ?_
  refine cod_seq ?_
  refine cod_region ?_
  refine lst_assign rfl rfl ?_
  refine lst_nil ?_
  refine ex_then ?_
  refine cod_seq ?_
  refine cod_region ?_
  refine lst_move rfl rfl ?_
  refine lst_move rfl rfl ?_
  refine lst_call (X := Int) (first := []) (cap := []) (vs := [_, _]) (p := fun z => 0 ≤ z ↔ clearT p t m = false) (val := fun z => .int .i64 z) (rs := fun _ => .blk bp (.cells [.int .u8 (p : Int)].toArray 77 (0, 0)) :: .blk b3 (.cells [.int .u8 (t.1 : Int), .int .u8 (t.2.1 : Int), .int .u8 (t.2.2 : Int)].toArray 79 (0, 0)) :: T) rfl rfl rfl F.ent115 (fun a w ha => (index_c rfl ht hp hm ha).mono (fun e w' h => by obtain ⟨z, h1, h2, h3⟩ := h; exact ⟨z, h2, h1, h3⟩)) ?_
  intro z hz
  dsimp only
  refine lst_int rfl rfl rfl bin_geq ?_
  refine lst_assign rfl rfl ?_
  refine lst_nil ?_
  refine ex_then ?_
  refine cod_ret ?_
  have e1 : decide (z ≥ 0) = !(clearT p t m) := by
    cases h : clearT p t m with
    | true => rw [h] at hz; simp; by_cases h0 : 0 ≤ z
              · have := hz.1 h0; cases this
              · omega
    | false => simp; exact hz.2 h
  exact ex_ret rfl (fun a w ha => res_one rfl rfl ha) (fun _ _ ha' => ⟨by rw [← e1], ha.back (ha'.pck pkk)⟩)

theorem both1_c {C : Ctx} {fr : List (Nat × Value)} {T : List Res} {a : Act} {w : World} (hC : C.P = Tryd.prog) {bp p bl m mc : Nat} {mA : Option Addr} {t : Tm} (ht : Tm.ok t) (hp : p < 256) (hm : m ≤ 3) (hl : Res.blk bl (.cells [.slice mA m mc].toArray 25 (0, 0)) ∈ T) (ha : At C fr (.blk bp (.cells [.int .u8 (p : Int)].toArray 77 (0, 0)) :: T) a w) : Calls C.P 78 #[.agg [.int .u8 (t.1 : Int), .int .u8 (t.2.1 : Int), .int .u8 (t.2.2 : Int)].toArray, .pointer (some ⟨bl, 0, none⟩), .pointer (some ⟨bp, 0, none⟩)] w fun e w' => e = .returned (.bool (clearT p t m)) ∧ At C fr (.blk bp (.cells [.int .u8 (p : Int)].toArray 77 (0, 0)) :: T) a w' := by
  obtain ⟨P, B, w0, N0, ds⟩ := C
  obtain rfl : P = Tryd.prog := hC
  refine enter_in (N := 11) [(0, .agg [.int .u8 (t.1 : Int), .int .u8 (t.2.1 : Int), .int .u8 (t.2.2 : Int)].toArray), (1, .pointer (some ⟨bl, 0, none⟩)), (2, .pointer (some ⟨bp, 0, none⟩))] ha Tryd.func78 rfl Tryd.ntmps78 rfl rfl ?_
  refine cod_seq ?_
  refine cod_region ?_
  refine lst_box rfl rfl ?_
  intro b3
  refine lst_assign rfl rfl ?_
  refine lst_nil ?_
  refine ex_then ?_
  refine cod_seq ?_
  refine cod_region ?_
  refine lst_load_at (v := .slice mA m mc) rfl rfl F.one25 (fun a w ha => cell_of_blk (ha.mem_blk (b := bl) (o := .cells [.slice mA m mc].toArray 25 (0, 0)) (by simp [hl])) rfl) ?_
  refine lst_len rfl rfl Tryd.underlying25 ?_
  refine lst_slice_arr rfl rfl rfl Tryd.underlying79 F.ti77 hm ?_
  refine lst_makeFunc (fs := []) (cs := [_]) rfl rfl rfl ?_
  refine lst_call (X := Unit) (first := []) (cap := []) (vs := [_, _]) (p := fun _ => True) (val := fun _ => .bool (!(clearT p t m))) (rs := fun _ => .blk bp (.cells [.int .u8 (p : Int)].toArray 77 (0, 0)) :: .blk b3 (.cells [.int .u8 (t.1 : Int), .int .u8 (t.2.1 : Int), .int .u8 (t.2.2 : Int)].toArray 79 (0, 0)) :: T) rfl rfl rfl F.ent79 (fun a w ha => (contains_c (b3 := b3) rfl ht hp hm (ha.pck pkk)).mono (fun e w' h => ⟨(), trivial, h.1, h.2⟩)) ?_
  rintro ⟨⟩ -
  dsimp only
  refine lst_not rfl rfl ?_
  refine lst_assign rfl rfl ?_
  refine lst_nil ?_
  refine ex_then ?_
  refine cod_ret ?_
  exact ex_ret rfl (fun a w ha => res_one rfl rfl ha) (fun _ _ ha' => ⟨by rw [Bool.not_not], ha.back (ha'.pck pkk)⟩)

theorem tells1_c {C : Ctx} {fr : List (Nat × Value)} {T : List Res} {a : Act} {w : World} (hC : C.P = Tryd.prog) {bc bi : Nat} {ags : List Ag} {used cg : Nat} {aA : Option Addr} {t : Tm} (hok : Oks ags) (ht : Tm.ok t) (hl : Res.blk bc (.cells [.slice aA ags.length cg, .int .u8 (used : Int)].toArray 75 (0, 0)) ∈ T) (hAg : Res.row 89 5 aA ags.length cg (ags.flatMap Ag.cells) ∈ T) (ha : At C fr (.blk bi (.cells [.int .i64 (-1)].toArray 3 (0, 0)) :: T) a w) : Calls C.P 84 #[.agg [.int .u8 (t.1 : Int), .int .u8 (t.2.1 : Int), .int .u8 (t.2.2 : Int)].toArray, .pointer (some ⟨bc, 0, none⟩), .pointer (some ⟨bi, 0, none⟩)] w fun e w' => e = .returned (.bool (tellsG ags t)) ∧ At C fr ((if tellsG ags t = true then .blk bi (.cells [.int .i64 (tellsI ags t : Int)].toArray 3 (0, 0)) else .blk bi (.cells [.int .i64 (-1)].toArray 3 (0, 0))) :: T) a w' := by
  obtain ⟨P, B, w0, N0, ds⟩ := C
  obtain rfl : P = Tryd.prog := hC
  refine enter_in (N := 26) [(0, .agg [.int .u8 (t.1 : Int), .int .u8 (t.2.1 : Int), .int .u8 (t.2.2 : Int)].toArray), (1, .pointer (some ⟨bc, 0, none⟩)), (2, .pointer (some ⟨bi, 0, none⟩))] ha Tryd.func84 rfl Tryd.ntmps84 rfl rfl ?_
  refine cod_seq ?_
  refine cod_region ?_
  refine lst_box rfl rfl ?_
  intro b3
  refine lst_assign rfl rfl ?_
  refine lst_nil ?_
  refine ex_then ?_
  refine cod_seq ?_
  refine cod_seq ?_
  refine cod_region ?_
  refine lst_field_z rfl rfl F.fi75_0 F.ti72 ?_
  refine lst_load_at (v := .slice aA ags.length cg) rfl rfl F.one72 (fun a w ha => cell_of_blk (ha.mem_blk (b := bc) (o := .cells [.slice aA ags.length cg, .int .u8 (used : Int)].toArray 75 (0, 0)) (by simp [hl])) rfl) ?_
  refine lst_len rfl rfl Tryd.underlying72 ?_
  refine lst_move rfl rfl ?_
  refine lst_nil ?_
  refine ex_then ?_
  refine cod_block ?_
  refine cod_loop (G := Nat) (fun k => k ≤ ags.length ∧ (ags.take k).all (fun x => !(tells x t)) = true) (fun k => ags.length - k) (fun k => [(2, .pointer (some ⟨bi, 0, none⟩)), (3, .pointer (some ⟨b3, 0, none⟩)), (8, .slice aA ags.length cg), (9, .int .i64 (ags.length : Int)), (10, .int .i64 (k : Int))]) (fun k => .blk b3 (.cells [.int .u8 (t.1 : Int), .int .u8 (t.2.1 : Int), .int .u8 (t.2.2 : Int)].toArray 79 (0, 0)) :: .blk bi (.cells [.int .i64 (-1)].toArray 3 (0, 0)) :: T) 0 ⟨Nat.zero_le _, rfl⟩ sbn sbl ?_
  intro k hk
  (try dsimp only at hk ⊢)
  refine cod_seq ?_
  refine cod_region ?_
  refine lst_int rfl rfl rfl bin_lss ?_
  refine lst_nil ?_
  refine ex_then ?_
  refine cod_seq ?_
  refine cod_cond_dec rfl (fun hc0 => ?_) (fun hc0 => ?_)
  · skip
    have hk' : k < ags.length := by omega
    obtain ⟨gA, hgA⟩ := row_some (ha.own _ (List.mem_cons.2 (.inr hAg))) (by omega)
    subst hgA
    obtain ⟨x, hx⟩ : ∃ x, ags[k]? = some x := ⟨_, List.getElem?_eq_getElem hk'⟩
    have hxo : x.ok := hok.2 x (List.mem_of_getElem? hx)
    refine cod_skip ?_
    refine ex_then ?_
    refine cod_seq ?_
    refine cod_block ?_
    refine cod_seq ?_
    refine cod_region ?_
    refine lst_move rfl rfl ?_
    refine lst_index (j := k) rfl rfl rfl Tryd.underlying72 F.ti89 rfl hk' ?_
    refine lst_loadN_at (l := [.int .i64 (x.needs : Int), .int .i64 (x.no : Int), .int .i64 (x.takes : Int), .int .i64 (x.leaves : Int), .int .i64 (x.cost : Int)]) rfl rfl F.agg89 F.ti89 rfl (fun a w ha j u hu => row_at ha (e := 89) (n := ags.length) (c := cg) (cells := Ag.cells) (by simp [hAg]) (fun _ => rfl) hx hu) ?_
    refine lst_alloc rfl F.ti89 ?_
    intro b6
    refine lst_assign rfl rfl ?_
    refine lst_store rfl rfl F.ti89 rfl ?_
    refine lst_nil ?_
    refine ex_then ?_
    refine cod_seq ?_
    refine any_begin [] F.follows 9 rfl [false, false, false, false, false, false, false, false, false] rfl ?_
    refine any_tk 0 rfl rfl rfl (yld_loadN rfl F.agg89 F.ti89) ?_
    refine any_tk 1 rfl rfl rfl (yld_index_lit (j := 0) (off := 0) rfl rfl Tryd.underlying79 F.ti77 rfl rfl) ?_
    refine any_tk 2 rfl rfl rfl (yld_load rfl F.one77) ?_
    refine any_tk 4 rfl rfl rfl (yld_loadN rfl F.agg89 F.ti89) ?_
    refine any_tk 5 rfl rfl rfl (yld_index_lit (j := 1) (off := 1) rfl rfl Tryd.underlying79 F.ti77 rfl rfl) ?_
    refine any_tk 6 rfl rfl rfl (yld_load rfl F.one77) ?_
    refine any_one 3 (by kernel_rfl) rfl rfl ?_
    refine lst_fn0 (vs := [_, _]) rfl rfl F.ent85 (fun a w ha => may_c x t.1 hxo ht.1 w) ?_
    refine lst_nil ?_
    refine any_next sbl ?_
    refine any_one 7 (by kernel_rfl) rfl rfl ?_
    refine lst_fn0 (vs := [_, _]) rfl rfl F.ent85 (fun a w ha => may_c x t.2.1 hxo ht.2.1 w) ?_
    refine lst_nil ?_
    refine any_next sbl ?_
    refine any_one 8 (by kernel_rfl) rfl rfl ?_
    refine lst_bin rfl rfl rfl (run_neq_bool Tryd.underlying4 _ _ _ _) ?_
    refine lst_nil ?_
    refine any_next sbl ?_
    refine any_done rfl (by kernel_rfl) ?_
    refine ex_then ?_
    refine cod_cond_bool rfl (fun hc1 => ?_) (fun hc1 => ?_)
    · skip
      refine cod_seq ?_
      refine cod_region ?_
      refine lst_move rfl rfl ?_
      refine lst_store rfl rfl F.ti3 rfl ?_
      refine lst_nil ?_
      refine ex_then ?_
      refine cod_seq ?_
      refine cod_region ?_
      refine lst_assign rfl rfl ?_
      refine lst_nil ?_
      refine ex_then ?_
      refine cod_ret ?_
      refine ex_block_ret ?_
      refine ex_then_ret ?_
      refine ex_then_ret ?_
      refine ex_block_ret ?_
      refine ex_then_ret ?_
      have ht1 : tells x t = true := by unfold tells; exact hc1
      have hi := tells_first hx hk.2 ht1
      have hg : tellsG ags t = true := tells_some hx ht1
      rw [hg, if_pos rfl, hi]
      exact ex_ret rfl (fun a w ha => res_one rfl rfl ha) (fun _ _ ha' => ⟨rfl, ha.back (ha'.pck pkk)⟩)
    · skip
      refine cod_skip ?_
      refine ex_block_normal ?_
      refine ex_then ?_
      refine cod_region ?_
      refine lst_int rfl rfl rfl (fun w => bin_add w (wrap_i64' _ (by omega) (by have := hok.1; omega))) ?_
      refine lst_move rfl rfl ?_
      refine lst_nil ?_
      have ht0 : tells x t = false := by unfold tells; exact hc1
      refine ex_round (k + 1) ⟨by omega, by rw [List.take_add_one, hx, List.all_append, hk.2]; simp [ht0]⟩ (by (try dsimp only); omega) sbn sbl
  · skip
    refine cod_exit ?_
    refine ex_then_exit ?_
    refine ex_then_exit ?_
    refine ex_block_exit ?_
    refine ex_then ?_
    refine cod_seq ?_
    refine cod_region ?_
    refine lst_assign rfl rfl ?_
    refine lst_nil ?_
    refine ex_then ?_
    refine cod_ret ?_
    have hg : tellsG ags t = false := tells_none (by have := hk.2; rwa [List.take_of_length_le (by omega)] at this)
    rw [hg, if_neg Bool.false_ne_true]
    exact ex_ret rfl (fun a w ha => res_one rfl rfl ha) (fun _ _ ha' => ⟨rfl, ha.back (ha'.pck pkk)⟩)

end Go.Proofs.YtofkhehcnfiopaaDoor.N
namespace Go.Proofs.YtofkhehcnfiopaaDoor.N
open Go Go.RowKit Go.Proofs
set_option linter.unusedSectionVars false
variable [I : Sys]
/-- What a search finds. -/
def FoundO (ags : List Ag) (used n : Nat) (most : Int) (t0 : Tm) (goal : Tm → Bool) : Option Wk → Prop
  | some k => IsFirst (stepT ags used n) ags.length most t0 goal k.how ∧ run (stepT ags used n) t0 k.how = some k.team ∧ goal k.team = true
  | none => NoWord (stepT ags used n) most t0 goal
def wayO (o : Option Wk) : Wk := o.getD ⟨none, 0, [], (0, 0, 0)⟩
def endO (r : Res) (r' : Tm → Res) : Option Wk → Res
  | some k => r' k.team
  | none => r
theorem find_o {C : Ctx} {fr : List (Nat × Value)} {T : List Res} {a : Act} {w : World} (hC : C.P = Tryd.prog) {ags : List Ag} {used n : Nat} {most : Int} {t0 : Tm} {goal : Tm → Bool} {aA : Option Addr} {cg : Nat} {fid : FuncId} {cap : List Value} {r : Res} {r' : Tm → Res} (hok : Oks ags) (hu : used < 256) (hn1 : 1 ≤ n) (hn3 : n ≤ 3) (h0 : Tm.lo t0) (hAg : Res.row 89 5 aA ags.length cg (ags.flatMap Ag.cells) ∈ T) (hent : Enters Tryd.prog fid)
    (hG : ∀ (N : Nat) (fr : List (Nat × Value)) (Y : List Res) (a : Act) (w : World) (t : Tm), Tm.lo t → (∀ x ∈ T, x ∈ Y) → At ⟨Tryd.prog, C.B, C.w0, N, []⟩ fr (r :: Y) a w → Calls Tryd.prog fid ([(.agg [.int .u8 (t.1 : Int), .int .u8 (t.2.1 : Int), .int .u8 (t.2.2 : Int)].toArray : Value)] ++ cap).toArray w (fun e w' => e = .returned (.bool (goal t)) ∧ At ⟨Tryd.prog, C.B, C.w0, N, []⟩ fr ((if goal t = true then r' t else r) :: Y) a w'))
    (ha : At C fr (r :: T) a w) : Calls C.P 77 #[.agg [.slice aA ags.length cg, .int .u8 (used : Int)].toArray, .agg [.int .u8 (t0.1 : Int), .int .u8 (t0.2.1 : Int), .int .u8 (t0.2.2 : Int)].toArray, .int .i64 (n : Int), .int .i64 most, .func (.func fid) ([] : List Value).toArray cap.toArray] w fun e w' =>
      ∃ o : Option Wk, FoundO ags used n most t0 goal o ∧ e = .returned (.tuple #[.slice (wayO o).A (wayO o).how.length (wayO o).c, .bool o.isSome]) ∧ At C fr (.row 3 1 (wayO o).A (wayO o).how.length (wayO o).c (ints (wayO o).how) :: endO r r' o :: T) a w' := by
  rw [hC]
  have h := find_c (most := most) hC hok hu hn1 hn3 h0 hAg hent hG ha
  rw [hC] at h
  refine h.mono ?_
  rintro e w' (⟨k, h1, h2, h3, h4, h5⟩ | ⟨h1, h2, h3⟩)
  · exact ⟨some k, ⟨h1, h2, h3⟩, h4, h5.permed (List.Perm.swap _ _ _)⟩
  · exact ⟨none, h1, h2, h3.add_nil 3 1⟩
end Go.Proofs.YtofkhehcnfiopaaDoor.N
namespace Go.Proofs.YtofkhehcnfiopaaDoor.N
open Go Go.RowKit Go.Proofs
set_option linter.unusedSectionVars false
variable [I : Sys]
def tellsL (ags : List Ag) : Option Wk → List Nat
  | some k => k.how ++ [tellsI ags k.team]
  | none => []
def idxO (ags : List Ag) : Option Wk → Int
  | some k => (tellsI ags k.team : Int)
  | none => -1
theorem endO_tells (ags : List Ag) (b : Nat) (o : Option Wk) : endO (.blk b (.cells [.int .i64 (-1)].toArray 3 (0, 0))) (fun t => .blk b (.cells [.int .i64 (tellsI ags t : Int)].toArray 3 (0, 0))) o = .blk b (.cells [.int .i64 (idxO ags o)].toArray 3 (0, 0)) := by
  cases o <;> rfl
/-- A found way is not too long. -/
theorem found_len {ags : List Ag} {used n : Nat} {most : Int} {t0 : Tm} {goal : Tm → Bool} {k : Wk} (h : FoundO ags used n most t0 goal (some k)) (hm : 0 ≤ most := by decide) : (k.how.length : Int) ≤ most := by
  have := h.1.2.1
  unfold Fits at this
  omega
end Go.Proofs.YtofkhehcnfiopaaDoor.N
namespace Go.Proofs.YtofkhehcnfiopaaDoor.N
open Go Go.RowKit Go.Proofs
set_option linter.unusedSectionVars false
variable [I : Sys]
theorem caught_ret (p : Option Addr) (w : World) : CallsD Tryd.prog 74 #[.pointer p] .returning w fun e u w' => e = .returned (.tuple #[]) ∧ u = .returning ∧ Rl w w' := by
  refine enterS (C := ⟨Tryd.prog, w.heap.size, w, 0, []⟩) (vs := [.pointer p]) (N := 13) [(0, .pointer p)] (At.bare0 _ w) Tryd.func74 rfl Tryd.ntmps74 rfl rfl fun c₀ cs hu => ?_
  refine codS_seq ?_
  refine codS_norec (by simp [recoverD, hu]) rfl ?_
  refine lst_assert (r := .tuple [.int .i64 0, .bool false].toArray) rfl rfl (fun w => by simp [Instr.typeAssert, go_sem]) ?_
  refine lst_move rfl rfl ?_
  refine lst_extract rfl rfl rfl ?_
  refine lst_extract rfl rfl rfl ?_
  refine lst_assign rfl rfl ?_
  refine lst_assign rfl rfl ?_
  refine lst_nil (exS_then (codS_cod ?_))
  refine cod_seq (cod_region ?_)
  refine lst_move rfl rfl (lst_nil (ex_then ?_))
  refine cod_cond_false rfl (cod_skip ?_)
  exact fun a w' ha => ⟨ha.defs, .returning, by rw [← hu], _, res_none (C := ⟨Tryd.prog, _, _, 13, _⟩) rfl ha, rfl, rfl, ha.below⟩
theorem caught_panic {C : Ctx} (hC : C.P = Tryd.prog) {fr0 : List (Nat × Value)} {hp hp' : List Res} {a0 : Act} {w : World} (ha0 : At C fr0 hp a0 w) (b : Nat) (n : Int) (x : Value) (t : TypeId) [hm : InB b (.cells [x].toArray t (0, 0)) hp] [hu : UpB b (.cells [x].toArray t (0, 0)) (.cells [Value.int .i64 n].toArray t (0, 0)) hp hp'] :
    CallsD Tryd.prog 74 #[.pointer (some ⟨b, 0, none⟩)] (.panicking [{ v := .iface 133 (.int .i64 n), recovered := false }]) w
      fun e u w' => e = .returned (.tuple #[]) ∧ u = .panicking [{ v := .iface 133 (.int .i64 n), recovered := true }] ∧ At C fr0 hp' a0 w' := by
  obtain ⟨P, B, w0, N0, ds⟩ := C
  obtain rfl : P = Tryd.prog := hC
  refine enterS (vs := [.pointer (some ⟨b, 0, none⟩)]) (N := 13) [(0, .pointer (some ⟨b, 0, none⟩))] ha0 Tryd.func74 rfl Tryd.ntmps74 rfl rfl fun c₀ cs hu0 => ?_
  refine codS_seq ?_
  refine codS_rec (x := .iface 133 (.int .i64 n)) (cs' := { c₀ with mode := .panicking [{ v := .iface 133 (.int .i64 n), recovered := true }] } :: cs) (by simp [recoverD, hu0]) rfl ?_
  refine lst_assert (r := .tuple [.int .i64 n, .bool true].toArray) rfl rfl (fun w => by simp [Instr.typeAssert, go_sem]) ?_
  refine lst_move rfl rfl ?_
  refine lst_extract rfl rfl rfl ?_
  refine lst_extract rfl rfl rfl ?_
  refine lst_assign rfl rfl ?_
  refine lst_assign rfl rfl ?_
  refine lst_nil (exS_then (codS_cod ?_))
  refine cod_seq (cod_region ?_)
  refine lst_move rfl rfl (lst_nil (ex_then ?_))
  refine cod_cond_true rfl (cod_region ?_)
  refine lst_move rfl rfl ?_
  refine lst_move rfl rfl ?_
  refine lst_nilCheck rfl rfl ?_
  refine lst_store (hp' := hp') rfl rfl (TI.of (P := Tryd.prog) (t := 35) (z := .int .i64 0) (size := 1) (bytes := 8) (by kernel_rfl)) rfl ?_
  exact lst_nil (fun a w' ha => ⟨ha.defs, _, rfl, _, res_none (C := ⟨Tryd.prog, _, _, 13, _⟩) rfl ha, rfl, rfl, ha0.back ha⟩)

/-- The deferred call of 'caught'. -/
def caughtD (b : Nat) : Deferred := { target := .fn (.func 74) #[], args := #[.pointer (some ⟨b, 0, none⟩)] }
theorem caught_enters (b : Nat) : Invokes Tryd.prog (.func 74) #[] #[.pointer (some ⟨b, 0, none⟩)] 74 #[.pointer (some ⟨b, 0, none⟩)] := by
  have h : Enters Tryd.prog 74 := enters_of Tryd.func74 rfl (by kernel_rfl)
  have e : (#[.pointer (some ⟨b, 0, none⟩)] : Array Value) ++ #[] = #[.pointer (some ⟨b, 0, none⟩)] := by simp
  exact invokes_of h e
section
variable {B N : Nat} {w0 : World} {fr : List (Nat × Value)} {hp hp' : List Res} {fn : Func} {R : Ending → World → Prop} {b : Nat}
theorem ex_ret_caught (k : ∀ a w, At ⟨Tryd.prog, B, w0, N, [caughtD b]⟩ fr hp a w → ∃ v, ResV Tryd.prog fn a.tmps v w ∧ R (.returned v) w) :
    Ex ⟨Tryd.prog, B, w0, N, [caughtD b]⟩ (bodyPostD Tryd.prog fn R) .ret fr hp := by
  intro a w ha
  show Leaves Tryd.prog fn a.tmps R a.defers .returning w
  rw [ha.defs]
  refine leaves_cons (by simp) (caught_enters b) ((caught_ret _ w).mono ?_)
  rintro e u w' ⟨rfl, rfl, hr⟩
  obtain ⟨v, h1, h2⟩ := k a w' (ha.rely hr)
  exact ⟨v, h1, h2⟩
theorem ex_panic_caught {n : Int} {x : Value} {t : TypeId} [hm : InB b (.cells [x].toArray t (0, 0)) hp] [hu : UpB b (.cells [x].toArray t (0, 0)) (.cells [Value.int .i64 n].toArray t (0, 0)) hp hp']
    (k : ∀ a w, At ⟨Tryd.prog, B, w0, N, [caughtD b]⟩ fr hp' a w → ∃ v, ResV Tryd.prog fn a.tmps v w ∧ R (.returned v) w) :
    Ex ⟨Tryd.prog, B, w0, N, [caughtD b]⟩ (bodyPostD Tryd.prog fn R) (.panic [{ v := .iface 133 (.int .i64 n), recovered := false }]) fr hp := by
  intro a w ha
  show Leaves Tryd.prog fn a.tmps R a.defers (.panicking [{ v := .iface 133 (.int .i64 n), recovered := false }]) w
  rw [ha.defs]
  refine leaves_cons (by simp) (caught_enters b) ((caught_panic (hp' := hp') rfl ha b n x t).mono ?_)
  rintro e u w' ⟨rfl, rfl, ha'⟩
  obtain ⟨v, h1, h2⟩ := k a _ ha'
  exact ⟨v, h1, h2⟩
theorem res_tc {ds : List Deferred} {a : Act} {w : World} (ha : At ⟨Tryd.prog, B, w0, N, ds⟩ fr hp a w) {t u : Nat} {ty ct : TypeId} {v x : Value} {b : Nat} (h : fn.results = #[.tmp t, .cell u ty]) (hv : look fr t = some v) (hu : look fr u = some (.pointer (some ⟨b, 0, none⟩))) (ht : One Tryd.prog ty)
    [hm : InB b (.cells [x].toArray ct (0, 0)) hp] : ResV Tryd.prog fn a.tmps (.tuple #[v, x]) w := res_tmp_cell (C := ⟨Tryd.prog, B, w0, N, ds⟩) h hv hu ht ha
theorem res_ttc {ds : List Deferred} {a : Act} {w : World} (ha : At ⟨Tryd.prog, B, w0, N, ds⟩ fr hp a w) {t t' u : Nat} {ty ct : TypeId} {v v' x : Value} {b : Nat} (h : fn.results = #[.tmp t, .tmp t', .cell u ty]) (hv : look fr t = some v) (hv' : look fr t' = some v') (hu : look fr u = some (.pointer (some ⟨b, 0, none⟩))) (ht : One Tryd.prog ty)
    [hm : InB b (.cells [x].toArray ct (0, 0)) hp] : ResV Tryd.prog fn a.tmps (.tuple #[v, v', x]) w := res_tmp2_cell (C := ⟨Tryd.prog, B, w0, N, ds⟩) h hv hv' hu ht ha
end
end Go.Proofs.YtofkhehcnfiopaaDoor.N
namespace Go.Proofs.YtofkhehcnfiopaaDoor.N
open Go Go.RowKit Go.Proofs
set_option linter.unusedSectionVars false
variable [I : Sys]
theorem F.ent102 : Enters Tryd.prog 102 := enters_of Tryd.func102 rfl (by kernel_rfl)
theorem F.ent122 : Enters Tryd.prog 122 := enters_of Tryd.func122 rfl (by kernel_rfl)
theorem F.ent75 : Enters Tryd.prog 75 := enters_of Tryd.func75 rfl (by kernel_rfl)
theorem F.ent76 : Enters Tryd.prog 76 := enters_of Tryd.func76 rfl (by kernel_rfl)
theorem F.ent77 : Enters Tryd.prog 77 := enters_of Tryd.func77 rfl (by kernel_rfl)
theorem F.ent84 : Enters Tryd.prog 84 := enters_of Tryd.func84 rfl (by kernel_rfl)
theorem F.one35 : One Tryd.prog 35 := ⟨by unfold aggB; rw [Tryd.underlying35], by rw [Tryd.underlying35]; simp⟩
theorem F.pl79 : Places Tryd.prog 79 [(0, 1), (1, 1), (2, 1)] := .inr ⟨_, _, 1, Tryd.underlying79, by kernel_rfl, rfl⟩
theorem F.ti35 : TI Tryd.prog 35 (.int .i64 0) 1 8 := TI.of (by kernel_rfl)
theorem shortest_c {C : Ctx} {fr : List (Nat × Value)} {T : List Res} {a : Act} {w : World} (hC : C.P = Tryd.prog) {ags : List Ag} {used f p cg : Nat} {aA : Option Addr} (hok : Oks ags) (hu : used < 256) (h0 : Tm.lo (f, 0, 0)) (hp : p < 256) (hAg : Res.row 89 5 aA ags.length cg (ags.flatMap Ag.cells) ∈ T) (ha : At C fr (T) a w) : Calls C.P 102 #[.agg [.slice aA ags.length cg, .int .u8 (used : Int)].toArray, .int .u8 (f : Int), .int .u8 (p : Int)] w fun e w' => ∃ o, FoundO ags used 1 (-1) (f, 0, 0) (fun t => decide (nn t.1 p = 0)) o ∧ e = .returned (.tuple #[.slice (wayO o).A (wayO o).how.length (wayO o).c, .bool o.isSome]) ∧ At C fr (.row 3 1 (wayO o).A (wayO o).how.length (wayO o).c (ints (wayO o).how) :: T) a w' := by
  obtain ⟨P, B, w0, N0, ds⟩ := C
  obtain rfl : P = Tryd.prog := hC
  refine enter_in (N := 15) [(0, .agg [.slice aA ags.length cg, .int .u8 (used : Int)].toArray), (1, .int .u8 (f : Int)), (2, .int .u8 (p : Int))] ha Tryd.func102 rfl Tryd.ntmps102 rfl rfl ?_
  refine cod_seq ?_
  refine cod_region ?_
  refine lst_box rfl rfl ?_
  intro b3
  refine lst_box rfl rfl ?_
  intro b5
  refine lst_assign rfl rfl ?_
  refine lst_assign rfl rfl ?_
  refine lst_nil ?_
  refine ex_then ?_
  refine cod_seq ?_
  refine cod_region ?_
  refine lst_loadN rfl rfl F.agg75 F.ti75 ?_
  refine lst_move rfl rfl ?_
  refine lst_struct (vs := [(0, _)]) (l' := [_, _, _]) rfl rfl F.ti79 F.pl79 (.cons rfl rfl (.nil _)) rfl ?_
  refine lst_makeFunc (fs := []) (cs := [_]) rfl rfl rfl ?_
  refine lst_call (X := Option Wk) (first := []) (cap := []) (vs := [_, _, _, _, _]) (p := FoundO ags (used) 1 (-1) (f, 0, 0) (fun t => decide (nn t.1 p = 0))) (val := fun o => .tuple #[.slice (wayO o).A (wayO o).how.length (wayO o).c, .bool o.isSome]) (rs := fun o => .row 3 1 (wayO o).A (wayO o).how.length (wayO o).c (ints (wayO o).how) :: endO (.blk b5 (.cells [.int .u8 (p : Int)].toArray 77 (0, 0))) ((fun _ => .blk b5 (.cells [.int .u8 (p : Int)].toArray 77 (0, 0)))) o :: .blk b3 (.cells [.slice aA ags.length cg, .int .u8 (used : Int)].toArray 75 (0, 0)) :: T) rfl rfl rfl F.ent77 (fun a w ha => (find_o (r := .blk b5 (.cells [.int .u8 (p : Int)].toArray 77 (0, 0))) (r' := (fun _ => .blk b5 (.cells [.int .u8 (p : Int)].toArray 77 (0, 0)))) (t0 := (f, 0, 0)) (n := 1) (goal := (fun t => decide (nn t.1 p = 0))) (cap := [.pointer (some ⟨b5, 0, none⟩)]) (fid := 122) rfl hok hu (by omega) (by omega) h0 (by simp [hAg]) F.ent122 (fun N fr Y a w t ht hY h => (shortest1_c (bp := b5) rfl ht.ok hp h).mono (fun e w' hh => ⟨hh.1, by rw [ite_self]; exact hh.2⟩)) ha).mono (fun e w' h => by obtain ⟨o, h1, h2, h3⟩ := h; exact ⟨o, h1, h2, h3⟩)) ?_
  intro o hfo
  dsimp only
  refine lst_extract rfl rfl rfl ?_
  refine lst_extract rfl rfl rfl ?_
  refine lst_assign rfl rfl ?_
  refine lst_assign rfl rfl ?_
  refine lst_nil ?_
  refine ex_then ?_
  refine cod_ret ?_
  exact ex_ret rfl (fun a w ha => res_two rfl rfl rfl ha) (fun _ _ ha' => ⟨o, hfo, rfl, ha.back (ha'.pck pkk)⟩)

theorem Shortest_ok (A : Option Addr) (c : Nat) (ags : List Ag) (hok : Oks ags) (f p : Nat) (hf : f < 64) (hp : p < 64) (w : World) (hA : RdL Ag.cells 5 w A ags) : Calls Tryd.prog 53 #[.slice A ags.length c, .int .i64 (f : Int), .int .i64 (p : Int)] w fun e w' => ∃ o, FoundO ags (usedAll ags.length) 1 (-1) (f, 0, 0) (fun t => decide (nn t.1 p = 0)) o ∧ e = .returned (.tuple #[.slice (wayO o).A (wayO o).how.length (wayO o).c, .int .i64 (if o.isSome then 0 else 11)]) ∧ Grew w w' [.row 3 1 (wayO o).A (wayO o).how.length (wayO o).c (ints (wayO o).how)] := by
  have hua : usedAll ags.length < 256 := by have := usedAll_lt hok.1; omega
  refine enter_defers (N := 24) [(0, .slice A ags.length c), (1, .int .i64 (f : Int)), (2, .int .i64 (p : Int))] Tryd.func53 rfl Tryd.ntmps53 rfl rfl ?_
  refine cod_seq ?_
  refine cod_region ?_
  refine lst_assign rfl rfl ?_
  refine lst_alloc rfl F.ti35 ?_
  intro b7
  refine lst_nil ?_
  refine ex_then ?_
  refine cod_seq ?_
  refine cod_region ?_
  refine lst_defer (first := []) (cap := []) (vs := [_]) rfl rfl ?_
  refine lst_nil ?_
  refine ex_then ?_
  refine cod_seq ?_
  refine cod_region ?_
  refine lst_move rfl rfl ?_
  refine lst_fn (X := Option Addr × Nat) (vs := [_]) (p := fun _ => True) (val := fun x => .agg [.slice x.1 ags.length x.2, .int .u8 (usedAll ags.length : Nat)].toArray) (rs := fun x => [.row 89 5 x.1 ags.length x.2 (ags.flatMap Ag.cells)]) rfl rfl F.ent75 (fun a w ha => (begin_ok A c ags hok w (hA.later ha.below)).mono (fun e w' h => by obtain ⟨A', c', h1, h2⟩ := h; exact ⟨(A', c'), trivial, h1, h2⟩)) ?_
  rintro ⟨aA, cg⟩ -
  dsimp only [List.cons_append, List.nil_append]
  refine lst_alloc rfl F.ti75 ?_
  intro b8
  refine lst_store rfl rfl F.ti75 rfl ?_
  refine lst_nil ?_
  refine ex_then ?_
  refine cod_seq ?_
  refine any_begin [] F.follows 11 rfl [false, false, false, false, false, false, false, false, false, false, false] rfl ?_
  refine any_tk 0 rfl rfl rfl (yld_loadN rfl F.agg75 F.ti75) ?_
  refine any_tk 1 rfl rfl rfl (yld_move rfl) ?_
  refine any_tk 3 rfl rfl rfl (yld_move rfl) ?_
  refine any_one 2 (by kernel_rfl) rfl rfl ?_
  refine lst_fn0 (vs := [_]) rfl rfl F.ent76 (fun a w ha => melt_ok f hf w) ?_
  refine lst_nil ?_
  refine any_next sbl ?_
  refine any_one 4 (by kernel_rfl) rfl rfl ?_
  refine lst_fn0 (vs := [_]) rfl rfl F.ent76 (fun a w ha => melt_ok p hp w) ?_
  refine lst_nil ?_
  refine any_next sbl ?_
  refine any_one 5 (by kernel_rfl) rfl rfl ?_
  refine lst_call (X := Option Wk) (first := []) (cap := []) (vs := [_, _, _]) (p := FoundO ags (usedAll ags.length) 1 (-1) (f, 0, 0) (fun t => decide (nn t.1 p = 0))) (val := fun o => .tuple #[.slice (wayO o).A (wayO o).how.length (wayO o).c, .bool o.isSome]) (rs := fun o => .row 3 1 (wayO o).A (wayO o).how.length (wayO o).c (ints (wayO o).how) :: .blk b8 (.cells [.slice aA ags.length cg, .int .u8 (usedAll ags.length : Nat)].toArray 75 (0, 0)) :: .row 89 5 aA ags.length cg (ags.flatMap Ag.cells) :: [.blk b7 (.cells [.int .i64 0].toArray 35 (0, 0))]) rfl rfl rfl F.ent102 (fun a w ha => (shortest_c rfl hok hua ⟨hf, show (0 : Nat) < 64 by omega, show (0 : Nat) < 64 by omega⟩ (by omega) (by simp) ha).mono (fun e w' h => by obtain ⟨o, h1, h2, h3⟩ := h; exact ⟨o, h1, h2, h3⟩)) ?_
  intro o hfo
  dsimp only
  refine lst_nil ?_
  refine any_next sbl ?_
  refine any_tk 6 rfl rfl rfl (yld_move rfl) ?_
  refine any_tk 7 rfl rfl rfl (yld_extract rfl rfl) ?_
  refine any_tk 8 rfl rfl rfl (yld_extract rfl rfl) ?_
  refine any_tk 9 rfl rfl rfl (yld_assign rfl) ?_
  refine any_tk 10 rfl rfl rfl (yld_assign rfl) ?_
  refine any_done rfl (by kernel_rfl) ?_
  refine ex_then ?_
  refine cod_seq ?_
  refine cod_seq ?_
  refine cod_region ?_
  refine lst_move rfl rfl ?_
  refine lst_not rfl rfl ?_
  refine lst_nil ?_
  refine ex_then ?_
  refine cod_cond_bool rfl (fun hc0 => ?_) (fun hc0 => ?_)
  · skip
    have ho : o = none := by cases o with
      | none => rfl
      | some k => cases hc0
    subst ho
    refine cod_seq ?_
    refine cod_region ?_
    refine lst_assign rfl rfl ?_
    refine lst_store rfl rfl F.ti35 rfl ?_
    refine lst_nil ?_
    refine ex_then ?_
    refine cod_ret ?_
    refine ex_then_ret ?_
    exact ex_ret_caught (fun a w ha => ⟨_, res_tc (fn := Tryd.f53) ha rfl rfl rfl F.one35, none, hfo, by simp [wayO], ha.grown sbl⟩)
  · skip
    obtain ⟨k, rfl⟩ : ∃ k, o = some k := by cases o with
      | none => cases hc0
      | some k => exact ⟨k, rfl⟩
    refine cod_skip ?_
    refine ex_then ?_
    refine cod_seq ?_
    refine cod_region ?_
    refine lst_move rfl rfl ?_
    refine lst_assign rfl rfl ?_
    refine lst_store rfl rfl F.ti35 rfl ?_
    refine lst_nil ?_
    refine ex_then ?_
    refine cod_ret ?_
    exact ex_ret_caught (fun a w ha => ⟨_, res_tc (fn := Tryd.f53) ha rfl rfl rfl F.one35, some k, hfo, by simp [wayO], ha.grown sbl⟩)

theorem Tells_ok (A : Option Addr) (c : Nat) (ags : List Ag) (hok : Oks ags) (f g : Nat) (hf : f < 64) (hg : g < 64) (w : World) (hA : RdL Ag.cells 5 w A ags) : Calls Tryd.prog 30 #[.slice A ags.length c, .int .i64 (f : Int), .int .i64 (g : Int)] w fun e w' => ∃ o A c, FoundO ags (usedAll ags.length) 2 4 (f, g, 0) (tellsG ags) o ∧ e = .returned (.tuple #[.slice A (tellsL ags o).length c, .int .i64 (if o.isSome then 0 else 11)]) ∧ Grew w w' [.row 3 1 A (tellsL ags o).length c (ints (tellsL ags o))] := by
  have hua : usedAll ags.length < 256 := by have := usedAll_lt hok.1; omega
  refine enter_defers (N := 32) [(0, .slice A ags.length c), (1, .int .i64 (f : Int)), (2, .int .i64 (g : Int))] Tryd.func30 rfl Tryd.ntmps30 rfl rfl ?_
  refine cod_seq ?_
  refine cod_region ?_
  refine lst_assign rfl rfl ?_
  refine lst_alloc rfl F.ti35 ?_
  intro b7
  refine lst_nil ?_
  refine ex_then ?_
  refine cod_seq ?_
  refine cod_region ?_
  refine lst_defer (first := []) (cap := []) (vs := [_]) rfl rfl ?_
  refine lst_nil ?_
  refine ex_then ?_
  refine cod_seq ?_
  refine cod_region ?_
  refine lst_move rfl rfl ?_
  refine lst_fn (X := Option Addr × Nat) (vs := [_]) (p := fun _ => True) (val := fun x => .agg [.slice x.1 ags.length x.2, .int .u8 (usedAll ags.length : Nat)].toArray) (rs := fun x => [.row 89 5 x.1 ags.length x.2 (ags.flatMap Ag.cells)]) rfl rfl F.ent75 (fun a w ha => (begin_ok A c ags hok w (hA.later ha.below)).mono (fun e w' h => by obtain ⟨A', c', h1, h2⟩ := h; exact ⟨(A', c'), trivial, h1, h2⟩)) ?_
  rintro ⟨aA, cg⟩ -
  dsimp only [List.cons_append, List.nil_append]
  refine lst_alloc rfl F.ti75 ?_
  intro b8
  refine lst_store rfl rfl F.ti75 rfl ?_
  refine lst_nil ?_
  refine ex_then ?_
  refine cod_seq ?_
  refine cod_region ?_
  refine lst_move rfl rfl ?_
  refine lst_fn0 (vs := [_]) rfl rfl F.ent76 (fun a w ha => melt_ok f hf w) ?_
  refine lst_move rfl rfl ?_
  refine lst_fn0 (vs := [_]) rfl rfl F.ent76 (fun a w ha => melt_ok g hg w) ?_
  refine lst_struct (vs := [(0, _), (1, _)]) (l' := [_, _, _]) rfl rfl F.ti79 F.pl79 (.cons rfl rfl (.cons rfl rfl (.nil _))) rfl ?_
  refine lst_alloc rfl F.ti79 ?_
  intro b9
  refine lst_store rfl rfl F.ti79 rfl ?_
  refine lst_nil ?_
  refine ex_then ?_
  refine cod_seq ?_
  refine cod_region ?_
  refine lst_alloc rfl F.ti3 ?_
  intro b10
  refine lst_store rfl rfl F.ti3 rfl ?_
  refine lst_nil ?_
  refine ex_then ?_
  refine cod_seq ?_
  refine cod_region ?_
  refine lst_loadN rfl rfl F.agg75 F.ti75 ?_
  refine lst_loadN rfl rfl F.agg79 F.ti79 ?_
  refine lst_makeFunc (fs := []) (cs := [_, _]) rfl rfl rfl ?_
  refine lst_call (X := Option Wk) (first := []) (cap := []) (vs := [_, _, _, _, _]) (p := FoundO ags (usedAll ags.length) 2 (4) (f, g, 0) (tellsG ags)) (val := fun o => .tuple #[.slice (wayO o).A (wayO o).how.length (wayO o).c, .bool o.isSome]) (rs := fun o => .row 3 1 (wayO o).A (wayO o).how.length (wayO o).c (ints (wayO o).how) :: .blk b10 (.cells [.int .i64 (idxO ags o)].toArray 3 (0, 0)) :: .blk b9 (.cells [.int .u8 (f : Int), .int .u8 (g : Int), .int .u8 0].toArray 79 (0, 0)) :: .blk b8 (.cells [.slice aA ags.length cg, .int .u8 (usedAll ags.length : Nat)].toArray 75 (0, 0)) :: .row 89 5 aA ags.length cg (ags.flatMap Ag.cells) :: [.blk b7 (.cells [.int .i64 0].toArray 35 (0, 0))]) rfl rfl rfl F.ent77 (fun a w ha => (find_o (r := .blk b10 (.cells [.int .i64 (-1)].toArray 3 (0, 0))) (r' := (fun t => .blk b10 (.cells [.int .i64 (tellsI ags t : Int)].toArray 3 (0, 0)))) (t0 := (f, g, 0)) (n := 2) (goal := (tellsG ags)) (cap := [.pointer (some ⟨b8, 0, none⟩), .pointer (some ⟨b10, 0, none⟩)]) (fid := 84) rfl hok hua (by omega) (by omega) ⟨hf, hg, show (0 : Nat) < 64 by omega⟩ (by simp) F.ent84 (fun N fr Y a w t ht hY h => tells1_c (bc := b8) (bi := b10) (aA := aA) (cg := cg) (used := usedAll ags.length) rfl hok ht.ok (hY _ (by simp)) (hY _ (by simp)) h) ha).mono (fun e w' h => by obtain ⟨o, h1, h2, h3⟩ := h; rw [endO_tells] at h3; exact ⟨o, h1, h2, h3⟩)) ?_
  intro o hfo
  dsimp only
  refine lst_move rfl rfl ?_
  refine lst_extract rfl rfl rfl ?_
  refine lst_extract rfl rfl rfl ?_
  refine lst_assign rfl rfl ?_
  refine lst_assign rfl rfl ?_
  refine lst_nil ?_
  refine ex_then ?_
  refine cod_seq ?_
  refine cod_seq ?_
  refine cod_region ?_
  refine lst_move rfl rfl ?_
  refine lst_not rfl rfl ?_
  refine lst_nil ?_
  refine ex_then ?_
  refine cod_cond_bool rfl (fun hc0 => ?_) (fun hc0 => ?_)
  · skip
    have ho : o = none := by cases o with
      | none => rfl
      | some k => cases hc0
    subst ho
    refine cod_seq ?_
    refine cod_region ?_
    refine lst_assign rfl rfl ?_
    refine lst_store rfl rfl F.ti35 rfl ?_
    refine lst_nil ?_
    refine ex_then ?_
    refine cod_ret ?_
    refine ex_then_ret ?_
    exact ex_ret_caught (fun a w ha => ⟨_, res_tc (fn := Tryd.f30) ha rfl rfl rfl F.one35, none, none, 0, hfo, by simp [tellsL], ha.grown sbl⟩)
  · skip
    obtain ⟨k, rfl⟩ : ∃ k, o = some k := by cases o with
      | none => cases hc0
      | some k => exact ⟨k, rfl⟩
    refine cod_skip ?_
    refine ex_then ?_
    refine cod_seq ?_
    refine cod_region ?_
    refine lst_move rfl rfl ?_
    refine lst_load rfl rfl F.one3 ?_
    refine lst_lit (vs := [(0, _)]) rfl rfl Tryd.underlying25 F.ti3 rfl rfl rfl ?_
    intro b30
    refine lst_append rfl rfl rfl Tryd.underlying25 F.ti3 rfl rfl rfl (by show k.how.length + 1 ≤ maxLen; unfold maxLen; have := found_len hfo; omega) (by show (k.how.length + 1) * 8 ≤ _; have := found_len hfo; omega) ?_
    intro An cn
    refine lst_assign rfl rfl ?_
    refine lst_store rfl rfl F.ti35 rfl ?_
    refine lst_nil ?_
    refine ex_then ?_
    refine cod_ret ?_
    exact ex_ret_caught (fun a w ha => ⟨_, res_tc (fn := Tryd.f30) ha rfl rfl rfl F.one35, some k, An, cn, hfo, by simp [tellsL, wayO], by have h := ha.grown (rs := [.row 3 1 An (k.how.length + 1) cn (ints k.how ++ [.int .i64 (tellsI ags k.team : Int)])]) sbl; simp only [tellsL, List.length_append, List.length_singleton, ints_snoc]; exact h⟩)

end Go.Proofs.YtofkhehcnfiopaaDoor.N
namespace Go.Proofs.YtofkhehcnfiopaaDoor.N
open Go Go.RowKit Go.Proofs
set_option linter.unusedSectionVars false
variable [I : Sys]
/-- The team of some melts. -/
def teamOf (ms : List Nat) : Nat → Tm
  | 0 => (0, 0, 0)
  | k + 1 => tput (teamOf ms k) k (ms.getD k 0)
theorem teamOf_lo {ms : List Nat} (h : ∀ m ∈ ms, m < 64) : ∀ k, Tm.lo (teamOf ms k)
  | 0 => ⟨show (0 : Nat) < 64 by omega, show (0 : Nat) < 64 by omega, show (0 : Nat) < 64 by omega⟩
  | k + 1 => tput_lo (teamOf_lo h k) k (by
    rw [List.getD_eq_getElem?_getD]
    cases hk : ms[k]? with
    | none => simp
    | some m => exact h m (List.mem_of_getElem? hk))
/-- The melt that takes longest, and how long, of the first ones. -/
def farL (os : Nat → Option Wk) : Nat → Nat × Nat
  | 0 => (0, 0)
  | k + 1 => if ((os k).isSome && decide (((wayO (os k)).how.length : Int) > ((farL os k).2 : Int))) = true then (k, (wayO (os k)).how.length) else farL os k
def upd (os : Nat → Option Wk) (k : Nat) (o : Option Wk) : Nat → Option Wk := fun f => if f = k then o else os f
theorem farL_congr {os os' : Nat → Option Wk} : ∀ k, (∀ f, f < k → os f = os' f) → farL os k = farL os' k
  | 0, _ => rfl
  | k + 1, h => by
    unfold farL
    rw [farL_congr k (fun f hf => h f (by omega)), h k (by omega)]
theorem farL_upd (os : Nat → Option Wk) (k : Nat) (o : Option Wk) : farL (upd os k o) k = farL os k :=
  farL_congr k (fun f hf => if_neg (by omega))
theorem upd_at (os : Nat → Option Wk) (k : Nat) (o : Option Wk) : upd os k o k = o := if_pos rfl
theorem farL_yes (os : Nat → Option Wk) (k : Nat) (o : Option Wk) (h : (o.isSome && decide (((wayO o).how.length : Int) > ((farL os k).2 : Int))) = true) : farL (upd os k o) (k + 1) = (k, (wayO o).how.length) := by
  unfold farL
  rw [farL_upd, upd_at, if_pos h]
theorem farL_no (os : Nat → Option Wk) (k : Nat) (o : Option Wk) (h : (o.isSome && decide (((wayO o).how.length : Int) > ((farL os k).2 : Int))) = false) : farL (upd os k o) (k + 1) = farL os k := by
  show (if _ then _ else farL (upd os k o) k) = _
  rw [farL_upd, upd_at, if_neg (by rw [h]; simp)]
theorem far_found {P : Nat → Option Wk → Prop} {os : Nat → Option Wk} {k : Nat} {o : Option Wk} (h : ∀ f, f < k → P f (os f)) (ho : P k o) : ∀ f, f < k + 1 → P f (upd os k o f) := by
  intro f hf
  unfold upd
  split
  · rename_i e; subst e; exact ho
  · exact h f (by omega)
end Go.Proofs.YtofkhehcnfiopaaDoor.N
