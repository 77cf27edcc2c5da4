/- Parts of the walks of the laws on fining, those that FiningWays needs: WayP, CnP, IsoP, WayQ, F65, F66, F67. -/
import Derived.Test.YtofkhehcnfiopaaDoorSFiningWays08
import Derived.Test.YtofkhehcnfiopaaDoorSFiningWays07
import Derived.Test.YtofkhehcnfiopaaDoorProg
import Derived.Test.YtofkhehcnfiopaaDoorSFiningWays06
namespace Go.Proofs.YtofkhehcnfiopaaDoor.N
open Go Go.RowKit Go.Proofs
set_option linter.unusedSectionVars false
variable [I : Sys] [R : Rea]
/-! What the reference's rounds and its choices come to: melts that are reached, the first shortest way, the first cheapest way. -/
section
variable {ags : List Ag} {f : Nat}
def Cls (ags : List Ag) (B : List Bool) : Prop := ∀ y j, B.getD y false = true → j ∈ canTo ags (usedAll ags.length) y ags.length → B.getD (putN (ags.getD j default) y) false = true
structure MtI (ags : List Ag) (f r m i : Nat) (B : List Bool) : Prop where
  len : B.length = 64
  base : B.getD f false = true
  snd : ∀ g, B.getD g false = true → Rch ags (usedAll ags.length) f g
  ent : r + 1 ≤ B.countP id ∨ Cls ags B
  prg : r + 2 ≤ B.countP id ∨ ∀ y j, (y < m ∨ (y = m ∧ j < i)) → B.getD y false = true → j ∈ canTo ags (usedAll ags.length) y ags.length → B.getD (putN (ags.getD j default) y) false = true
theorem getB_set {B : List Bool} {k g : Nat} {x : Bool} (hk : k < B.length) : (B.set k x).getD g false = if k = g then x else B.getD g false := by
  rw [List.getD_eq_getElem?_getD, List.getElem?_set, List.getD_eq_getElem?_getD]
  by_cases e : k = g
  · subst e
    rw [if_pos rfl, if_pos rfl, if_pos hk]; rfl
  · rw [if_neg e, if_neg e]
theorem set_same {B : List Bool} {k : Nat} (hk : k < B.length) (h : B.getD k false = true) : B.set k true = B := by
  apply List.ext_getElem?
  intro g
  rw [List.getElem?_set]
  by_cases e : k = g
  · subst e
    rw [if_pos rfl, if_pos hk]
    rw [List.getD_eq_getElem?_getD, List.getElem?_eq_getElem hk] at h
    rw [List.getElem?_eq_getElem hk]
    exact congrArg some h.symm
  · rw [if_neg e]
theorem cnt_set : ∀ {B : List Bool} {k : Nat}, k < B.length → B.getD k false = false → (B.set k true).countP id = B.countP id + 1
  | [], k, h, _ => absurd h (Nat.not_lt_zero _)
  | b :: B, 0, _, h => by
    obtain rfl : b = false := h
    simp
  | b :: B, k + 1, h, h2 => by
    have ih := cnt_set (B := B) (k := k) (Nat.lt_of_succ_lt_succ h) h2
    rw [List.set_cons_succ, List.countP_cons, List.countP_cons, ih]
    omega
theorem MtI.start (hf : f < 64) : MtI ags f 0 0 0 ((List.replicate 64 false).set f true) where
  len := by simp
  base := by rw [getB_set (by simpa using hf), if_pos rfl]
  snd g h := by
    rw [getB_set (by simpa using hf)] at h
    by_cases e : f = g
    · subst e; exact .base
    · rw [if_neg e, List.getD_eq_getElem?_getD, List.getElem?_replicate] at h
      split at h <;> cases h
  ent := .inl (by
    rw [cnt_set (by simpa using hf) (by rw [List.getD_eq_getElem?_getD, List.getElem?_replicate, if_pos hf]; rfl)]
    omega)
  prg := .inr fun y j h => by omega
theorem MtI.skip {r m i : Nat} {B : List Bool} (h : MtI ags f r m i B) (hi : B.getD m false = true → i ∉ canTo ags (usedAll ags.length) m ags.length) : MtI ags f r m (i + 1) B :=
  { h with
    prg := h.prg.imp_right fun hp y j hj hy hc => by
      rcases hj with h1 | ⟨rfl, h1⟩
      · exact hp y j (.inl h1) hy hc
      · rcases Nat.lt_succ_iff_lt_or_eq.1 h1 with h2 | rfl
        · exact hp y j (.inr ⟨rfl, h2⟩) hy hc
        · exact absurd hc (hi hy) }
theorem MtI.put {r m i : Nat} {B : List Bool} (h : MtI ags f r m i B) (hm : B.getD m false = true) (hi : i ∈ canTo ags (usedAll ags.length) m ags.length) (hg : putN (ags.getD i default) m < 64) :
    MtI ags f r m (i + 1) (B.set (putN (ags.getD i default) m) true) := by
  have hgl : putN (ags.getD i default) m < B.length := by rw [h.len]; exact hg
  cases hb : B.getD (putN (ags.getD i default) m) false with
  | true =>
    rw [set_same hgl hb]
    exact { h with
      prg := h.prg.imp_right fun hp y j hj hy hc => by
        rcases hj with h1 | ⟨rfl, h1⟩
        · exact hp y j (.inl h1) hy hc
        · rcases Nat.lt_succ_iff_lt_or_eq.1 h1 with h2 | rfl
          · exact hp y j (.inr ⟨rfl, h2⟩) hy hc
          · exact hb }
  | false =>
    have hcn := cnt_set hgl hb
    have he : r + 1 ≤ B.countP id := h.ent.resolve_right fun hc => by
      have := hc m i hm hi
      rw [hb] at this
      cases this
    refine ⟨by rw [List.length_set]; exact h.len, ?_, fun g hgt => ?_, .inl (by omega), .inl (by omega)⟩
    · rw [getB_set hgl]
      split
      · rfl
      · exact h.base
    · rw [getB_set hgl] at hgt
      by_cases e : putN (ags.getD i default) m = g
      · subst e
        exact (h.snd m hm).step hi
      · rw [if_neg e] at hgt
        exact h.snd g hgt
theorem MtI.next {r m : Nat} {B : List Bool} (h : MtI ags f r m ags.length B) : MtI ags f r (m + 1) 0 B :=
  { h with
    prg := h.prg.imp_right fun hp y j hj hy hc => by
      have hjl := (can_mem.1 hc).1
      rcases hj with h1 | ⟨_, h1⟩
      · rcases Nat.lt_succ_iff_lt_or_eq.1 h1 with h2 | rfl
        · exact hp y j (.inl h2) hy hc
        · exact hp y j (.inr ⟨rfl, hjl⟩) hy hc
      · exact absurd h1 (Nat.not_lt_zero _) }
theorem MtI.round {r : Nat} {B : List Bool} (h : MtI ags f r 64 0 B) : MtI ags f (r + 1) 0 0 B :=
  { h with
    ent := h.prg.imp_right fun hp y j hy hc => hp y j (.inl (by
      rcases Nat.lt_or_ge y 64 with h1 | h1
      · exact h1
      · rw [List.getD_eq_getElem?_getD, List.getElem?_eq_none (by rw [h.len]; exact h1)] at hy
        cases hy)) hy hc
    prg := .inr fun y j h => by omega }
theorem MtI.fin {B : List Bool} (h : MtI ags f 64 0 0 B) {g : Nat} : B.getD g false = true ↔ Rch ags (usedAll ags.length) f g := by
  have hc : Cls ags B := h.ent.resolve_left fun hn => by
    have := List.countP_le_length (p := id) (l := B)
    rw [h.len] at this
    omega
  refine ⟨h.snd g, fun hr => ?_⟩
  induction hr with
  | base => exact h.base
  | step hr hi ih => exact hc _ _ ih hi
end
/-! Bytes of truth in a row. -/
def bools (l : List Bool) : List Value := l.map .bool
theorem bools_get {l : List Bool} {t : Nat} {b : Bool} (h : l[t]? = some b) : (bools l)[t * 1]? = some (.bool b) := by
  unfold bools
  rw [Nat.mul_one, List.getElem?_map, h]; rfl
theorem bools_len (l : List Bool) : (bools l).length = l.length := by simp [bools]
/-! The words' codes. -/
theorem code_cons (n : Nat) (i : Nat) : ∀ (k : Nat) (v : List Nat), v.length = k → code n (i :: v) = (i + 1) * n ^ k + code n v
  | 0, v, h => by
    obtain rfl := List.length_eq_zero_iff.1 h
    simp [code]
  | k + 1, v, h => by
    obtain ⟨u, x, rfl⟩ : ∃ u x, v = u ++ [x] := ⟨v.dropLast, v.getLast (by intro e; subst e; simp at h), (List.dropLast_concat_getLast _).symm⟩
    have hu : u.length = k := by simpa using h
    have ih := code_cons n i k u hu
    rw [show i :: (u ++ [x]) = (i :: u) ++ [x] from rfl, code_snoc, code_snoc, ih, Nat.pow_succ, Nat.add_mul, Nat.mul_assoc]
    omega
theorem code_near (n : Nat) : ∀ (k : Nat) (v u : List Nat), v.length = k → u.length = k → Wd n v → code n v < code n u + n ^ k
  | 0, v, u, h, h', _ => by
    obtain rfl := List.length_eq_zero_iff.1 h
    obtain rfl := List.length_eq_zero_iff.1 h'
    simp
  | k + 1, a :: v, b :: u, h, h', hv => by
    have h1 : v.length = k := by simpa using h
    have h2 : u.length = k := by simpa using h'
    rw [code_cons n a k v h1, code_cons n b k u h2]
    have ih := code_near n k v u h1 h2 (fun i hi => hv i (List.mem_cons_of_mem _ hi))
    have ha : a + 1 ≤ n := hv a (List.mem_cons_self ..)
    have h3 : (a + 1) * n ^ k ≤ n * n ^ k := Nat.mul_le_mul_right _ ha
    have h4 : n ^ k ≤ (b + 1) * n ^ k := Nat.le_mul_of_pos_left _ (Nat.succ_pos _)
    rw [Nat.pow_succ, Nat.mul_comm (n ^ k) n]
    omega
theorem code_head {n k i j : Nat} {v u : List Nat} (hv : v.length = k) (hu : u.length = k) (hw : Wd n v) (h : i < j) : code n (i :: v) < code n (j :: u) := by
  rw [code_cons n i k v hv, code_cons n j k u hu]
  have h1 := code_near n k v u hv hu hw
  have h2 : (i + 1) * n ^ k + n ^ k ≤ (j + 1) * n ^ k := by
    rw [← Nat.succ_mul]
    exact Nat.mul_le_mul_right _ (by omega)
  omega
/-- The way that is chosen: at each melt the first agent with which it is as short as it can be. -/
inductive Sn (ags : List Ag) (L : List Nat) : Nat → List Nat → Prop
  | done {f : Nat} (h : L.getD f 0 = 0) : Sn ags L f []
  | step {f i : Nat} {W : List Nat} (hi : i ∈ canTo ags (usedAll ags.length) f ags.length) (he : L.getD (putN (ags.getD i default) f) 0 + 1 = L.getD f 0)
      (hm : ∀ j ∈ canTo ags (usedAll ags.length) f ags.length, j < i → L.getD (putN (ags.getD j default) f) 0 + 1 ≠ L.getD f 0) (hW : Sn ags L (putN (ags.getD i default) f) W) : Sn ags L f (i :: W)
section
variable {ags : List Ag} {p f : Nat} {L W : List Nat}
theorem Sn.len (h : Sn ags L f W) : W.length = L.getD f 0 := by
  induction h with
  | done h => exact h.symm
  | step _ he _ _ ih => rw [List.length_cons, ih]; exact he
theorem Sn.wd (h : Sn ags L f W) : Wd ags.length W := by
  induction h with
  | done _ => exact fun i hi => by cases hi
  | step hi _ _ _ ih =>
    intro x hx
    rcases List.mem_cons.1 hx with rfl | hx
    · exact (can_mem.1 hi).1
    · exact ih x hx
theorem Dst.zero_of (hD : Dst ags (usedAll ags.length) p L) (hf : f < 64) (h : L.getD f 0 = 0) : nn f p = 0 := by
  obtain ⟨_, ⟨c, hw⟩, _⟩ := hD.way f hf (by rw [h]; decide)
  rw [h] at hw
  cases hw with
  | done h => exact h
theorem Dst.near (hD : Dst ags (usedAll ags.length) p L) (hf : f < 64) {i : Nat} (hi : i ∈ canTo ags (usedAll ags.length) f ags.length) (hg : putN (ags.getD i default) f < 64) (hn : L.getD (putN (ags.getD i default) f) 0 ≠ farN) : L.getD f 0 ≤ L.getD (putN (ags.getD i default) f) 0 + 1 := by
  obtain ⟨_, ⟨c, hw⟩, _⟩ := hD.way _ hg hn
  have hc : L.getD f 0 ≠ farN := fun e => (hD.far f hf).1 e ⟨_, _, .step hi hw⟩
  exact (hD.way f hf hc).2.2 _ _ (.step hi hw)
theorem Dst.next (hok : Oks ags) (hD : Dst ags (usedAll ags.length) p L) (hf : f < 64) (hn : L.getD f 0 ≠ farN) (h0 : 0 < L.getD f 0) : ∃ i ∈ canTo ags (usedAll ags.length) f ags.length, L.getD (putN (ags.getD i default) f) 0 + 1 = L.getD f 0 := by
  obtain ⟨_, ⟨c, hw⟩, _⟩ := hD.way f hf hn
  obtain ⟨k, hk⟩ : ∃ k, L.getD f 0 = k + 1 := ⟨L.getD f 0 - 1, by omega⟩
  rw [hk] at hw
  cases hw with
  | @step _ i c k hi hw =>
    have hg : putN (ags.getD i default) f < 64 := putN_lt (agd_ok hok (can_mem.1 hi).1) hf
    have hgn : L.getD (putN (ags.getD i default) f) 0 ≠ farN := fun e => (hD.far _ hg).1 e ⟨_, _, hw⟩
    have h1 := (hD.way _ hg hgn).2.2 _ _ hw
    have h2 := hD.near hf hi hg hgn
    exact ⟨i, hi, by omega⟩
theorem Sn.first (hok : Oks ags) (hD : Dst ags (usedAll ags.length) p L) (hf : f < 64) (h : Sn ags L f W) (hn : L.getD f 0 ≠ farN) :
    (∃ t, run (stepT ags (usedAll ags.length) 1) (f, 0, 0) W = some t ∧ decide (nn t.1 p = 0) = true) ∧ ∀ u t, run (stepT ags (usedAll ags.length) 1) (f, 0, 0) u = some t → decide (nn t.1 p = 0) = true → code ags.length W ≤ code ags.length u := by
  induction h with
  | @done f h => exact ⟨⟨(f, 0, 0), rfl, decide_eq_true (hD.zero_of hf h)⟩, fun u t _ _ => Nat.zero_le _⟩
  | @step f i W hi he hm hW ih =>
    have hg : putN (ags.getD i default) f < 64 := putN_lt (agd_ok hok (can_mem.1 hi).1) hf
    have hgn : L.getD (putN (ags.getD i default) f) 0 ≠ farN := by
      have := (hD.way f hf hn).1
      unfold farN
      omega
    obtain ⟨⟨t, h1, h2⟩, h3⟩ := ih hg hgn
    refine ⟨⟨t, ?_, h2⟩, fun u t2 hr hgo => ?_⟩
    · show (stepT ags (usedAll ags.length) 1 (f, 0, 0) i).bind (fun t => run (stepT ags (usedAll ags.length) 1) t W) = _
      rw [step_one, if_pos hi]
      exact h1
    · have hu := run_wd _ stepT_none u _ t2 hr
      have hlu : L.getD f 0 ≤ u.length := by
        obtain ⟨c, hw⟩ := run_wy u f 0 0 t2 hr (of_decide_eq_true hgo)
        exact (hD.way f hf hn).2.2 _ _ hw
      have hlw := hW.len
      rcases Nat.lt_or_ge (L.getD f 0) u.length with hl | hl
      · exact Nat.le_of_lt (code_lt_of_len ags.length u.length u _ rfl (by rw [List.length_cons]; omega) (Sn.wd (.step hi he hm hW)))
      · match u, hr, hlu, hl with
        | [], _, hlu, _ => rw [List.length_nil] at hlu; omega
        | j :: u, hr, hlu, hl =>
          have hul : u.length = W.length := by rw [List.length_cons] at hlu hl; omega
          have hr' : (stepT ags (usedAll ags.length) 1 (f, 0, 0) j).bind (fun t => run (stepT ags (usedAll ags.length) 1) t u) = some t2 := hr
          rw [step_one] at hr'
          by_cases hj : j ∈ canTo ags (usedAll ags.length) f ags.length
          · rw [if_pos hj] at hr'
            have hr2 : run (stepT ags (usedAll ags.length) 1) (putN (ags.getD j default) f, 0, 0) u = some t2 := hr'
            rcases Nat.lt_trichotomy i j with h4 | rfl | h4
            · exact Nat.le_of_lt (code_head rfl hul hW.wd h4)
            · have := h3 u t2 hr2 hgo
              rw [code_cons _ i _ W rfl, code_cons _ i _ u rfl, hul]
              omega
            · exfalso
              have hgj : putN (ags.getD j default) f < 64 := putN_lt (agd_ok hok (can_mem.1 hj).1) hf
              obtain ⟨c, hw⟩ := run_wy u _ 0 0 t2 hr2 (of_decide_eq_true hgo)
              have hjn : L.getD (putN (ags.getD j default) f) 0 ≠ farN := fun e => (hD.far _ hgj).1 e ⟨_, _, hw⟩
              have h5 := (hD.way _ hgj hjn).2.2 _ _ hw
              have h6 := hD.near hf hj hgj hjn
              exact hm j hj h4 (by omega)
          · rw [if_neg hj] at hr'
            cases hr'
end
/-- What is said of the shortest way. -/
structure ShQ (ags : List Ag) (p f : Nat) (W : List Nat) (E : Nat) : Prop where
  yes : E = 0 → W.length ≤ 63 ∧ IsFirst (stepT ags (usedAll ags.length) 1) ags.length (-1) (f, 0, 0) (fun t => decide (nn t.1 p = 0)) W
  no : E ≠ 0 → E = 11 ∧ W = [] ∧ ¬ Clr ags (usedAll ags.length) p f
theorem ShQ.uniq {ags : List Ag} {p f : Nat} {W W' : List Nat} {E E' : Nat} (h : ShQ ags p f W E) (h' : ShQ ags p f W' E') : W = W' ∧ E = E' := by
  have clr : ∀ {W : List Nat}, IsFirst (stepT ags (usedAll ags.length) 1) ags.length (-1) (f, 0, 0) (fun t => decide (nn t.1 p = 0)) W → Clr ags (usedAll ags.length) p f := fun h => by
    obtain ⟨⟨t, h1, h2⟩, _⟩ := h
    obtain ⟨c, hw⟩ := run_wy _ _ 0 0 t h1 (of_decide_eq_true h2)
    exact ⟨c, _, hw⟩
  by_cases e : E = 0
  · by_cases e' : E' = 0
    · exact ⟨IsFirst.unique (stepT ags (usedAll ags.length) 1) stepT_none (h.yes e).2 (h'.yes e').2, by omega⟩
    · exact absurd (clr (h.yes e).2) (h'.no e').2.2
  · by_cases e' : E' = 0
    · exact absurd (clr (h'.yes e').2) (h.no e).2.2
    · obtain ⟨h1, h2, _⟩ := h.no e
      obtain ⟨h3, h4, _⟩ := h'.no e'
      exact ⟨by rw [h2, h4], by omega⟩
theorem Sn.shq {ags : List Ag} {p f : Nat} {L W : List Nat} (hok : Oks ags) (hD : Dst ags (usedAll ags.length) p L) (hf : f < 64) (h : Sn ags L f W) (hn : L.getD f 0 ≠ farN) : ShQ ags p f W 0 := by
  refine ⟨fun _ => ⟨by rw [h.len]; exact (hD.way f hf hn).1, ?_⟩, fun h => absurd rfl h⟩
  obtain ⟨h1, h2⟩ := h.first hok hD hf hn
  exact ⟨h1, .inl (by decide), fun u t hr hg _ => h2 u t hr hg⟩
theorem found_shq {ags : List Ag} {p f : Nat} {o : Option Wk} (hok : Oks ags) (hf : f < 64) (h : FoundO ags (usedAll ags.length) 1 (-1) (f, 0, 0) (fun t => decide (nn t.1 p = 0)) o) : ShQ ags p f (wayO o).how (if o.isSome then 0 else 11) := by
  cases o with
  | some k => exact ⟨fun _ => ⟨sho_63 hok hf h, h.1⟩, fun e => absurd rfl e⟩
  | none =>
    refine ⟨fun e => absurd e (by decide), fun _ => ⟨rfl, rfl, fun hc => ?_⟩⟩
    obtain ⟨c, k, hw⟩ := hc
    obtain ⟨v, t, h1, h2, _⟩ := wy_run hw 0 0
    have : decide (nn t.1 p = 0) = false := h v t h1 (.inl (by decide))
    exact absurd h2 (of_decide_eq_false this)
open Classical in
noncomputable def shoA (ags : List Ag) (p f : Nat) : List Nat × Nat := if h : ∃ y : List Nat × Nat, y.1.length ≤ 63 ∧ ShQ ags p f y.1 y.2 then h.choose else ([], 0)
theorem shoA_is {ags : List Ag} {p f : Nat} {W : List Nat} {E : Nat} (hl : W.length ≤ 63) (h : ShQ ags p f W E) : shoA ags p f = (W, E) := by
  have hx : ∃ y : List Nat × Nat, y.1.length ≤ 63 ∧ ShQ ags p f y.1 y.2 := ⟨(W, E), hl, h⟩
  unfold shoA
  rw [dif_pos hx]
  obtain ⟨e1, e2⟩ := hx.choose_spec.2.uniq h
  exact Prod.ext e1 e2
theorem shoA_le (ags : List Ag) (p f : Nat) : (shoA ags p f).1.length ≤ 63 := by
  unfold shoA
  split
  · rename_i h
    exact h.choose_spec.1
  · exact Nat.zero_le _
theorem ShQ.le {ags : List Ag} {p f : Nat} {W : List Nat} {E : Nat} (h : ShQ ags p f W E) : W.length ≤ 63 := by
  by_cases e : E = 0
  · exact (h.yes e).1
  · rw [(h.no e).2.1]; exact Nat.zero_le _
end Go.Proofs.YtofkhehcnfiopaaDoor.N
namespace Go.Proofs.YtofkhehcnfiopaaDoor.N
open Go Go.RowKit Go.Proofs
set_option linter.unusedSectionVars false
variable [I : Sys]
/-! The way that is chosen, whoever chooses it: at each melt the first agent with which it costs as little as it can. -/
inductive Cn (ags : List Ag) (used p : Nat) : Nat → List Nat → Prop
  | done {f : Nat} (h : Opt ags used p f 0 0) : Cn ags used p f []
  | step {f i c k : Nat} {W : List Nat} (hi : i ∈ canTo ags used f ags.length) (ho : Opt ags used p (putN (ags.getD i default) f) c k) (hf : Opt ags used p f (c + (ags.getD i default).cost) (k + 1))
      (hm : ∀ j ∈ canTo ags used f ags.length, j < i → ∀ c' k', Opt ags used p (putN (ags.getD j default) f) c' k' → ¬ (c' + (ags.getD j default).cost = c + (ags.getD i default).cost ∧ k' = k)) (hW : Cn ags used p (putN (ags.getD i default) f) W) : Cn ags used p f (i :: W)
section
variable {ags : List Ag} {used p : Nat}
theorem Cn.uniq {f : Nat} {W W' : List Nat} (h : Cn ags used p f W) (h' : Cn ags used p f W') : W = W' := by
  induction h generalizing W' with
  | done h =>
    cases h' with
    | done _ => rfl
    | step _ _ hf _ _ => have := (h.uniq hf).2; omega
  | @step f i c k W hi ho hf hm hW ih =>
    cases h' with
    | done h => have := (h.uniq hf).2; omega
    | @step _ i2 c2 k2 W2 hi2 ho2 hf2 hm2 hW2 =>
      obtain ⟨e1, e2⟩ := hf.uniq hf2
      rcases Nat.lt_trichotomy i i2 with h | h | h
      · exact absurd ⟨e1, by omega⟩ (hm2 i hi h c k ho)
      · subst h
        rw [ih hW2]
      · exact absurd ⟨e1.symm, by omega⟩ (hm i2 hi2 h c2 k2 ho2)
theorem canTo_sorted (f n : Nat) : (canTo ags used f n).Pairwise (· < ·) := List.Pairwise.sublist List.filter_sublist List.pairwise_lt_range
theorem find_least {l : List Nat} {q : Nat → Bool} {i : Nat} (hs : l.Pairwise (· < ·)) (h : l.find? q = some i) : i ∈ l ∧ q i = true ∧ ∀ j ∈ l, j < i → q j = false := by
  obtain ⟨h1, xs, ys, rfl, h2⟩ := List.find?_eq_some_iff_append.1 h
  refine ⟨by simp, h1, fun j hj hji => ?_⟩
  rcases List.mem_append.1 hj with h3 | h3
  · simpa using h2 j h3
  · rw [List.pairwise_append] at hs
    have h4 := hs.2.1
    rw [List.pairwise_cons] at h4
    rcases List.mem_cons.1 h3 with h5 | h5
    · omega
    · have := h4.1 j h5
      omega
theorem way_cn (hok : Oks ags) {j : Nat} (hfix : (roundP ags used (iterP ags used p j) 64).2 = false) : ∀ (k f : Nat), f < 64 →
    ((iterP ags used p j).getD f default).known = true → ((iterP ags used p j).getD f default).puts = k → Cn ags used p f (wayP ags used (iterP ags used p j) k f)
  | 0, f, hf, hk, hp => by
    have ho := fix_opt hok hfix hf hk
    rw [hp] at ho
    unfold wayP
    refine .done ?_
    have hw := ho.1
    generalize ((iterP ags used p j).getD f default).cost = c at ho hw
    cases hw with
    | done _ => exact ho
  | k + 1, f, hf, hk, hp => by
    have ho := fix_opt hok hfix hf hk
    obtain ⟨i0, c0, hi0, hc0, hg0, hog0⟩ := (by rw [hp] at ho; exact ho : Opt ags used p f _ (k + 1)).next hok hf
    have eqn : ∀ i c' k', i ∈ canTo ags used f ags.length → Opt ags used p (putN (ags.getD i default) f) c' k' → (afterP (iterP ags used p j) (ags.getD i default) f = (iterP ags used p j).getD f default ↔ c' + (ags.getD i default).cost = ((iterP ags used p j).getD f default).cost ∧ k' = k) := by
      intro i c' k' hi hoi
      have hg : putN (ags.getD i default) f < 64 := by
        have := (canTo_mem hi).1
        exact putN_lt (agd_ok hok this) hf
      have hkg := fix_known hok hfix hg hoi.1
      obtain ⟨e1, e2⟩ := (fix_opt hok hfix hg hkg).uniq hoi
      unfold afterP
      cases hx : (iterP ags used p j).getD f default with
      | mk a b d =>
        rw [hx] at hk hp
        simp only at hk hp
        subst hk hp
        rw [e1, e2, hkg]
        simp only [Pr.mk.injEq, and_true]
        omega
    have hfnd : ∃ i, (canTo ags used f ags.length).find? (fun i => decide (afterP (iterP ags used p j) (ags.getD i default) f = (iterP ags used p j).getD f default)) = some i := by
      cases hx : (canTo ags used f ags.length).find? (fun i => decide (afterP (iterP ags used p j) (ags.getD i default) f = (iterP ags used p j).getD f default)) with
      | some i => exact ⟨i, rfl⟩
      | none =>
        have := List.find?_eq_none.1 hx i0 hi0
        exact absurd (decide_eq_true ((eqn i0 c0 k hi0 hog0).2 ⟨hc0.symm, rfl⟩)) this
    obtain ⟨i, hx⟩ := hfnd
    obtain ⟨hi, hq, hmin⟩ := find_least (canTo_sorted f ags.length) hx
    have hq' := of_decide_eq_true hq
    have hil := (canTo_mem hi).1
    have hg : putN (ags.getD i default) f < 64 := putN_lt (agd_ok hok hil) hf
    have hkg : ((iterP ags used p j).getD (putN (ags.getD i default) f) default).known = true := (after_next hq' hk).1
    have hog := fix_opt hok hfix hg hkg
    obtain ⟨e1, e2⟩ := (eqn i _ _ hi hog).1 hq'
    unfold wayP
    rw [hx]
    refine .step hi hog (by rw [e1, e2, ← hp]; exact ho) (fun j' hj' hji c' k' hoj => ?_) (way_cn hok hfix k _ hg hkg e2)
    rintro ⟨h1, h2⟩
    have := of_decide_eq_false (hmin j' hj' hji)
    exact this ((eqn j' c' k' hj' hoj).2 ⟨h1.trans e1, h2.trans e2⟩)
/-- What Cheapest says, the way among it. -/
structure ChC (ags : List Ag) (used p f : Nat) (W : List Nat) (c E : Nat) : Prop where
  yes : E = 0 → Cn ags used p f W ∧ ∃ k, Opt ags used p f c k
  no : E ≠ 0 → E = 11 ∧ c = 0 ∧ W = [] ∧ ¬ Clr ags used p f
theorem cheap_cn (hok : Oks ags) {j f : Nat} (hf : f < 64) (hfix : (roundP ags used (iterP ags used p j) 64).2 = false) :
    ChC ags used p f (cheapW ags used (iterP ags used p j) f) (cheapC (iterP ags used p j) f) (cheapE (iterP ags used p j) f) := by
  unfold cheapW cheapC cheapE
  by_cases hk : ((iterP ags used p j).getD f default).known = true
  · rw [if_pos hk, if_pos hk, if_pos hk]
    exact ⟨fun _ => ⟨way_cn hok hfix _ f hf hk rfl, _, fix_opt hok hfix hf hk⟩, fun h => absurd rfl h⟩
  · rw [if_neg hk, if_neg hk, if_neg hk]
    exact ⟨fun h => absurd h (by decide), fun _ => ⟨rfl, rfl, rfl, fun ⟨c, k, hw⟩ => hk (fix_known hok hfix hf hw)⟩⟩
theorem ChC.uniq {f c c' E E' : Nat} {W W' : List Nat} (h : ChC ags used p f W c E) (h' : ChC ags used p f W' c' E') : W = W' ∧ c = c' ∧ E = E' := by
  by_cases e : E = 0
  · obtain ⟨h1, k, h2⟩ := h.yes e
    by_cases e' : E' = 0
    · obtain ⟨h3, k', h4⟩ := h'.yes e'
      exact ⟨h1.uniq h3, (h2.uniq h4).1, by omega⟩
    · exact absurd ⟨c, k, h2.1⟩ (h'.no e').2.2.2
  · obtain ⟨h1, h2, h3, h4⟩ := h.no e
    by_cases e' : E' = 0
    · obtain ⟨_, k', h4'⟩ := h'.yes e'
      exact absurd ⟨c', k', h4'.1⟩ h4
    · obtain ⟨h5, h6, h7, _⟩ := h'.no e'
      exact ⟨by rw [h3, h7], by omega, by omega⟩
end
theorem Cheapest_c (A : Option Addr) (c : Nat) (ags : List Ag) (hok : Oks ags) (f p : Nat) (hf : f < 64) (hp : p < 64) (w : World) (hA : RdL Ag.cells 5 w A ags) : Calls Tryd.prog 35 #[.slice A ags.length c, .int .i64 (f : Int), .int .i64 (p : Int)] w fun e w' => ∃ (W : List Nat) (k E : Nat) (A' : Option Addr) (c' : Nat),
    ChC ags (usedAll ags.length) p f W k E ∧ e = .returned (.tuple #[.slice A' W.length c', .int .i64 (k : Int), .int .i64 (E : Int)]) ∧ Grew w w' [.row 3 1 A' W.length c' (ints W)] := by
  obtain ⟨N, h64, hN⟩ := fix_all (ags := ags) (used := usedAll ags.length) (p := p) hok
  refine (Cheapest_ok A c ags hok f p N hf hp h64 hN w hA).mono fun e w' h => ?_
  obtain ⟨j, ps, A', c', _, rfl, hfx, h1, h2⟩ := h
  exact ⟨_, _, _, A', c', cheap_cn hok hf hfx, h1, h2⟩
end Go.Proofs.YtofkhehcnfiopaaDoor.N
namespace Go.Proofs.YtofkhehcnfiopaaDoor.N
open Go Go.RowKit Go.Proofs
set_option linter.unusedSectionVars false
variable [I : Sys] [R : Rea]
/-! Faults under other numbers. -/
section
end
/-! Two searches of which the one finds what the other does. -/
theorem Cn.length {ags : List Ag} {used p f : Nat} {W : List Nat} (h : Cn ags used p f W) : ∃ c, Opt ags used p f c W.length := by
  induction h with
  | done h => exact ⟨0, h⟩
  | step _ ho hf _ _ ih =>
    obtain ⟨c', h'⟩ := ih
    obtain ⟨_, e2⟩ := ho.uniq h'
    exact ⟨_, by rw [List.length_cons, ← e2]; exact hf⟩
theorem ChC.len {ags : List Ag} {used p f c E : Nat} {W : List Nat} (hok : Oks ags) (hf : f < 64) (h : ChC ags used p f W c E) : W.length ≤ 63 := by
  by_cases e : E = 0
  · obtain ⟨c', h'⟩ := (h.yes e).1.length
    exact h'.short hok hf
  · rw [(h.no e).2.2.1]
    exact Nat.zero_le _
end Go.Proofs.YtofkhehcnfiopaaDoor.N
namespace Go.Proofs.YtofkhehcnfiopaaDoor.N
open Go Go.RowKit Go.Proofs
set_option linter.unusedSectionVars false
variable [I : Sys] [R : Rea]
/-! The reference's prices. -/
def pcell (x : Nat × Nat) : List Value := [.int .i64 (x.1 : Int), .int .i64 (x.2 : Int)]
theorem pcell_len (x : Nat × Nat) : (pcell x).length = 2 := rfl
def lowB (a b : Nat × Nat) : Bool := decide (a.1 < b.1) || (decide (a.1 = b.1) && decide (a.2 < b.2))
theorem lowB_yes {a b : Nat × Nat} : lowB a b = true ↔ a.1 < b.1 ∨ a.1 = b.1 ∧ a.2 < b.2 := by simp [lowB]
theorem lowB_no {a b : Nat × Nat} (h : lowB a b = false) : lexle b.1 b.2 a.1 a.2 := by
  have : ¬ (a.1 < b.1 ∨ a.1 = b.1 ∧ a.2 < b.2) := fun hx => by rw [lowB_yes.2 hx] at h; cases h
  unfold lexle
  omega
theorem splice_flat {α : Type} {cells : α → List Value} {size : Nat} (hs : ∀ x, (cells x).length = size) {l : List α} {o : Nat} (ho : o < l.length) (x : α) : Splice (l.flatMap cells) (0 + o * size) (cells x) ((l.set o x).flatMap cells) := by
  have hlen := flatMap_len hs l
  have h4 : (o + 1) * size ≤ l.length * size := Nat.mul_le_mul_right _ ho
  refine ⟨?_, by rw [hlen, hs]; rw [Nat.succ_mul] at h4; omega⟩
  rw [Nat.zero_add]
  have h : ∀ (l : List α) (o : Nat), o < l.length → (l.set o x).flatMap cells = (l.flatMap cells).take (o * size) ++ cells x ++ (l.flatMap cells).drop (o * size + (cells x).length) := by
    intro l
    induction l with
    | nil => intro o h; cases h
    | cons y l ih =>
      intro o h
      cases o with
      | zero =>
        rw [List.set_cons_zero, List.flatMap_cons, List.flatMap_cons, Nat.zero_mul, List.take_zero, List.nil_append, Nat.zero_add, hs, ← hs y, List.drop_left]
      | succ o =>
        have := ih o (by simpa using h)
        rw [List.set_cons_succ, List.flatMap_cons, List.flatMap_cons, this]
        have e1 : (o + 1) * size = (cells y).length + o * size := by rw [hs, Nat.succ_mul, Nat.add_comm]
        rw [e1, List.take_length_add_append, Nat.add_assoc, List.drop_length_add_append, List.append_assoc, List.append_assoc, List.append_assoc]
  exact h l o ho
section
variable {ags : List Ag} {p f : Nat}
theorem Wy.cost_le (hok : Oks ags) {used c k : Nat} (h : Wy ags used p f c k) : c ≤ 9 * k ∧ k ≤ c := by
  induction h with
  | done _ => exact ⟨Nat.le_refl _, Nat.le_refl _⟩
  | @step f i c k hi _ ih =>
    have := (agd_ok hok (can_mem.1 hi).1).cost
    omega
structure PrI (ags : List Ag) (p r m i : Nat) (ps : List (Nat × Nat)) : Prop where
  len : ps.length = 64
  le : ∀ f, f < 64 → (ps.getD f (0, 0)).1 < farN ∨ ps.getD f (0, 0) = (farN, 0)
  snd : ∀ f, f < 64 → (ps.getD f (0, 0)).1 < farN → Wy ags (usedAll ags.length) p f (ps.getD f (0, 0)).1 (ps.getD f (0, 0)).2
  cmp : ∀ f, f < 64 → ∀ c k, Wy ags (usedAll ags.length) p f c k → c < farN → (k ≤ r ∨ (k ≤ r + 1 ∧ f < m)) → lexle (ps.getD f (0, 0)).1 (ps.getD f (0, 0)).2 c k
  cur : ∀ j, j < i → j ∈ canTo ags (usedAll ags.length) m ags.length → ∀ c k, Wy ags (usedAll ags.length) p (putN (ags.getD j default) m) c k → c + (ags.getD j default).cost < farN → k ≤ r → lexle (ps.getD m (0, 0)).1 (ps.getD m (0, 0)).2 (c + (ags.getD j default).cost) (k + 1)
def initQ (p k : Nat) : List (Nat × Nat) := (List.range 64).map fun f => if f < k ∧ nn f p ≠ 0 then (farN, 0) else (0, 0)
theorem initQ_zero (p : Nat) : initQ p 0 = List.replicate 64 (0, 0) := by
  unfold initQ
  simp only [Nat.not_lt_zero, false_and, if_false]
  rfl
theorem initQ_len (p k : Nat) : (initQ p k).length = 64 := by simp [initQ]
theorem initQ_far {p k : Nat} (hk : k < 64) (h : ¬ nn k p = 0) : (initQ p k).set k (farN, 0) = initQ p (k + 1) := by
  apply List.ext_getElem?
  intro f
  rw [List.getElem?_set]
  by_cases hf : f < 64
  · by_cases e : k = f
    · subst e
      simp [initQ, hk, h]
    · have e2 : (f < k + 1) = (f < k) := propext (by omega)
      simp only [if_neg e]
      simp [initQ, hf, e2]
  · have e : k ≠ f := by omega
    simp [initQ, hf, e]
theorem initQ_same {p k : Nat} (hk : k < 64) (h : nn k p = 0) : initQ p k = initQ p (k + 1) := by
  apply List.ext_getElem?
  intro f
  by_cases hf : f < 64
  · by_cases e : k = f
    · subst e
      simp [initQ, hk, h]
    · have e2 : (f < k + 1) = (f < k) := propext (by omega)
      simp [initQ, hf, e2]
  · simp [initQ, hf]
theorem getQ_set {L : List (Nat × Nat)} {f g : Nat} {x : Nat × Nat} (hf : f < L.length) : (L.set f x).getD g (0, 0) = if f = g then x else L.getD g (0, 0) := by
  rw [List.getD_eq_getElem?_getD, List.getElem?_set, List.getD_eq_getElem?_getD]
  by_cases e : f = g
  · subst e
    rw [if_pos rfl, if_pos rfl, if_pos hf]; rfl
  · rw [if_neg e, if_neg e]
theorem initQ_getD {p f : Nat} (hf : f < 64) : (initQ p 64).getD f (0, 0) = if nn f p = 0 then (0, 0) else (farN, 0) := by
  by_cases h : nn f p = 0 <;> simp [initQ, List.getD_eq_getElem?_getD, hf, h]
theorem PrI.start : PrI ags p 0 0 0 (initQ p 64) where
  len := initQ_len p 64
  le f hf := by
    rw [initQ_getD hf]
    split
    · exact .inl (by decide)
    · exact .inr rfl
  snd f hf h := by
    rw [initQ_getD hf] at h ⊢
    by_cases h0 : nn f p = 0
    · rw [if_pos h0]; exact .done h0
    · rw [if_neg h0] at h; exact absurd h (Nat.lt_irrefl _)
  cmp f hf c k h _ hk := by
    have hk0 : k = 0 := by omega
    subst hk0
    rw [initQ_getD hf]
    cases h with
    | done h0 => rw [if_pos h0]; exact lexle.refl _ _
  cur j hj := absurd hj (Nat.not_lt_zero _)
theorem PrI.skip {r m i : Nat} {ps : List (Nat × Nat)} (h : PrI ags p r m i ps) (hi : i ∈ canTo ags (usedAll ags.length) m ags.length → ∀ c k, Wy ags (usedAll ags.length) p (putN (ags.getD i default) m) c k → c + (ags.getD i default).cost < farN → k ≤ r → lexle (ps.getD m (0, 0)).1 (ps.getD m (0, 0)).2 (c + (ags.getD i default).cost) (k + 1)) : PrI ags p r m (i + 1) ps :=
  { h with
    cur := fun j hj hc => by
      rcases Nat.lt_succ_iff_lt_or_eq.1 hj with h1 | rfl
      · exact h.cur j h1 hc
      · exact hi hc }
theorem PrI.bar {r m i : Nat} {ps : List (Nat × Nat)} (h : PrI ags p r m i ps) (hi : i ∉ canTo ags (usedAll ags.length) m ags.length) : PrI ags p r m (i + 1) ps := h.skip fun hc => absurd hc hi
theorem PrI.far {r m i : Nat} {ps : List (Nat × Nat)} (h : PrI ags p r m i ps) (hg : putN (ags.getD i default) m < 64) (hf : farN ≤ (ps.getD (putN (ags.getD i default) m) (0, 0)).1) : PrI ags p r m (i + 1) ps :=
  h.skip fun hc c k hw hl hk => by
    have := h.cmp _ hg c k hw (by omega) (.inl hk)
    unfold lexle at this
    omega
theorem PrI.keep {r m i : Nat} {ps : List (Nat × Nat)} (h : PrI ags p r m i ps) (hg : putN (ags.getD i default) m < 64)
    (hb : lowB ((ps.getD (putN (ags.getD i default) m) (0, 0)).1 + (ags.getD i default).cost, (ps.getD (putN (ags.getD i default) m) (0, 0)).2 + 1) (ps.getD m (0, 0)) = false) : PrI ags p r m (i + 1) ps :=
  h.skip fun hc c k hw hl hk => (lowB_no hb).trans ((h.cmp _ hg c k hw (by omega) (.inl hk)).add _)
theorem PrI.put {r m i : Nat} {ps : List (Nat × Nat)} (h : PrI ags p r m i ps) (hm : m < 64) (hi : i ∈ canTo ags (usedAll ags.length) m ags.length) (hg : putN (ags.getD i default) m < 64)
    (hn : (ps.getD (putN (ags.getD i default) m) (0, 0)).1 < farN)
    (hb : lowB ((ps.getD (putN (ags.getD i default) m) (0, 0)).1 + (ags.getD i default).cost, (ps.getD (putN (ags.getD i default) m) (0, 0)).2 + 1) (ps.getD m (0, 0)) = true) :
    PrI ags p r m (i + 1) (ps.set m ((ps.getD (putN (ags.getD i default) m) (0, 0)).1 + (ags.getD i default).cost, (ps.getD (putN (ags.getD i default) m) (0, 0)).2 + 1)) := by
  generalize hq : ((ps.getD (putN (ags.getD i default) m) (0, 0)).1 + (ags.getD i default).cost, (ps.getD (putN (ags.getD i default) m) (0, 0)).2 + 1) = q at hb ⊢
  have hb' := lowB_yes.1 hb
  have hml : m < ps.length := by rw [h.len]; exact hm
  have hq1 : q.1 = (ps.getD (putN (ags.getD i default) m) (0, 0)).1 + (ags.getD i default).cost := by rw [← hq]
  have hq2 : q.2 = (ps.getD (putN (ags.getD i default) m) (0, 0)).2 + 1 := by rw [← hq]
  have hqf : q.1 < farN := by
    rcases h.le m hm with h1 | h1
    · omega
    · rw [h1] at hb'
      dsimp only at hb'
      omega
  have dec : ∀ f, lexle ((ps.set m q).getD f (0, 0)).1 ((ps.set m q).getD f (0, 0)).2 (ps.getD f (0, 0)).1 (ps.getD f (0, 0)).2 := fun f => by
    rw [getQ_set hml]
    by_cases e : m = f
    · subst e; rw [if_pos rfl]; unfold lexle; omega
    · rw [if_neg e]; exact lexle.refl _ _
  refine ⟨by rw [List.length_set]; exact h.len, fun f hf => ?_, fun f hf hlt => ?_, fun f hf c k hw hl hk => (dec f).trans (h.cmp f hf c k hw hl hk), fun j hj hc c k hw hl hk => ?_⟩
  · rw [getQ_set hml]
    by_cases e : m = f
    · rw [if_pos e]; exact .inl hqf
    · rw [if_neg e]; exact h.le f hf
  · rw [getQ_set hml] at hlt ⊢
    by_cases e : m = f
    · subst e
      rw [if_pos rfl, hq1, hq2]
      exact .step hi (h.snd _ hg hn)
    · rw [if_neg e] at hlt ⊢
      exact h.snd f hf hlt
  · rcases Nat.lt_succ_iff_lt_or_eq.1 hj with h1 | rfl
    · exact (dec m).trans (h.cur j h1 hc c k hw hl hk)
    · rw [getQ_set hml, if_pos rfl, hq1, hq2]
      exact (h.cmp _ hg c k hw (by omega) (.inl hk)).add _
theorem PrI.next {r m : Nat} {ps : List (Nat × Nat)} (h : PrI ags p r m ags.length ps) : PrI ags p r (m + 1) 0 ps :=
  { h with
    cmp := fun f hf c k hw hl hk => by
      by_cases h0 : k ≤ r ∨ (k ≤ r + 1 ∧ f < m)
      · exact h.cmp f hf c k hw hl h0
      · have hfm : f = m := by omega
        subst hfm
        cases hw with
        | done h1 => exact h.cmp f hf 0 0 (.done h1) (by decide) (.inl (Nat.zero_le _))
        | step hi hw' => exact h.cur _ (can_mem.1 hi).1 hi _ _ hw' hl (by omega)
    cur := fun j hj => absurd hj (Nat.not_lt_zero _) }
theorem PrI.round {r : Nat} {ps : List (Nat × Nat)} (h : PrI ags p r 64 0 ps) : PrI ags p (r + 1) 0 0 ps :=
  { h with
    cmp := fun f hf c k hw hl hk => h.cmp f hf c k hw hl (by omega)
    cur := fun j hj => absurd hj (Nat.not_lt_zero _) }
structure PrS (ags : List Ag) (p : Nat) (ps : List (Nat × Nat)) : Prop where
  len : ps.length = 64
  far : ∀ f, f < 64 → (farN ≤ (ps.getD f (0, 0)).1 ↔ ¬ Clr ags (usedAll ags.length) p f)
  opt : ∀ f, f < 64 → (ps.getD f (0, 0)).1 < farN → Opt ags (usedAll ags.length) p f (ps.getD f (0, 0)).1 (ps.getD f (0, 0)).2
  top : ∀ f, f < 64 → (ps.getD f (0, 0)).1 ≤ farN ∧ (ps.getD f (0, 0)).2 ≤ 63
theorem PrI.fin (hok : Oks ags) {ps : List (Nat × Nat)} (h : PrI ags p 64 0 0 ps) : PrS ags p ps := by
  have key : ∀ f, f < 64 → Clr ags (usedAll ags.length) p f → (ps.getD f (0, 0)).1 < farN ∧ Opt ags (usedAll ags.length) p f (ps.getD f (0, 0)).1 (ps.getD f (0, 0)).2 := fun f hf ⟨c, k, hw⟩ => by
    obtain ⟨c', k', ho⟩ := Opt.ex hw
    have h63 := Opt.short hok hf ho
    have hc := (Wy.cost_le hok ho.1).1
    have h1 := h.cmp f hf _ _ ho.1 (by unfold farN; omega) (.inl (by omega))
    have hlt : (ps.getD f (0, 0)).1 < farN := by unfold lexle at h1; unfold farN; omega
    have h2 := ho.2 _ _ (h.snd f hf hlt)
    obtain ⟨e1, e2⟩ := h1.anti h2
    exact ⟨hlt, by rw [e1, e2]; exact ho⟩
  have opt_ : ∀ f, f < 64 → (ps.getD f (0, 0)).1 < farN → Opt ags (usedAll ags.length) p f (ps.getD f (0, 0)).1 (ps.getD f (0, 0)).2 := fun f hf hlt => (key f hf ⟨_, _, h.snd f hf hlt⟩).2
  refine ⟨h.len, fun f hf => ⟨fun hl hc => absurd (key f hf hc).1 (by omega), fun hc => ?_⟩, opt_, fun f hf => ?_⟩
  · rcases Nat.lt_or_ge (ps.getD f (0, 0)).1 farN with h1 | h1
    · exact absurd ⟨_, _, h.snd f hf h1⟩ hc
    · exact h1
  · rcases h.le f hf with h1 | h1
    · exact ⟨Nat.le_of_lt h1, (opt_ f hf h1).short hok hf⟩
    · rw [h1]; exact ⟨Nat.le_refl _, Nat.zero_le _⟩
theorem PrI.top (hok : Oks ags) {r m i : Nat} {ps : List (Nat × Nat)} (h : PrI ags p r m i ps) {f : Nat} (hf : f < 64) : (ps.getD f (0, 0)).1 ≤ farN ∧ (ps.getD f (0, 0)).2 ≤ farN := by
  rcases h.le f hf with h1 | h1
  · have := (Wy.cost_le hok (h.snd f hf h1)).2
    omega
  · rw [h1]; exact ⟨Nat.le_refl _, Nat.zero_le _⟩
/-- The choice that is made at a melt. -/
def Pick (ags : List Ag) (ps : List (Nat × Nat)) (m j : Nat) : Prop :=
  j ∈ canTo ags (usedAll ags.length) m ags.length ∧ (ps.getD (putN (ags.getD j default) m) (0, 0)).1 + (ags.getD j default).cost = (ps.getD m (0, 0)).1 ∧ (ps.getD (putN (ags.getD j default) m) (0, 0)).2 + 1 = (ps.getD m (0, 0)).2
theorem PrS.near {ps : List (Nat × Nat)} (h : PrS ags p ps) {g c k : Nat} (hg : g < 64) (ho : Opt ags (usedAll ags.length) p g c k) : (ps.getD g (0, 0)).1 < farN ∧ (ps.getD g (0, 0)).1 = c ∧ (ps.getD g (0, 0)).2 = k := by
  have hlt : (ps.getD g (0, 0)).1 < farN := by
    rcases Nat.lt_or_ge (ps.getD g (0, 0)).1 farN with h1 | h1
    · exact h1
    · exact absurd ⟨_, _, ho.1⟩ ((h.far g hg).1 h1)
  exact ⟨hlt, (h.opt g hg hlt).uniq ho⟩
theorem PrS.cn (hok : Oks ags) {ps : List (Nat × Nat)} (h : PrS ags p ps) {m i : Nat} {W : List Nat} (hm : m < 64) (hn : (ps.getD m (0, 0)).1 < farN) (hi : Pick ags ps m i) (hj : ∀ j, j < i → ¬ Pick ags ps m j)
    (hW : Cn ags (usedAll ags.length) p (putN (ags.getD i default) m) W) : Cn ags (usedAll ags.length) p m (i :: W) := by
  obtain ⟨h1, h2, h3⟩ := hi
  have hg : putN (ags.getD i default) m < 64 := putN_lt (agd_ok hok (can_mem.1 h1).1) hm
  have ho := h.opt _ hg (by omega)
  refine .step h1 ho (by rw [h2, h3]; exact h.opt m hm hn) (fun j hjc hji c' k' hoj => ?_) hW
  rintro ⟨e1, e2⟩
  have hgj : putN (ags.getD j default) m < 64 := putN_lt (agd_ok hok (can_mem.1 hjc).1) hm
  obtain ⟨_, e3, e4⟩ := h.near hgj hoj
  exact hj j hji ⟨hjc, by omega, by omega⟩
theorem PrS.done {ps : List (Nat × Nat)} (h : PrS ags p ps) {m : Nat} (hm : m < 64) (hn : (ps.getD m (0, 0)).1 < farN) (h0 : (ps.getD m (0, 0)).2 = 0) : Cn ags (usedAll ags.length) p m [] := by
  have ho := h.opt m hm hn
  rw [h0] at ho
  have hw := ho.1
  generalize (ps.getD m (0, 0)).1 = c at ho hw
  cases hw with
  | done _ => exact .done ho
theorem PrS.next (hok : Oks ags) {ps : List (Nat × Nat)} (h : PrS ags p ps) {m : Nat} (hm : m < 64) (hn : (ps.getD m (0, 0)).1 < farN) (h0 : 0 < (ps.getD m (0, 0)).2) : ∃ i, i < ags.length ∧ Pick ags ps m i := by
  have ho := h.opt m hm hn
  obtain ⟨k, hk⟩ : ∃ k, (ps.getD m (0, 0)).2 = k + 1 := ⟨(ps.getD m (0, 0)).2 - 1, by omega⟩
  rw [hk] at ho
  obtain ⟨i, c, hi, hc, hg, hog⟩ := ho.next hok hm
  obtain ⟨_, e3, e4⟩ := h.near hg hog
  exact ⟨i, (can_mem.1 hi).1, hi, by omega, by omega⟩
theorem Pick.dec {ps : List (Nat × Nat)} {m j : Nat} (hj : j < ags.length) : Pick ags ps m j ↔ mayN (ags.getD j default) m = true ∧ (ps.getD (putN (ags.getD j default) m) (0, 0)).1 + (ags.getD j default).cost = (ps.getD m (0, 0)).1 ∧ (ps.getD (putN (ags.getD j default) m) (0, 0)).2 + 1 = (ps.getD m (0, 0)).2 := by
  unfold Pick
  rw [can_all]
  exact ⟨fun h => ⟨h.1.2, h.2⟩, fun h => ⟨⟨hj, h.1⟩, h.2⟩⟩
end
open Classical in
noncomputable def cheA (ags : List Ag) (p f : Nat) : List Nat × Nat × Nat := if h : ∃ y : List Nat × Nat × Nat, y.1.length ≤ 63 ∧ ChC ags (usedAll ags.length) p f y.1 y.2.1 y.2.2 then h.choose else ([], 0, 0)
theorem cheA_is {ags : List Ag} {p f : Nat} {W : List Nat} {c E : Nat} (hl : W.length ≤ 63) (h : ChC ags (usedAll ags.length) p f W c E) : cheA ags p f = (W, c, E) := by
  have hx : ∃ y : List Nat × Nat × Nat, y.1.length ≤ 63 ∧ ChC ags (usedAll ags.length) p f y.1 y.2.1 y.2.2 := ⟨(W, c, E), hl, h⟩
  unfold cheA
  rw [dif_pos hx]
  obtain ⟨e1, e2, e3⟩ := hx.choose_spec.2.uniq h
  exact Prod.ext e1 (Prod.ext e2 e3)
theorem cheA_le (ags : List Ag) (p f : Nat) : (cheA ags p f).1.length ≤ 63 := by
  unfold cheA
  split
  · rename_i h
    exact h.choose_spec.1
  · exact Nat.zero_le _
/-! Slices that are made. -/
section
variable {C : Ctx} {fr : List (Nat × Value)} {hp : List Res} {a : Act} {w : World} {ops : Array Oper} {Q : Exit → Act → World → Prop} {rest : List Oper}
  {d : Nat} {ty : TypeId} {pos : String} {after : Array Edge}
theorem lst_make_z {t e : TypeId} {x y : Operand} {n size bytes : Nat} {z : Value} {zs : List Value} (hm : madeCells z.cells (n * size) = zs.toArray) (hd : Nat.blt d C.N = true) (hx : ev fr x = some (.int .i64 (n : Int))) (hy : ev fr y = some (.int .i64 (n : Int))) (ht : C.P.underlying t = some (.slice e)) (hz : TI C.P e z size bytes) (hn : n ≤ 1000) (hs : size ≤ 100) (hb : bytes ≤ 1000)
    (k : ∀ b, Lst C ops Q rest ((d, .slice (some ⟨b, 0, none⟩) n n) :: fr) (.row e size (some ⟨b, 0, none⟩) n n zs :: hp)) : Lst C ops Q (⟨some d, .makeSlice t x y, ty, pos, after, none⟩ :: rest) fr hp := by
  refine lst_of rfl fun a w ha => ?_
  obtain ⟨i, hi, hz0, hsz, hbz⟩ := hz
  refine ⟨tame_makeSlice .., ?_⟩
  have h1 : n * size ≤ 1000 * 100 := Nat.mul_le_mul hn hs
  have h2 : bytes * n ≤ 1000 * 1000 := Nat.mul_le_mul hb hn
  have hlen : zs.length = n * size := by
    have := size_madeCells z.cells (n * size)
    rw [hm, List.size_toArray] at this
    exact this
  have hmk : (Instr.makeSlice t (.int .i64 (n : Int)) (.int .i64 (n : Int))).run C.P w = .ok (.slice (some ⟨w.heap.size, 0, none⟩) n n) (w.alloc (.cells zs.toArray e)) := by
    have h := run_makeSlice (P := C.P) w t e i z ht hi hz0 .i64 .i64 (n : Int) (n : Int) (by omega) (Int.le_refl _) (by rw [hsz, Int.toNat_natCast]; omega) (by rw [hbz, ← Int.natCast_mul]; omega) (by omega)
    simp only [Int.toNat_natCast, hsz] at h
    rw [h, hm]
  have hr : (execOp a.eval ⟨some d, .makeSlice t x y, ty, pos, after, none⟩).run C.P w = .ok (.value (.slice (some ⟨w.heap.size, 0, none⟩) n n)) (w.alloc (.cells zs.toArray e)) := by
    simp only [execOp, ha.eval hx, ha.eval hy, Sem.run_bind, hmk, Result.andThen_ok, Sem.run_pure]
  rw [hr]
  refine k w.heap.size _ _ (At.put ?_ (lt_of_blt hd) _)
  have h1 := ha.alloc (.cells zs.toArray e)
  refine ⟨h1.size, h1.defs, h1.slots, h1.below, h1.base, fun r hr => ?_, ?_⟩
  · rcases List.mem_cons.1 hr with rfl | hr
    · have h2 := h1.own _ (List.mem_cons_self ..)
      exact ⟨hlen, .inr ⟨_, n, _, rfl, h2.1, h2.2, Nat.le_refl _, by unfold maxLen; omega, by rw [List.size_toArray, hlen], List.take_of_length_le (by show zs.length ≤ n * size; omega)⟩⟩
    · exact h1.own r (List.mem_cons_of_mem _ hr)
  · exact h1.apart
end
theorem made_bools : madeCells (Value.bool false).cells (64 * 1) = (bools (List.replicate 64 false)).toArray := by kernel_rfl
theorem made_prices : madeCells (Value.agg #[.int .i64 0, .int .i64 0]).cells (64 * 2) = ((List.replicate 64 (0, 0)).flatMap pcell).toArray := by kernel_rfl
theorem splice_bools {l : List Bool} {o : Nat} {y : Bool} (ho : o < l.length) : Splice (bools l) o [.bool y] (bools (l.set o y)) := ⟨by
  unfold bools
  rw [List.map_set, List.set_eq_take_append_cons_drop, if_pos (by rw [List.length_map]; exact ho), List.append_assoc]; rfl, by rw [bools_len]; exact ho⟩
end Go.Proofs.YtofkhehcnfiopaaDoor.N
namespace Go.Proofs.YtofkhehcnfiopaaDoor.N
open Go Go.RowKit Go.Proofs
set_option linter.unusedSectionVars false
variable [I : Sys] [R : Rea]
theorem F.ent106 : Enters Tryd.prog 106 := enters_of Tryd.func106 rfl (by kernel_rfl)
theorem rMet_c (A : Option Addr) (c : Nat) (ags : List Ag) (hok : Oks ags) (f : Nat) (hf : f < 64) (w : World) (hA : RdL Ag.cells 5 w A ags) : Calls Tryd.prog 106 #[.slice A ags.length c, .int .i64 (f : Int)] w fun e w' => ∃ (B : List Bool) (b : Nat), B.length = 64 ∧ (∀ g, B.getD g false = true ↔ Rch ags (usedAll ags.length) f g) ∧ e = .returned (.slice (some ⟨b, 0, none⟩) 64 64) ∧ Grew w w' [.row 4 1 (some ⟨b, 0, none⟩) 64 64 (bools B)] := by
  refine enter (N := 48) [(0, .slice A ags.length c), (1, .int .i64 (f : Int))] Tryd.func106 rfl Tryd.ntmps106 rfl rfl ?_
  refine cod_seq ?_
  refine cod_region ?_
  refine lst_assign rfl rfl ?_
  refine lst_nil ?_
  refine ex_then ?_
  refine cod_seq ?_
  refine cod_region ?_
  refine lst_make_z (n := 64) made_bools rfl rfl rfl Tryd.underlying121 F.ti4 (by omega) (by omega) (by omega) ?_
  intro bL
  refine lst_assign rfl rfl ?_
  refine lst_nil ?_
  refine ex_then ?_
  refine cod_seq ?_
  refine cod_region ?_
  refine lst_move rfl rfl ?_
  refine lst_move rfl rfl ?_
  refine lst_index (j := f) rfl rfl rfl Tryd.underlying121 F.ti4 rfl hf ?_
  refine lst_store_row (N := 64) (xs := bools (List.replicate 64 false)) (out := bools ((List.replicate 64 false).set f true)) rfl rfl F.ti4 rfl (by rw [Nat.zero_add, Nat.mul_one]; exact splice_bools (by rw [List.length_replicate]; exact hf)) (by repeat (first | exact Upd.head _ | apply Upd.tail)) ?_
  refine lst_nil ?_
  refine ex_then ?_
  refine cod_seq ?_
  refine cod_seq ?_
  refine cod_region ?_
  refine lst_assign rfl rfl ?_
  refine lst_nil ?_
  refine ex_then ?_
  refine cod_block ?_
  refine cod_loop (G := Nat × List Bool) (fun g => g.1 ≤ 64 ∧ MtI ags f g.1 0 0 g.2) (fun g => 64 - g.1) (fun g => [(0, .slice A ags.length c), (1, .int .i64 (f : Int)), (5, .slice (some ⟨bL, 0, none⟩) 64 64), (6, .int .i64 (g.1 : Int))]) (fun g => [.row 4 1 (some ⟨bL, 0, none⟩) 64 64 (bools (g.2))]) (0, (List.replicate 64 false).set f true) ⟨Nat.zero_le _, MtI.start hf⟩ sbn sbl ?_
  rintro ⟨r, B⟩ ⟨hr, hI⟩
  (try dsimp only at hr hI ⊢)
  refine cod_seq ?_
  refine cod_seq ?_
  refine cod_region ?_
  refine lst_move rfl rfl ?_
  refine lst_int rfl rfl rfl bin_leq ?_
  refine lst_nil ?_
  refine ex_then ?_
  refine cod_cond_dec rfl (fun hc0 => ?_) (fun hc0 => ?_)
  · skip
    refine cod_skip ?_
    refine ex_then ?_
    refine cod_seq ?_
    refine cod_block ?_
    refine cod_seq ?_
    refine cod_region ?_
    refine lst_assign rfl rfl ?_
    refine lst_nil ?_
    refine ex_then ?_
    refine cod_block ?_
    refine cod_loop (G := Nat × List Bool) (fun g => g.1 ≤ 64 ∧ MtI ags f r g.1 0 g.2) (fun g => 64 - g.1) (fun g => [(0, .slice A ags.length c), (1, .int .i64 (f : Int)), (5, .slice (some ⟨bL, 0, none⟩) 64 64), (6, .int .i64 (r : Int)), (7, .int .i64 (g.1 : Int))]) (fun g => [.row 4 1 (some ⟨bL, 0, none⟩) 64 64 (bools (g.2))]) (0, B) ⟨Nat.zero_le _, hI⟩ sbn sbl ?_
    rintro ⟨m, B⟩ ⟨hm, hI⟩
    (try dsimp only at hm hI ⊢)
    refine cod_seq ?_
    refine cod_seq ?_
    refine cod_region ?_
    refine lst_move rfl rfl ?_
    refine lst_int rfl rfl rfl bin_leq ?_
    refine lst_nil ?_
    refine ex_then ?_
    refine cod_cond_dec rfl (fun hc1 => ?_) (fun hc1 => ?_)
    · skip
      have hm6 : m < 64 := by omega
      refine cod_skip ?_
      refine ex_then ?_
      refine cod_seq ?_
      refine cod_block ?_
      refine cod_seq ?_
      refine cod_region ?_
      refine lst_assign rfl rfl ?_
      refine lst_nil ?_
      refine ex_then ?_
      refine cod_block ?_
      refine cod_loop (G := Nat × List Bool) (fun g => g.1 ≤ ags.length ∧ MtI ags f r m g.1 g.2) (fun g => ags.length - g.1) (fun g => [(0, .slice A ags.length c), (1, .int .i64 (f : Int)), (5, .slice (some ⟨bL, 0, none⟩) 64 64), (6, .int .i64 (r : Int)), (7, .int .i64 (m : Int)), (8, .int .i64 (g.1 : Int))]) (fun g => [.row 4 1 (some ⟨bL, 0, none⟩) 64 64 (bools (g.2))]) (0, B) ⟨Nat.zero_le _, hI⟩ sbn sbl ?_
      rintro ⟨i, B⟩ ⟨hi, hI⟩
      (try dsimp only at hi hI ⊢)
      refine cod_seq ?_
      refine cod_seq ?_
      refine cod_region ?_
      refine lst_move rfl rfl ?_
      refine lst_move rfl rfl ?_
      refine lst_len rfl rfl Tryd.underlying22 ?_
      refine lst_int rfl rfl rfl bin_lss ?_
      refine lst_nil ?_
      refine ex_then ?_
      refine cod_cond_dec rfl (fun hc2 => ?_) (fun hc2 => ?_)
      · skip
        have hi0 : i < ags.length := by omega
        have hk' : i < ags.length := by omega
        obtain ⟨b, o, rfl, hb, hcell⟩ := hA (by omega)
        obtain ⟨x, hx⟩ : ∃ x, ags[i]? = some x := ⟨_, List.getElem?_eq_getElem hk'⟩
        have hxo : x.ok := hok.2 x (List.mem_of_getElem? hx)
        have hxd : ags.getD i default = x := by rw [List.getD_eq_getElem?_getD, hx]; rfl
        have h4 := hok.1
        have hlen := hI.len
        have hg6 : putN x m < 64 := putN_lt hxo hm6
        obtain ⟨bm, hbm⟩ : ∃ z, B[m]? = some z := ⟨_, List.getElem?_eq_getElem (by omega)⟩
        have hbd : B.getD m false = bm := by rw [List.getD_eq_getElem?_getD, hbm]; rfl
        refine cod_skip ?_
        refine ex_then ?_
        refine cod_seq ?_
        refine cod_block ?_
        refine cod_seq ?_
        refine cod_region ?_
        refine lst_cut1 12 38 (.bool (bm && mayN x m)) ?_ ?_
        · skip
          refine lst_move rfl rfl ?_
          refine lst_move rfl rfl ?_
          refine lst_index (j := m) rfl rfl rfl Tryd.underlying121 F.ti4 rfl hm6 ?_
          refine lst_load_at (v := .bool bm) rfl rfl F.one4 (fun a w ha => row_cell ha (InR.mem (A := (some ⟨bL, 0, none⟩))) rfl (by rw [Nat.zero_add]; exact bools_get hbm)) ?_
          refine lst_move rfl rfl ?_
          refine lst_split_bool (t := 31) rfl (fun hg31 => ?_) (fun hg31 => ?_)
          · skip
            refine lst_on rfl rfl ?_
            refine lst_move rfl rfl ?_
            refine lst_on rfl rfl ?_
            refine lst_move rfl rfl ?_
            refine lst_on rfl rfl ?_
            refine lst_index (j := i) rfl rfl rfl Tryd.underlying22 F.ti24 rfl hk' ?_
            refine lst_on rfl rfl ?_
            refine lst_loadN_at (l := [.int .i64 (x.needs : Int), .int .i64 (x.no : Int), .int .i64 (x.takes : Int), .int .i64 (x.leaves : Int), .int .i64 (x.cost : Int)]) rfl rfl F.agg24 F.ti24 rfl (fun a w ha j u hu => ha.old (hcell i x hx j u hu) hb) ?_
            refine lst_on rfl rfl ?_
            refine lst_move rfl rfl ?_
            refine lst_on rfl rfl ?_
            refine lst_fn0 (vs := [_, _]) rfl rfl F.ent97 (fun a w ha => rmay_c x m hxo hm6 w) ?_
            refine lst_pick_true rfl rfl rfl ?_
            refine lst_nil ?_
            exact ex_cut (.cons (by simp_all [look]) sbn) sbl
          · skip
            refine lst_off rfl rfl rfl ?_
            refine lst_off rfl rfl rfl ?_
            refine lst_off rfl rfl rfl ?_
            refine lst_off rfl rfl rfl ?_
            refine lst_off rfl rfl rfl ?_
            refine lst_off rfl rfl rfl ?_
            refine lst_pick_false rfl rfl rfl ?_
            refine lst_nil ?_
            exact ex_cut (.cons (by simp_all [look]) sbn) sbl
        refine lst_nil ?_
        refine ex_then ?_
        refine cod_cond_bool rfl (fun hc3 => ?_) (fun hc3 => ?_)
        · skip
          rw [Bool.and_eq_true] at hc3
          have hI2 := hI.put (hbd.trans hc3.1) (can_all.2 ⟨hk', by rw [hxd]; exact hc3.2⟩) (by rw [hxd]; exact hg6)
          rw [hxd] at hI2
          refine cod_region ?_
          refine lst_move rfl rfl ?_
          refine lst_move rfl rfl ?_
          refine lst_move rfl rfl ?_
          refine lst_index (j := i) rfl rfl rfl Tryd.underlying22 F.ti24 rfl hk' ?_
          refine lst_loadN_at (l := [.int .i64 (x.needs : Int), .int .i64 (x.no : Int), .int .i64 (x.takes : Int), .int .i64 (x.leaves : Int), .int .i64 (x.cost : Int)]) rfl rfl F.agg24 F.ti24 rfl (fun a w ha j u hu => ha.old (hcell i x hx j u hu) hb) ?_
          refine lst_move rfl rfl ?_
          refine lst_fn0 (vs := [_, _]) rfl rfl F.ent94 (fun a w ha => rafter_c x m hxo hm6 w) ?_
          refine lst_index (j := putN x m) rfl rfl rfl Tryd.underlying121 F.ti4 rfl hg6 ?_
          refine lst_store_row (N := 64) (xs := bools (B)) (out := bools (B.set (putN x m) true)) rfl rfl F.ti4 rfl (by rw [Nat.zero_add, Nat.mul_one]; exact splice_bools (by omega)) (by repeat (first | exact Upd.head _ | apply Upd.tail)) ?_
          refine lst_nil ?_
          refine ex_block_normal ?_
          refine ex_then ?_
          refine cod_region ?_
          refine lst_move rfl rfl ?_
          refine lst_int rfl rfl rfl (fun w => bin_add w (wrap_i64' _ (by omega) (by omega))) ?_
          refine lst_assign rfl rfl ?_
          refine lst_nil ?_
          refine ex_round (i + 1, B.set (putN x m) true) ⟨by omega, hI2⟩ (by (try dsimp only); omega) sbn sbl
        · skip
          have hI2 := hI.skip (fun h1 h2 => by
            have h3 := (can_all.1 h2).2
            rw [hxd] at h3
            rw [hbd] at h1
            rw [h1, h3] at hc3
            cases hc3)
          refine cod_skip ?_
          refine ex_block_normal ?_
          refine ex_then ?_
          refine cod_region ?_
          refine lst_move rfl rfl ?_
          refine lst_int rfl rfl rfl (fun w => bin_add w (wrap_i64' _ (by omega) (by omega))) ?_
          refine lst_assign rfl rfl ?_
          refine lst_nil ?_
          refine ex_round (i + 1, B) ⟨by omega, hI2⟩ (by (try dsimp only); omega) sbn sbl
      · skip
        obtain rfl : i = ags.length := by omega
        have hI2 := hI.next
        refine cod_exit ?_
        refine ex_then_exit ?_
        refine ex_then_exit ?_
        refine ex_block_exit ?_
        refine ex_block_normal ?_
        refine ex_then ?_
        refine cod_region ?_
        refine lst_move rfl rfl ?_
        refine lst_int rfl rfl rfl (fun w => bin_add w (wrap_i64' _ (by omega) (by omega))) ?_
        refine lst_assign rfl rfl ?_
        refine lst_nil ?_
        refine ex_round (m + 1, B) ⟨by omega, hI2⟩ (by (try dsimp only); omega) sbn sbl
    · skip
      obtain rfl : m = 64 := by omega
      have hI2 := hI.round
      refine cod_exit ?_
      refine ex_then_exit ?_
      refine ex_then_exit ?_
      refine ex_block_exit ?_
      refine ex_block_normal ?_
      refine ex_then ?_
      refine cod_region ?_
      refine lst_move rfl rfl ?_
      refine lst_int rfl rfl rfl (fun w => bin_add w (wrap_i64' _ (by omega) (by omega))) ?_
      refine lst_assign rfl rfl ?_
      refine lst_nil ?_
      refine ex_round (r + 1, B) ⟨by omega, hI2⟩ (by (try dsimp only); omega) sbn sbl
  · skip
    refine cod_exit ?_
    refine ex_then_exit ?_
    refine ex_then_exit ?_
    refine ex_block_exit ?_
    refine ex_then ?_
    refine cod_seq ?_
    refine cod_region ?_
    refine lst_move rfl rfl ?_
    refine lst_assign rfl rfl ?_
    refine lst_nil ?_
    refine ex_then ?_
    refine cod_ret ?_
    obtain rfl : r = 64 := by omega
    exact ex_ret rfl (fun a w ha => res_one rfl rfl ha) (fun a w ha => ⟨B, bL, hI.len, fun g => hI.fin, rfl, ha.grown sbl⟩)

theorem rReach_ok (A : Option Addr) (c : Nat) (ags : List Ag) (hok : Oks ags) (f : Nat) (hf : f < 64) (w : World) (hA : RdL Ag.cells 5 w A ags) : Calls Tryd.prog 60 #[.slice A ags.length c, .int .i64 (f : Int)] w fun e w' => ∃ A' c', e = .returned (.tuple #[.slice A' (rchL ags f).length c', .int .i64 0]) ∧ Grew w w' [.row 3 1 A' (rchL ags f).length c' (ints (rchL ags f))] := by
  refine enter (N := 32) [(0, .slice A ags.length c), (1, .int .i64 (f : Int))] Tryd.func60 rfl Tryd.ntmps60 rfl rfl ?_
  refine cod_seq ?_
  refine cod_region ?_
  refine lst_assign rfl rfl ?_
  refine lst_assign rfl rfl ?_
  refine lst_nil ?_
  refine ex_then ?_
  refine cod_seq ?_
  refine cod_seq ?_
  refine cod_region ?_
  refine lst_move rfl rfl ?_
  refine lst_move rfl rfl ?_
  refine lst_fn0 (v := .int .i64 0) (vs := [_, _, _]) rfl rfl F.ent86 (fun a w ha => by
    have h := asked_c A c (ags.map Ag.raw) (f : Int) 0 w (hA.raw.later ha.below)
    rw [List.length_map, askedR_ok hok hf (by omega)] at h
    exact h) ?_
  refine lst_assign rfl rfl ?_
  refine lst_nil ?_
  refine ex_then ?_
  refine cod_seq ?_
  refine cod_region ?_
  refine lst_move rfl rfl ?_
  refine lst_int rfl rfl rfl bin_neq ?_
  refine lst_nil ?_
  refine ex_then ?_
  refine cod_cond_false rfl ?_
  refine cod_skip ?_
  refine ex_then ?_
  refine cod_seq ?_
  refine cod_region ?_
  refine lst_assign rfl rfl ?_
  refine lst_nil ?_
  refine ex_then ?_
  refine cod_seq ?_
  refine cod_region ?_
  refine lst_move rfl rfl ?_
  refine lst_move rfl rfl ?_
  refine lst_fn (X := List Bool × Nat) (vs := [_, _]) (p := fun y => y.1.length = 64 ∧ ∀ g, y.1.getD g false = true ↔ Rch ags (usedAll ags.length) f g) (val := fun y => .slice (some ⟨y.2, 0, none⟩) 64 64) (rs := fun y => [.row 4 1 (some ⟨y.2, 0, none⟩) 64 64 (bools y.1)]) rfl rfl F.ent106 (fun a w ha => (rMet_c A c ags hok f hf w (hA.later ha.below)).mono (fun e w' h => by obtain ⟨B, b, h1, h2, h3, h4⟩ := h; exact ⟨(B, b), ⟨h1, h2⟩, h3, h4⟩)) ?_
  rintro ⟨B, bL⟩ ⟨hbl, hB⟩
  dsimp only [List.cons_append, List.nil_append] at hbl hB ⊢
  refine lst_assign rfl rfl ?_
  refine lst_nil ?_
  refine ex_then ?_
  refine cod_seq ?_
  refine cod_seq ?_
  refine cod_region ?_
  refine lst_assign rfl rfl ?_
  refine lst_nil ?_
  refine ex_then ?_
  refine cod_block ?_
  refine cod_nil 3 1 ?_
  refine cod_loop (G := Nat × Option Addr × Nat) (fun g => g.1 ≤ 64) (fun g => 64 - g.1) (fun g => [(7, .slice g.2.1 (fltP (Rch ags (usedAll ags.length) f) (List.range g.1)).length g.2.2), (8, .slice (some ⟨bL, 0, none⟩) 64 64), (9, .int .i64 (g.1 : Int))]) (fun g => [.row 3 1 g.2.1 (fltP (Rch ags (usedAll ags.length) f) (List.range g.1)).length g.2.2 (ints (fltP (Rch ags (usedAll ags.length) f) (List.range g.1))), .row 4 1 (some ⟨bL, 0, none⟩) 64 64 (bools (B))]) (0, none, 0) (Nat.zero_le _) sbn sbl ?_
  rintro ⟨k, A1, c1⟩ hk
  (try dsimp only at hk ⊢)
  refine cod_seq ?_
  refine cod_seq ?_
  refine cod_region ?_
  refine lst_move rfl rfl ?_
  refine lst_int rfl rfl rfl bin_leq ?_
  refine lst_nil ?_
  refine ex_then ?_
  refine cod_cond_dec rfl (fun hc1 => ?_) (fun hc1 => ?_)
  · skip
    have hk6 : k < 64 := by omega
    have hsl : (fltP (Rch ags (usedAll ags.length) f) (List.range k)).length ≤ 64 := Nat.le_trans (fltP_len _ _) (by rw [List.length_range]; omega)
    obtain ⟨bm, hbm⟩ : ∃ z, B[k]? = some z := ⟨_, List.getElem?_eq_getElem (by omega)⟩
    have hbk := hB k
    rw [List.getD_eq_getElem?_getD, hbm] at hbk
    replace hbk : bm = true ↔ Rch ags (usedAll ags.length) f k := hbk
    refine cod_skip ?_
    refine ex_then ?_
    refine cod_seq ?_
    refine cod_block ?_
    refine cod_seq ?_
    refine cod_region ?_
    refine lst_move rfl rfl ?_
    refine lst_move rfl rfl ?_
    refine lst_index (j := k) rfl rfl rfl Tryd.underlying121 F.ti4 rfl hk6 ?_
    refine lst_load_at (v := .bool bm) rfl rfl F.one4 (fun a w ha => row_cell ha (InR.mem (A := (some ⟨bL, 0, none⟩))) rfl (by rw [Nat.zero_add]; exact bools_get hbm)) ?_
    refine lst_nil ?_
    refine ex_then ?_
    refine cod_cond_bool rfl (fun hc2 => ?_) (fun hc2 => ?_)
    · skip
      refine cod_region ?_
      refine lst_move rfl rfl ?_
      refine lst_move rfl rfl ?_
      refine lst_lit (vs := [(0, _)]) rfl rfl Tryd.underlying25 F.ti3 rfl rfl rfl ?_
      intro b29
      refine lst_append rfl rfl rfl Tryd.underlying25 F.ti3 rfl rfl rfl (by unfold maxLen; omega) (by omega) ?_
      intro A2 c2
      refine lst_assign rfl rfl ?_
      refine lst_nil ?_
      refine ex_block_normal ?_
      refine ex_then ?_
      refine cod_region ?_
      refine lst_move rfl rfl ?_
      refine lst_int rfl rfl rfl (fun w => bin_add w (wrap_i64' _ (by omega) (by omega))) ?_
      refine lst_assign rfl rfl ?_
      refine lst_nil ?_
      have e : (fltP (Rch ags (usedAll ags.length) f) (List.range (k + 1))) = (fltP (Rch ags (usedAll ags.length) f) (List.range k)) ++ [k] := by rw [List.range_succ]; exact fltP_yes (hbk.1 hc2)
      refine ex_round (k + 1, A2, c2) (by (try dsimp only); omega) (by (try dsimp only); omega) (by (try dsimp only); (try rw [e]); simp only [List.length_append, List.length_singleton]; repeat (first | exact Sub.nil _ | refine Sub.cons rfl ?_)) (by (try dsimp only); (try rw [e]); simp only [ints_snoc, List.length_append, List.length_singleton]; repeat (first | exact List.Sublist.refl _ | exact List.nil_sublist _ | refine List.Sublist.cons_cons _ ?_ | refine List.Sublist.cons _ ?_))
    · skip
      refine cod_skip ?_
      refine ex_block_normal ?_
      refine ex_then ?_
      refine cod_region ?_
      refine lst_move rfl rfl ?_
      refine lst_int rfl rfl rfl (fun w => bin_add w (wrap_i64' _ (by omega) (by omega))) ?_
      refine lst_assign rfl rfl ?_
      refine lst_nil ?_
      have e : (fltP (Rch ags (usedAll ags.length) f) (List.range (k + 1))) = (fltP (Rch ags (usedAll ags.length) f) (List.range k)) := by rw [List.range_succ]; exact fltP_no (fun h => by rw [hbk.2 h] at hc2; cases hc2)
      refine ex_round (k + 1, A1, c1) (by (try dsimp only); omega) (by (try dsimp only); omega) (by (try dsimp only); (try rw [e]); repeat (first | exact Sub.nil _ | refine Sub.cons rfl ?_)) (by (try dsimp only); (try rw [e]); repeat (first | exact List.Sublist.refl _ | exact List.nil_sublist _ | refine List.Sublist.cons_cons _ ?_ | refine List.Sublist.cons _ ?_))
  · skip
    refine cod_exit ?_
    refine ex_then_exit ?_
    refine ex_then_exit ?_
    refine ex_block_exit ?_
    refine ex_then ?_
    refine cod_seq ?_
    refine cod_region ?_
    refine lst_move rfl rfl ?_
    refine lst_assign rfl rfl ?_
    refine lst_assign rfl rfl ?_
    refine lst_nil ?_
    refine ex_then ?_
    refine cod_ret ?_
    obtain rfl : k = 64 := by omega
    exact ex_ret rfl (fun a w ha => res_two rfl rfl rfl ha) (fun a w ha => ⟨A1, c1, rfl, ha.grown sbl⟩)

theorem rShortest_ok (A : Option Addr) (c : Nat) (ags : List Ag) (hok : Oks ags) (f p : Nat) (hf : f < 64) (hp : p < 64) (w : World) (hA : RdL Ag.cells 5 w A ags) : Calls Tryd.prog 61 #[.slice A ags.length c, .int .i64 (f : Int), .int .i64 (p : Int)] w fun e w' => ∃ (W : List Nat) (E : Nat) (A' : Option Addr) (c' : Nat), ShQ ags p f W E ∧ e = .returned (.tuple #[.slice A' W.length c', .int .i64 (E : Int)]) ∧ Grew w w' [.row 3 1 A' W.length c' (ints W)] := by
  refine enter (N := 72) [(0, .slice A ags.length c), (1, .int .i64 (f : Int)), (2, .int .i64 (p : Int))] Tryd.func61 rfl Tryd.ntmps61 rfl rfl ?_
  refine cod_seq ?_
  refine cod_region ?_
  refine lst_assign rfl rfl ?_
  refine lst_assign rfl rfl ?_
  refine lst_nil ?_
  refine ex_then ?_
  refine cod_seq ?_
  refine cod_seq ?_
  refine cod_region ?_
  refine lst_move rfl rfl ?_
  refine lst_move rfl rfl ?_
  refine lst_move rfl rfl ?_
  refine lst_fn0 (v := .int .i64 0) (vs := [_, _, _]) rfl rfl F.ent86 (fun a w ha => by
    have h := asked_c A c (ags.map Ag.raw) (f : Int) (p : Int) w (hA.raw.later ha.below)
    rw [List.length_map, askedR_ok hok hf (by omega)] at h
    exact h) ?_
  refine lst_assign rfl rfl ?_
  refine lst_nil ?_
  refine ex_then ?_
  refine cod_seq ?_
  refine cod_region ?_
  refine lst_move rfl rfl ?_
  refine lst_int rfl rfl rfl bin_neq ?_
  refine lst_nil ?_
  refine ex_then ?_
  refine cod_cond_false rfl ?_
  refine cod_skip ?_
  refine ex_then ?_
  refine cod_seq ?_
  refine cod_region ?_
  refine lst_move rfl rfl ?_
  refine lst_move rfl rfl ?_
  refine lst_fn (X := List Nat × Nat) (vs := [_, _, _]) (p := fun y => Dst ags (usedAll ags.length) p y.1) (val := fun y => .slice (some ⟨y.2, 0, none⟩) 64 64) (rs := fun y => [.row 3 1 (some ⟨y.2, 0, none⟩) 64 64 (ints y.1)]) rfl rfl F.ent103 (fun a w ha => (rPuts_c A c ags hok p hp (usedAll ags.length) (-1) (fun i hi => by rw [usedAll_bit]; simp [hi]) w (hA.later ha.below)).mono (fun e w' h => by obtain ⟨L, b, h1, h2, h3⟩ := h; exact ⟨(L, b), h1, h2, h3⟩)) ?_
  rintro ⟨L0, bP0⟩ hD0
  dsimp only [List.cons_append, List.nil_append] at hD0 ⊢
  have hll0 := hD0.len
  obtain ⟨n1, hn1⟩ : ∃ n, L0[f]? = some n := ⟨_, List.getElem?_eq_getElem (by omega)⟩
  have hd1 : L0.getD f 0 = n1 := by rw [List.getD_eq_getElem?_getD, hn1]; rfl
  have hfar1 := hD0.far f hf
  rw [hd1] at hfar1
  unfold farN at hfar1
  refine lst_assign rfl rfl ?_
  refine lst_nil ?_
  refine ex_then ?_
  refine cod_seq ?_
  refine cod_seq ?_
  refine cod_region ?_
  refine lst_move rfl rfl ?_
  refine lst_move rfl rfl ?_
  refine lst_index (j := f) rfl rfl rfl Tryd.underlying25 F.ti3 rfl hf ?_
  refine lst_load_at (v := .int .i64 (n1 : Int)) rfl rfl F.one3 (fun a w ha => row_cell ha (InR.mem (A := (some ⟨bP0, 0, none⟩))) rfl (by rw [Nat.zero_add]; exact ints_get hn1)) ?_
  refine lst_int rfl rfl rfl bin_eql ?_
  refine lst_nil ?_
  refine ex_then ?_
  refine cod_cond_dec rfl (fun hc1 => ?_) (fun hc1 => ?_)
  · skip
    refine cod_seq ?_
    refine cod_region ?_
    refine lst_assign rfl rfl ?_
    refine lst_assign rfl rfl ?_
    refine lst_nil ?_
    refine ex_then ?_
    refine cod_ret ?_
    refine ex_then_ret ?_
    exact ex_ret rfl (fun a w ha => res_two rfl rfl rfl ha) (fun a w ha => ⟨[], 11, none, 0, ⟨fun h => absurd h (by decide), fun _ => ⟨rfl, rfl, hfar1.1 (by omega)⟩⟩, rfl, (ha.add_nil 3 1).grown sbl⟩)
  · skip
    have hn1f : L0.getD f 0 ≠ farN := by rw [hd1]; unfold farN; omega
    have h63f := (hD0.way f hf hn1f).1
    rw [hd1] at h63f
    refine cod_skip ?_
    refine ex_then ?_
    refine cod_seq ?_
    refine cod_region ?_
    refine lst_assign rfl rfl ?_
    refine lst_nil ?_
    refine ex_then ?_
    refine cod_seq ?_
    refine cod_block ?_
    refine cod_nil 3 1 ?_
    refine cod_loop' (G := Nat × List Nat × Option Addr × Nat) (fun g => g.1 < 64 ∧ L0.getD g.1 0 ≠ farN ∧ g.2.1.length + L0.getD g.1 0 = n1 ∧ ∀ W, Sn ags L0 g.1 W → Sn ags L0 f (g.2.1 ++ W)) (fun g => L0.getD g.1 0) (fun g => [(0, .slice A ags.length c), (1, .int .i64 (g.1 : Int)), (9, .slice (some ⟨bP0, 0, none⟩) 64 64), (10, .slice g.2.2.1 g.2.1.length g.2.2.2)]) (fun g => [.row 3 1 g.2.2.1 g.2.1.length g.2.2.2 (ints g.2.1), .row 3 1 (some ⟨bP0, 0, none⟩) 64 64 (ints L0)]) (f, [], none, 0) ⟨hf, hn1f, by (try dsimp only); rw [hd1]; simp, fun W h => h⟩ sbn pkk ?_
    rintro ⟨m, out, A1, c1⟩ ⟨hm6, hmn, hml, hS⟩
    dsimp only at hm6 hmn hml hS ⊢
    have h63 := (hD0.way m hm6 hmn).1
    obtain ⟨nm, hnm⟩ : ∃ n, L0[m]? = some n := ⟨_, List.getElem?_eq_getElem (by omega)⟩
    have hdm : L0.getD m 0 = nm := by rw [List.getD_eq_getElem?_getD, hnm]; rfl
    refine cod_seq ?_
    refine cod_seq ?_
    refine cod_region ?_
    refine lst_move rfl rfl ?_
    refine lst_move rfl rfl ?_
    refine lst_index (j := m) rfl rfl rfl Tryd.underlying25 F.ti3 rfl hm6 ?_
    refine lst_load_at (v := .int .i64 (nm : Int)) rfl rfl F.one3 (fun a w ha => row_cell ha (InR.mem (A := (some ⟨bP0, 0, none⟩))) rfl (by rw [Nat.zero_add]; exact ints_get hnm)) ?_
    refine lst_int rfl rfl rfl bin_gtr ?_
    refine lst_nil ?_
    refine ex_then ?_
    refine cod_cond_dec rfl (fun hc2 => ?_) (fun hc2 => ?_)
    · skip
      have hnm0 : 0 < nm := by omega
      refine cod_skip ?_
      refine ex_then ?_
      refine cod_block ?_
      refine cod_seq ?_
      refine cod_region ?_
      refine lst_assign rfl rfl ?_
      refine lst_nil ?_
      refine ex_then ?_
      refine cod_block ?_
      refine cod_loop' (G := Nat) (fun g => g ≤ ags.length ∧ ∀ j, j < g → j ∈ canTo ags (usedAll ags.length) m ags.length → L0.getD (putN (ags.getD j default) m) 0 + 1 ≠ L0.getD m 0) (fun g => ags.length - g) (fun g => [(0, .slice A ags.length c), (1, .int .i64 (m : Int)), (9, .slice (some ⟨bP0, 0, none⟩) 64 64), (10, .slice A1 out.length c1), (11, .int .i64 (g : Int))]) (fun g => [.row 3 1 A1 out.length c1 (ints out), .row 3 1 (some ⟨bP0, 0, none⟩) 64 64 (ints L0)]) (0) ⟨Nat.zero_le _, fun j h => absurd h (Nat.not_lt_zero _)⟩ sbn pkk ?_
      rintro i ⟨hi, hno⟩
      try dsimp only at hi hno ⊢
      refine cod_seq ?_
      refine cod_seq ?_
      refine cod_region ?_
      refine lst_move rfl rfl ?_
      refine lst_move rfl rfl ?_
      refine lst_len rfl rfl Tryd.underlying22 ?_
      refine lst_int rfl rfl rfl bin_lss ?_
      refine lst_nil ?_
      refine ex_then ?_
      refine cod_cond_dec rfl (fun hc3 => ?_) (fun hc3 => ?_)
      · skip
        have hi0 : i < ags.length := by omega
        have hk' : i < ags.length := by omega
        obtain ⟨b, o, rfl, hb, hcell⟩ := hA (by omega)
        obtain ⟨x, hx⟩ : ∃ x, ags[i]? = some x := ⟨_, List.getElem?_eq_getElem hk'⟩
        have hxo : x.ok := hok.2 x (List.mem_of_getElem? hx)
        have hxd : ags.getD i default = x := by rw [List.getD_eq_getElem?_getD, hx]; rfl
        have h4 := hok.1
        have hg6 : putN x m < 64 := putN_lt hxo hm6
        obtain ⟨ng, hng⟩ : ∃ n, L0[putN x m]? = some n := ⟨_, List.getElem?_eq_getElem (by omega)⟩
        have hdg : L0.getD (putN x m) 0 = ng := by rw [List.getD_eq_getElem?_getD, hng]; rfl
        refine cod_skip ?_
        refine ex_then ?_
        refine cod_seq ?_
        refine cod_block ?_
        refine cod_seq ?_
        cases hmy : mayN x m
        · skip
          refine any_begin [] F.follows 23 rfl [false, false, false, false, false, false, false, false, false, false, false, false, false, false, false, false, false, false, false, false, false, false, false] rfl ?_
          refine any_tk 0 rfl rfl rfl (yld_move rfl) ?_
          refine any_tk 1 rfl rfl rfl (yld_move rfl) ?_
          refine any_tk 2 rfl rfl rfl (yld_index (j := i) rfl rfl Tryd.underlying22 F.ti24 rfl hk') ?_
          refine any_tk 3 rfl rfl rfl (yld_loadN_at (l := [.int .i64 (x.needs : Int), .int .i64 (x.no : Int), .int .i64 (x.takes : Int), .int .i64 (x.leaves : Int), .int .i64 (x.cost : Int)]) rfl F.agg24 F.ti24 rfl (fun a w ha j u hu => ha.old (hcell i x hx j u hu) hb)) ?_
          refine any_tk 4 rfl rfl rfl (yld_move rfl) ?_
          refine any_one 5 (by kernel_rfl) rfl rfl ?_
          refine lst_fn0 (vs := [_, _]) rfl rfl F.ent97 (fun a w ha => rmay_c x m hxo hm6 w) ?_
          refine lst_nil ?_
          refine any_next sbl ?_
          rw [hmy]
          refine any_tk 6 rfl rfl rfl (yld_move rfl) ?_
          refine any_take_off 7 rfl rfl rfl rfl rfl (by kernel_rfl) (by kernel_rfl) (by kernel_rfl) sbl rfl ?_
          refine any_take_off 8 rfl rfl rfl rfl rfl (by kernel_rfl) (by kernel_rfl) (by kernel_rfl) sbl rfl ?_
          refine any_take_off 9 rfl rfl rfl rfl rfl (by kernel_rfl) (by kernel_rfl) (by kernel_rfl) sbl rfl ?_
          refine any_take_off 10 rfl rfl rfl rfl rfl (by kernel_rfl) (by kernel_rfl) (by kernel_rfl) sbl rfl ?_
          refine any_take_off 11 rfl rfl rfl rfl rfl (by kernel_rfl) (by kernel_rfl) (by kernel_rfl) sbl rfl ?_
          refine any_take_off 12 rfl rfl rfl rfl rfl (by kernel_rfl) (by kernel_rfl) (by kernel_rfl) sbl rfl ?_
          refine any_take_off 13 rfl rfl rfl rfl rfl (by kernel_rfl) (by kernel_rfl) (by kernel_rfl) sbl rfl ?_
          refine any_take_off 14 rfl rfl rfl rfl rfl (by kernel_rfl) (by kernel_rfl) (by kernel_rfl) sbl rfl ?_
          refine any_take_off 15 rfl rfl rfl rfl rfl (by kernel_rfl) (by kernel_rfl) (by kernel_rfl) sbl rfl ?_
          refine any_take_off 16 rfl rfl rfl rfl rfl (by kernel_rfl) (by kernel_rfl) (by kernel_rfl) sbl rfl ?_
          refine any_take_off 17 rfl rfl rfl rfl rfl (by kernel_rfl) (by kernel_rfl) (by kernel_rfl) sbl rfl ?_
          refine any_take_off 18 rfl rfl rfl rfl rfl (by kernel_rfl) (by kernel_rfl) (by kernel_rfl) sbl rfl ?_
          refine any_take_off 19 rfl rfl rfl rfl rfl (by kernel_rfl) (by kernel_rfl) (by kernel_rfl) sbl rfl ?_
          refine any_take_off 20 rfl rfl rfl rfl rfl (by kernel_rfl) (by kernel_rfl) (by kernel_rfl) sbl rfl ?_
          refine any_take_off 21 rfl rfl rfl rfl rfl (by kernel_rfl) (by kernel_rfl) (by kernel_rfl) sbl rfl ?_
          refine any_tk 22 rfl rfl rfl (yld_pick_false rfl rfl) ?_
          refine any_done rfl (by kernel_rfl) ?_
          refine ex_then ?_
          refine cod_cond_false rfl ?_
          refine cod_skip ?_
          refine ex_block_normal ?_
          refine ex_then ?_
          refine cod_region ?_
          refine lst_move rfl rfl ?_
          refine lst_int rfl rfl rfl (fun w => bin_add w (wrap_i64' _ (by omega) (by omega))) ?_
          refine lst_assign rfl rfl ?_
          refine lst_nil ?_
          refine ex_round' (i + 1) ⟨by (try dsimp only); omega, fun j hj hc => by
            rcases Nat.lt_succ_iff_lt_or_eq.1 hj with h1 | rfl
            · exact hno j h1 hc
            · have h2 := (can_all.1 hc).2
              rw [hxd, hmy] at h2
              cases h2⟩ (by (try dsimp only); omega) sbn pkk
        · skip
          refine any_begin [] F.follows 23 rfl [false, false, false, false, false, false, false, false, false, false, false, false, false, false, false, false, false, false, false, false, false, false, false] rfl ?_
          refine any_tk 0 rfl rfl rfl (yld_move rfl) ?_
          refine any_tk 1 rfl rfl rfl (yld_move rfl) ?_
          refine any_tk 2 rfl rfl rfl (yld_index (j := i) rfl rfl Tryd.underlying22 F.ti24 rfl hk') ?_
          refine any_tk 3 rfl rfl rfl (yld_loadN_at (l := [.int .i64 (x.needs : Int), .int .i64 (x.no : Int), .int .i64 (x.takes : Int), .int .i64 (x.leaves : Int), .int .i64 (x.cost : Int)]) rfl F.agg24 F.ti24 rfl (fun a w ha j u hu => ha.old (hcell i x hx j u hu) hb)) ?_
          refine any_tk 4 rfl rfl rfl (yld_move rfl) ?_
          refine any_one 5 (by kernel_rfl) rfl rfl ?_
          refine lst_fn0 (vs := [_, _]) rfl rfl F.ent97 (fun a w ha => rmay_c x m hxo hm6 w) ?_
          refine lst_nil ?_
          refine any_next sbl ?_
          rw [hmy]
          refine any_tk 6 rfl rfl rfl (yld_move rfl) ?_
          refine any_take_on 7 rfl rfl rfl rfl rfl (by kernel_rfl) (by kernel_rfl) (by kernel_rfl) sbl (yld_move rfl) rfl ?_
          refine any_take_on 8 rfl rfl rfl rfl rfl (by kernel_rfl) (by kernel_rfl) (by kernel_rfl) sbl (yld_move rfl) rfl ?_
          refine any_take_on 9 rfl rfl rfl rfl rfl (by kernel_rfl) (by kernel_rfl) (by kernel_rfl) sbl (yld_move rfl) rfl ?_
          refine any_take_on 10 rfl rfl rfl rfl rfl (by kernel_rfl) (by kernel_rfl) (by kernel_rfl) sbl (yld_index (j := i) rfl rfl Tryd.underlying22 F.ti24 rfl hk') rfl ?_
          refine any_take_on 11 rfl rfl rfl rfl rfl (by kernel_rfl) (by kernel_rfl) (by kernel_rfl) sbl (yld_loadN_at (l := [.int .i64 (x.needs : Int), .int .i64 (x.no : Int), .int .i64 (x.takes : Int), .int .i64 (x.leaves : Int), .int .i64 (x.cost : Int)]) rfl F.agg24 F.ti24 rfl (fun a w ha j u hu => ha.old (hcell i x hx j u hu) hb)) rfl ?_
          refine any_take_on 12 rfl rfl rfl rfl rfl (by kernel_rfl) (by kernel_rfl) (by kernel_rfl) sbl (yld_move rfl) rfl ?_
          refine any_take_on 16 rfl rfl rfl rfl rfl (by kernel_rfl) (by kernel_rfl) (by kernel_rfl) sbl (yld_move rfl) rfl ?_
          refine any_take_on 17 rfl rfl rfl rfl rfl (by kernel_rfl) (by kernel_rfl) (by kernel_rfl) sbl (yld_move rfl) rfl ?_
          refine any_take_on 18 rfl rfl rfl rfl rfl (by kernel_rfl) (by kernel_rfl) (by kernel_rfl) sbl (yld_index (j := m) rfl rfl Tryd.underlying25 F.ti3 rfl hm6) rfl ?_
          refine any_take_on 19 rfl rfl rfl rfl rfl (by kernel_rfl) (by kernel_rfl) (by kernel_rfl) sbl (yld_load_at (v := .int .i64 (nm : Int)) rfl F.one3 (fun a w ha => row_cell ha (InR.mem (A := (some ⟨bP0, 0, none⟩))) rfl (by rw [Nat.zero_add]; exact ints_get hnm))) rfl ?_
          refine any_take_on 20 rfl rfl rfl rfl rfl (by kernel_rfl) (by kernel_rfl) (by kernel_rfl) sbl (yld_int (v := .int .i64 ((nm : Int) - 1)) rfl rfl (fun w => bin_sub w (wrap_i64' _ (by omega) (by omega)))) rfl ?_
          refine any_one 13 (by kernel_rfl) rfl rfl ?_
          refine lst_on rfl rfl ?_
          refine lst_fn0 (vs := [_, _]) rfl rfl F.ent94 (fun a w ha => rafter_c x m hxo hm6 w) ?_
          refine lst_nil ?_
          refine any_next sbl ?_
          refine any_take_on 14 rfl rfl rfl rfl rfl (by kernel_rfl) (by kernel_rfl) (by kernel_rfl) sbl (yld_index (j := putN x m) rfl rfl Tryd.underlying25 F.ti3 rfl hg6) rfl ?_
          refine any_take_on 15 rfl rfl rfl rfl rfl (by kernel_rfl) (by kernel_rfl) (by kernel_rfl) sbl (yld_load_at (v := .int .i64 (ng : Int)) rfl F.one3 (fun a w ha => row_cell ha (InR.mem (A := (some ⟨bP0, 0, none⟩))) rfl (by rw [Nat.zero_add]; exact ints_get hng))) rfl ?_
          refine any_take_on 21 rfl rfl rfl rfl rfl (by kernel_rfl) (by kernel_rfl) (by kernel_rfl) sbl (yld_int rfl rfl bin_eql) rfl ?_
          refine any_tk 22 rfl rfl rfl (yld_pick_true rfl rfl) ?_
          refine any_done rfl (by kernel_rfl) ?_
          refine ex_then ?_
          refine cod_cond_dec rfl (fun hc4 => ?_) (fun hc4 => ?_)
          · skip
            refine cod_seq ?_
            refine any_begin [.r A1] F.follows 12 rfl [false, false, false, false, false, false, false, false, false, false, false, false] rfl ?_
            refine any_tk 0 rfl rfl rfl (yld_move rfl) ?_
            refine any_tk 1 rfl rfl rfl (yld_move rfl) ?_
            refine any_tk 4 rfl rfl rfl (yld_move rfl) ?_
            refine any_tk 5 rfl rfl rfl (yld_move rfl) ?_
            refine any_tk 6 rfl rfl rfl (yld_index (j := i) rfl rfl Tryd.underlying22 F.ti24 rfl hk') ?_
            refine any_tk 7 rfl rfl rfl (yld_loadN_at (l := [.int .i64 (x.needs : Int), .int .i64 (x.no : Int), .int .i64 (x.takes : Int), .int .i64 (x.leaves : Int), .int .i64 (x.cost : Int)]) rfl F.agg24 F.ti24 rfl (fun a w ha j u hu => ha.old (hcell i x hx j u hu) hb)) ?_
            refine any_tk 8 rfl rfl rfl (yld_move rfl) ?_
            refine any_one 2 (by kernel_rfl) rfl rfl ?_
            refine lst_lit (vs := [(0, _)]) rfl rfl Tryd.underlying25 F.ti3 rfl rfl rfl ?_
            intro b63
            refine lst_nil ?_
            refine any_next sbl ?_
            refine any_one 3 (by kernel_rfl) rfl rfl ?_
            refine lst_append rfl rfl rfl Tryd.underlying25 F.ti3 rfl rfl rfl (by unfold maxLen; omega) (by omega) ?_
            intro A2 c2
            refine lst_nil ?_
            refine any_next sbl ?_
            refine any_one 9 (by kernel_rfl) rfl rfl ?_
            refine lst_fn0 (vs := [_, _]) rfl rfl F.ent94 (fun a w ha => rafter_c x m hxo hm6 w) ?_
            refine lst_nil ?_
            refine any_next sbl ?_
            refine any_tk 10 rfl rfl rfl (yld_assign rfl) ?_
            refine any_tk 11 rfl rfl rfl (yld_assign rfl) ?_
            refine any_done rfl (by kernel_rfl) ?_
            refine ex_then ?_
            refine cod_exit ?_
            refine ex_block_other rfl ?_
            refine ex_then_exit ?_
            refine ex_then_exit ?_
            refine ex_block_exit ?_
            refine ex_block_normal ?_
            have hcan : i ∈ canTo ags (usedAll ags.length) m ags.length := can_all.2 ⟨hk', by rw [hxd]; exact hmy⟩
            refine ex_round' (putN x m, out ++ [i], A2, c2) ⟨hg6, by (try dsimp only); rw [hdg]; unfold farN; omega, by (try dsimp only); rw [hdg, List.length_append, List.length_singleton]; omega, fun W hW => by
              rw [List.append_assoc]
              exact hS _ (.step hcan (by rw [hxd, hdg, hdm]; omega) (fun j hjc hji => hno j hji hjc) (by rw [hxd]; exact hW))⟩ (by (try dsimp only); rw [hdg, hdm]; omega) (by (try dsimp only); rw [List.length_append, List.length_singleton]; repeat (first | exact Sub.nil _ | refine Sub.cons rfl ?_)) (by (try dsimp only); rw [ints_snoc, List.length_append, List.length_singleton]; repeat (first | exact Pck.nil _ | exact Pck.refl _ | (apply Pck.cons; focus ((repeat (first | exact Rem.here _ | apply Rem.there)); done)) | refine Pck.skip _ ?_))
          · skip
            refine cod_skip ?_
            refine ex_block_normal ?_
            refine ex_then ?_
            refine cod_region ?_
            refine lst_move rfl rfl ?_
            refine lst_int rfl rfl rfl (fun w => bin_add w (wrap_i64' _ (by omega) (by omega))) ?_
            refine lst_assign rfl rfl ?_
            refine lst_nil ?_
            refine ex_round' (i + 1) ⟨by (try dsimp only); omega, fun j hj hc => by
              rcases Nat.lt_succ_iff_lt_or_eq.1 hj with h1 | rfl
              · exact hno j h1 hc
              · rw [hxd, hdg, hdm]
                omega⟩ (by (try dsimp only); omega) sbn pkk
      · skip
        exfalso
        obtain ⟨i2, h1, h2⟩ := hD0.next hok hm6 hmn (by omega)
        exact hno i2 (by have := (can_mem.1 h1).1; omega) h1 h2 -- done
    · skip
      have hnm0 : nm = 0 := by omega
      refine cod_exit ?_
      refine ex_then_exit ?_
      refine ex_then_exit ?_
      refine ex_block_exit ?_
      refine ex_then ?_
      refine cod_seq ?_
      refine cod_region ?_
      refine lst_move rfl rfl ?_
      refine lst_assign rfl rfl ?_
      refine lst_assign rfl rfl ?_
      refine lst_nil ?_
      refine ex_then ?_
      refine cod_ret ?_
      exact ex_ret rfl (fun a w ha => res_two rfl rfl rfl ha) (fun a w ha => ⟨out, 0, A1, c1, (by have h := hS [] (.done (by rw [hdm]; exact hnm0)); rw [List.append_nil] at h; exact h.shq hok hD0 hf hn1f), rfl, ha.grown sbl⟩)

end Go.Proofs.YtofkhehcnfiopaaDoor.N
namespace Go.Proofs.YtofkhehcnfiopaaDoor.N
open Go Go.RowKit Go.Proofs
set_option linter.unusedSectionVars false
variable [I : Sys] [R : Rea]
theorem F.agg126 : aggB Tryd.prog 126 = true := by unfold aggB; rw [Tryd.underlying126]
theorem F.ent124 : Enters Tryd.prog 124 := enters_of Tryd.func124 rfl (by kernel_rfl)
theorem F.fi126_0 : FI Tryd.prog 126 0 3 0 := ⟨_, _, Tryd.underlying126, rfl, rfl, rfl⟩
theorem F.fi126_1 : FI Tryd.prog 126 1 3 1 := ⟨_, _, Tryd.underlying126, rfl, rfl, rfl⟩
theorem F.pl126 : Places Tryd.prog 126 [(0, 1), (1, 1)] := .inl ⟨_, Tryd.underlying126, by kernel_rfl⟩
theorem F.ti126 : TI Tryd.prog 126 (.agg [.int .i64 0, .int .i64 0].toArray) 2 16 := TI.of (by kernel_rfl)
theorem below_c (u v : Nat × Nat) (w : World) : Calls Tryd.prog 124 #[.agg [.int .i64 (u.1 : Int), .int .i64 (u.2 : Int)].toArray, .agg [.int .i64 (v.1 : Int), .int .i64 (v.2 : Int)].toArray] w fun e w' => e = .returned (.bool (lowB u v)) ∧ Grew w w' [] := by
  refine enter (N := 24) [(0, .agg [.int .i64 (u.1 : Int), .int .i64 (u.2 : Int)].toArray), (1, .agg [.int .i64 (v.1 : Int), .int .i64 (v.2 : Int)].toArray)] Tryd.func124 rfl Tryd.ntmps124 rfl rfl ?_
  refine cod_seq ?_
  refine cod_region ?_
  refine lst_box rfl rfl ?_
  intro b2
  refine lst_box rfl rfl ?_
  intro b3
  refine lst_assign rfl rfl ?_
  refine lst_nil ?_
  refine ex_then ?_
  refine cod_seq ?_
  refine cod_region ?_
  refine lst_cut1 19 23 (.bool (lowB u v)) ?_ ?_
  · skip
    refine lst_field_z rfl rfl F.fi126_0 F.ti3 ?_
    refine lst_load rfl rfl F.one3 ?_
    refine lst_field_z rfl rfl F.fi126_0 F.ti3 ?_
    refine lst_load rfl rfl F.one3 ?_
    refine lst_int rfl rfl rfl bin_lss ?_
    refine lst_move rfl rfl ?_
    refine lst_split_bool (t := 10) rfl (fun hg10 => ?_) (fun hg10 => ?_)
    · skip
      refine lst_off rfl rfl rfl ?_
      refine lst_off rfl rfl rfl ?_
      refine lst_off rfl rfl rfl ?_
      refine lst_off rfl rfl rfl ?_
      refine lst_off rfl rfl rfl ?_
      refine lst_off rfl rfl rfl ?_
      refine lst_offu rfl rfl rfl ?_
      refine lst_offu rfl rfl rfl ?_
      refine lst_offu rfl rfl rfl ?_
      refine lst_offu rfl rfl rfl ?_
      refine lst_offu rfl rfl rfl ?_
      refine lst_off rfl rfl rfl ?_
      refine lst_pick_true rfl rfl rfl ?_
      refine lst_nil ?_
      exact ex_cut (.cons (by simp_all [look, lowB] <;> (try rw [Bool.eq_iff_iff]) <;> (try simp) <;> omega) sbn) sbl
    · skip
      refine lst_on rfl rfl ?_
      refine lst_field_z rfl rfl F.fi126_0 F.ti3 ?_
      refine lst_on rfl rfl ?_
      refine lst_load rfl rfl F.one3 ?_
      refine lst_on rfl rfl ?_
      refine lst_field_z rfl rfl F.fi126_0 F.ti3 ?_
      refine lst_on rfl rfl ?_
      refine lst_load rfl rfl F.one3 ?_
      refine lst_on rfl rfl ?_
      refine lst_int rfl rfl rfl bin_eql ?_
      refine lst_on rfl rfl ?_
      refine lst_move rfl rfl ?_
      refine lst_split_bool (t := 16) rfl (fun hg16 => ?_) (fun hg16 => ?_)
      · skip
        refine lst_on rfl rfl ?_
        refine lst_field_z rfl rfl F.fi126_1 F.ti3 ?_
        refine lst_on rfl rfl ?_
        refine lst_load rfl rfl F.one3 ?_
        refine lst_on rfl rfl ?_
        refine lst_field_z rfl rfl F.fi126_1 F.ti3 ?_
        refine lst_on rfl rfl ?_
        refine lst_load rfl rfl F.one3 ?_
        refine lst_on rfl rfl ?_
        refine lst_int rfl rfl rfl bin_lss ?_
        refine lst_on rfl rfl ?_
        refine lst_pick_true rfl rfl rfl ?_
        refine lst_pick_false rfl rfl rfl ?_
        refine lst_nil ?_
        exact ex_cut (.cons (by simp_all [look, lowB] <;> (try rw [Bool.eq_iff_iff]) <;> (try simp) <;> omega) sbn) sbl
      · skip
        refine lst_off rfl rfl rfl ?_
        refine lst_off rfl rfl rfl ?_
        refine lst_off rfl rfl rfl ?_
        refine lst_off rfl rfl rfl ?_
        refine lst_off rfl rfl rfl ?_
        refine lst_on rfl rfl ?_
        refine lst_pick_false rfl rfl rfl ?_
        refine lst_pick_false rfl rfl rfl ?_
        refine lst_nil ?_
        exact ex_cut (.cons (by simp_all [look, lowB] <;> (try rw [Bool.eq_iff_iff]) <;> (try simp) <;> omega) sbn) sbl
  refine lst_assign rfl rfl ?_
  refine lst_nil ?_
  refine ex_then ?_
  refine cod_ret ?_
  exact ex_ret rfl (fun a w ha => res_one rfl rfl ha) (fun a w ha => ⟨rfl, ha.grown (List.nil_sublist _)⟩)

theorem rPrices_c (A : Option Addr) (c : Nat) (ags : List Ag) (hok : Oks ags) (p : Nat) (hp : p < 64) (w : World) (hA : RdL Ag.cells 5 w A ags) : Calls Tryd.prog 107 #[.slice A ags.length c, .int .i64 (p : Int)] w fun e w' => ∃ (ps : List (Nat × Nat)) (b : Nat), PrS ags p ps ∧ e = .returned (.slice (some ⟨b, 0, none⟩) 64 64) ∧ Grew w w' [.row 126 2 (some ⟨b, 0, none⟩) 64 64 ((ps).flatMap pcell)] := by
  refine enter (N := 90) [(0, .slice A ags.length c), (1, .int .i64 (p : Int))] Tryd.func107 rfl Tryd.ntmps107 rfl rfl ?_
  refine cod_seq ?_
  refine cod_region ?_
  refine lst_assign rfl rfl ?_
  refine lst_nil ?_
  refine ex_then ?_
  refine cod_seq ?_
  refine cod_region ?_
  refine lst_make_z (n := 64) made_prices rfl rfl rfl Tryd.underlying123 F.ti126 (by omega) (by omega) (by omega) ?_
  intro bL
  rw [← initQ_zero p]
  refine lst_assign rfl rfl ?_
  refine lst_nil ?_
  refine ex_then ?_
  refine cod_seq ?_
  refine cod_seq ?_
  refine cod_region ?_
  refine lst_assign rfl rfl ?_
  refine lst_nil ?_
  refine ex_then ?_
  refine cod_block ?_
  refine cod_loop (G := Nat) (fun k => k ≤ 64) (fun k => 64 - k) (fun k => [(0, .slice A ags.length c), (1, .int .i64 (p : Int)), (5, .slice (some ⟨bL, 0, none⟩) 64 64), (6, .int .i64 (k : Int))]) (fun k => [.row 126 2 (some ⟨bL, 0, none⟩) 64 64 ((initQ p k).flatMap pcell)]) 0 (Nat.zero_le _) sbn sbl ?_
  intro k hk
  (try dsimp only at hk ⊢)
  refine cod_seq ?_
  refine cod_seq ?_
  refine cod_region ?_
  refine lst_move rfl rfl ?_
  refine lst_int rfl rfl rfl bin_leq ?_
  refine lst_nil ?_
  refine ex_then ?_
  refine cod_cond_dec rfl (fun hc0 => ?_) (fun hc0 => ?_)
  · skip
    have hk6 : k < 64 := by omega
    refine cod_skip ?_
    refine ex_then ?_
    refine cod_seq ?_
    refine cod_block ?_
    refine cod_seq ?_
    refine cod_region ?_
    refine lst_move rfl rfl ?_
    refine lst_move rfl rfl ?_
    refine lst_fn0 (vs := [_, _]) rfl rfl F.ent37 (fun a w ha => Clear_c k p hk6 hp w) ?_
    refine lst_not rfl rfl ?_
    refine lst_nil ?_
    refine ex_then ?_
    refine cod_cond_bool rfl (fun hc1 => ?_) (fun hc1 => ?_)
    · skip
      have hnk : ¬ nn k p = 0 := by simpa using hc1
      refine cod_region ?_
      refine lst_move rfl rfl ?_
      refine lst_move rfl rfl ?_
      refine lst_struct (vs := [(0, _), (1, _)]) (l' := [_, _]) rfl rfl F.ti126 F.pl126 (.cons rfl rfl (.cons rfl rfl (.nil _))) rfl ?_
      refine lst_index (j := k) rfl rfl rfl Tryd.underlying123 F.ti126 rfl hk6 ?_
      refine lst_store_row (N := 64) (xs := (initQ p k).flatMap pcell) (vs := [.int .i64 1048576, .int .i64 0]) (out := ((initQ p k).set k (farN, 0)).flatMap pcell) rfl rfl F.ti126 rfl (splice_flat pcell_len (by rw [initQ_len]; exact hk6) (farN, 0)) (by repeat (first | exact Upd.head _ | apply Upd.tail)) ?_
      refine lst_nil ?_
      refine ex_block_normal ?_
      refine ex_then ?_
      refine cod_region ?_
      refine lst_move rfl rfl ?_
      refine lst_int rfl rfl rfl (fun w => bin_add w (wrap_i64' _ (by omega) (by omega))) ?_
      refine lst_assign rfl rfl ?_
      refine lst_nil ?_
      rw [initQ_far hk6 hnk]
      refine ex_round (k + 1) (by omega) (by (try dsimp only); omega) sbn sbl
    · skip
      have hnk : nn k p = 0 := by simpa using hc1
      rw [initQ_same hk6 hnk]
      refine cod_skip ?_
      refine ex_block_normal ?_
      refine ex_then ?_
      refine cod_region ?_
      refine lst_move rfl rfl ?_
      refine lst_int rfl rfl rfl (fun w => bin_add w (wrap_i64' _ (by omega) (by omega))) ?_
      refine lst_assign rfl rfl ?_
      refine lst_nil ?_
      refine ex_round (k + 1) (by omega) (by (try dsimp only); omega) sbn sbl
  · skip
    obtain rfl : k = 64 := by omega
    refine cod_exit ?_
    refine ex_then_exit ?_
    refine ex_then_exit ?_
    refine ex_block_exit ?_
    refine ex_then ?_
    refine cod_seq ?_
    refine cod_seq ?_
    refine cod_region ?_
    refine lst_assign rfl rfl ?_
    refine lst_nil ?_
    refine ex_then ?_
    refine cod_block ?_
    refine cod_loop (G := Nat × List (Nat × Nat)) (fun g => g.1 ≤ 64 ∧ PrI ags p g.1 0 0 g.2) (fun g => 64 - g.1) (fun g => [(0, .slice A ags.length c), (1, .int .i64 (p : Int)), (5, .slice (some ⟨bL, 0, none⟩) 64 64), (7, .int .i64 (g.1 : Int))]) (fun g => [.row 126 2 (some ⟨bL, 0, none⟩) 64 64 ((g.2).flatMap pcell)]) (0, initQ p 64) ⟨Nat.zero_le _, PrI.start⟩ sbn sbl ?_
    rintro ⟨r, ps⟩ ⟨hr, hI⟩
    (try dsimp only at hr hI ⊢)
    refine cod_seq ?_
    refine cod_seq ?_
    refine cod_region ?_
    refine lst_move rfl rfl ?_
    refine lst_int rfl rfl rfl bin_leq ?_
    refine lst_nil ?_
    refine ex_then ?_
    refine cod_cond_dec rfl (fun hc2 => ?_) (fun hc2 => ?_)
    · skip
      refine cod_skip ?_
      refine ex_then ?_
      refine cod_seq ?_
      refine cod_block ?_
      refine cod_seq ?_
      refine cod_region ?_
      refine lst_assign rfl rfl ?_
      refine lst_nil ?_
      refine ex_then ?_
      refine cod_block ?_
      refine cod_loop (G := Nat × List (Nat × Nat)) (fun g => g.1 ≤ 64 ∧ PrI ags p r g.1 0 g.2) (fun g => 64 - g.1) (fun g => [(0, .slice A ags.length c), (1, .int .i64 (p : Int)), (5, .slice (some ⟨bL, 0, none⟩) 64 64), (7, .int .i64 (r : Int)), (8, .int .i64 (g.1 : Int))]) (fun g => [.row 126 2 (some ⟨bL, 0, none⟩) 64 64 ((g.2).flatMap pcell)]) (0, ps) ⟨Nat.zero_le _, hI⟩ sbn sbl ?_
      rintro ⟨m, ps⟩ ⟨hm, hI⟩
      (try dsimp only at hm hI ⊢)
      refine cod_seq ?_
      refine cod_seq ?_
      refine cod_region ?_
      refine lst_move rfl rfl ?_
      refine lst_int rfl rfl rfl bin_leq ?_
      refine lst_nil ?_
      refine ex_then ?_
      refine cod_cond_dec rfl (fun hc3 => ?_) (fun hc3 => ?_)
      · skip
        have hm6 : m < 64 := by omega
        refine cod_skip ?_
        refine ex_then ?_
        refine cod_seq ?_
        refine cod_block ?_
        refine cod_seq ?_
        refine cod_region ?_
        refine lst_assign rfl rfl ?_
        refine lst_nil ?_
        refine ex_then ?_
        refine cod_block ?_
        refine cod_loop (G := Nat × List (Nat × Nat)) (fun g => g.1 ≤ ags.length ∧ PrI ags p r m g.1 g.2) (fun g => ags.length - g.1) (fun g => [(0, .slice A ags.length c), (1, .int .i64 (p : Int)), (5, .slice (some ⟨bL, 0, none⟩) 64 64), (7, .int .i64 (r : Int)), (8, .int .i64 (m : Int)), (9, .int .i64 (g.1 : Int))]) (fun g => [.row 126 2 (some ⟨bL, 0, none⟩) 64 64 ((g.2).flatMap pcell)]) (0, ps) ⟨Nat.zero_le _, hI⟩ sbn sbl ?_
        rintro ⟨i, ps⟩ ⟨hi, hI⟩
        (try dsimp only at hi hI ⊢)
        refine cod_seq ?_
        refine cod_seq ?_
        refine cod_region ?_
        refine lst_move rfl rfl ?_
        refine lst_move rfl rfl ?_
        refine lst_len rfl rfl Tryd.underlying22 ?_
        refine lst_int rfl rfl rfl bin_lss ?_
        refine lst_nil ?_
        refine ex_then ?_
        refine cod_cond_dec rfl (fun hc4 => ?_) (fun hc4 => ?_)
        · skip
          have hi0 : i < ags.length := by omega
          have hk' : i < ags.length := by omega
          obtain ⟨b, o, rfl, hb, hcell⟩ := hA (by omega)
          obtain ⟨x, hx⟩ : ∃ x, ags[i]? = some x := ⟨_, List.getElem?_eq_getElem hk'⟩
          have hxo : x.ok := hok.2 x (List.mem_of_getElem? hx)
          have hxd : ags.getD i default = x := by rw [List.getD_eq_getElem?_getD, hx]; rfl
          have h4 := hok.1
          have hlen := hI.len
          have hg6 : putN x m < 64 := putN_lt hxo hm6
          obtain ⟨r0, hr0⟩ : ∃ n, ps[m]? = some n := ⟨_, List.getElem?_eq_getElem (by omega)⟩
          have hrd : ps.getD m (0, 0) = r0 := by rw [List.getD_eq_getElem?_getD, hr0]; rfl
          obtain ⟨q, hq⟩ : ∃ n, ps[(putN x m)]? = some n := ⟨_, List.getElem?_eq_getElem (by omega)⟩
          have hqd : ps.getD (putN x m) (0, 0) = q := by rw [List.getD_eq_getElem?_getD, hq]; rfl
          have htq := hI.top hok hg6
          rw [hqd] at htq
          unfold farN at htq
          have hxc := hxo.cost
          refine cod_skip ?_
          refine ex_then ?_
          refine cod_seq ?_
          refine cod_block ?_
          refine cod_seq ?_
          refine cod_seq ?_
          cases hmy : mayN x m
          · skip
            refine cod_region ?_
            refine lst_move rfl rfl ?_
            refine lst_move rfl rfl ?_
            refine lst_index (j := i) rfl rfl rfl Tryd.underlying22 F.ti24 rfl hk' ?_
            refine lst_loadN_at (l := [.int .i64 (x.needs : Int), .int .i64 (x.no : Int), .int .i64 (x.takes : Int), .int .i64 (x.leaves : Int), .int .i64 (x.cost : Int)]) rfl rfl F.agg24 F.ti24 rfl (fun a w ha j u hu => ha.old (hcell i x hx j u hu) hb) ?_
            refine lst_move rfl rfl ?_
            refine lst_fn0 (vs := [_, _]) rfl rfl F.ent97 (fun a w ha => rmay_c x m hxo hm6 w) ?_
            rw [hmy]
            refine lst_not rfl rfl ?_
            refine lst_move rfl rfl ?_
            refine lst_off rfl rfl rfl ?_
            refine lst_off rfl rfl rfl ?_
            refine lst_off rfl rfl rfl ?_
            refine lst_off rfl rfl rfl ?_
            refine lst_off rfl rfl rfl ?_
            refine lst_off rfl rfl rfl ?_
            refine lst_off rfl rfl rfl ?_
            refine lst_off rfl rfl rfl ?_
            refine lst_off rfl rfl rfl ?_
            refine lst_off rfl rfl rfl ?_
            refine lst_off rfl rfl rfl ?_
            refine lst_pick_true rfl rfl rfl ?_
            refine lst_nil ?_
            refine ex_then ?_
            refine cod_cond_true rfl ?_
            refine cod_exit ?_
            refine ex_then_exit ?_
            refine ex_block_exit ?_
            refine ex_then ?_
            refine cod_region ?_
            refine lst_move rfl rfl ?_
            refine lst_int rfl rfl rfl (fun w => bin_add w (wrap_i64' _ (by omega) (by omega))) ?_
            refine lst_assign rfl rfl ?_
            refine lst_nil ?_
            have hI2 := hI.bar (i := i) (fun h => by have := (can_all.1 h).2; rw [hxd, hmy] at this; cases this)
            refine ex_round (i + 1, ps) ⟨by omega, hI2⟩ (by (try dsimp only); omega) sbn sbl
          · skip
            refine cod_region ?_
            refine lst_move rfl rfl ?_
            refine lst_move rfl rfl ?_
            refine lst_index (j := i) rfl rfl rfl Tryd.underlying22 F.ti24 rfl hk' ?_
            refine lst_loadN_at (l := [.int .i64 (x.needs : Int), .int .i64 (x.no : Int), .int .i64 (x.takes : Int), .int .i64 (x.leaves : Int), .int .i64 (x.cost : Int)]) rfl rfl F.agg24 F.ti24 rfl (fun a w ha j u hu => ha.old (hcell i x hx j u hu) hb) ?_
            refine lst_move rfl rfl ?_
            refine lst_fn0 (vs := [_, _]) rfl rfl F.ent97 (fun a w ha => rmay_c x m hxo hm6 w) ?_
            rw [hmy]
            refine lst_not rfl rfl ?_
            refine lst_move rfl rfl ?_
            refine lst_on rfl rfl ?_
            refine lst_move rfl rfl ?_
            refine lst_on rfl rfl ?_
            refine lst_move rfl rfl ?_
            refine lst_on rfl rfl ?_
            refine lst_move rfl rfl ?_
            refine lst_on rfl rfl ?_
            refine lst_index (j := i) rfl rfl rfl Tryd.underlying22 F.ti24 rfl hk' ?_
            refine lst_on rfl rfl ?_
            refine lst_loadN_at (l := [.int .i64 (x.needs : Int), .int .i64 (x.no : Int), .int .i64 (x.takes : Int), .int .i64 (x.leaves : Int), .int .i64 (x.cost : Int)]) rfl rfl F.agg24 F.ti24 rfl (fun a w ha j u hu => ha.old (hcell i x hx j u hu) hb) ?_
            refine lst_on rfl rfl ?_
            refine lst_move rfl rfl ?_
            refine lst_on rfl rfl ?_
            refine lst_fn0 (vs := [_, _]) rfl rfl F.ent94 (fun a w ha => rafter_c x m hxo hm6 w) ?_
            refine lst_on rfl rfl ?_
            refine lst_index (j := putN x m) rfl rfl rfl Tryd.underlying123 F.ti126 rfl hg6 ?_
            refine lst_on rfl rfl ?_
            refine lst_field rfl rfl F.fi126_0 F.ti3 ?_
            refine lst_on rfl rfl ?_
            refine lst_load_at (v := .int .i64 (q.1 : Int)) rfl rfl F.one3 (fun a w ha => row_at ha (e := 126) (n := 64) (c := 64) (cells := pcell) (j := 0) (InR.mem (A := (some ⟨bL, 0, none⟩))) (fun _ => rfl) hq rfl) ?_
            refine lst_on rfl rfl ?_
            refine lst_int rfl rfl rfl bin_geq ?_
            refine lst_pick_false rfl rfl rfl ?_
            refine lst_nil ?_
            refine ex_then ?_
            refine cod_cond_dec rfl (fun hc5 => ?_) (fun hc5 => ?_)
            · skip
              refine cod_exit ?_
              refine ex_then_exit ?_
              refine ex_block_exit ?_
              refine ex_then ?_
              refine cod_region ?_
              refine lst_move rfl rfl ?_
              refine lst_int rfl rfl rfl (fun w => bin_add w (wrap_i64' _ (by omega) (by omega))) ?_
              refine lst_assign rfl rfl ?_
              refine lst_nil ?_
              have hI2 := hI.far (i := i) (by rw [hxd]; exact hg6) (by rw [hxd, hqd]; unfold farN; omega)
              refine ex_round (i + 1, ps) ⟨by omega, hI2⟩ (by (try dsimp only); omega) sbn sbl
            · skip
              refine cod_skip ?_
              refine ex_then ?_
              refine cod_seq ?_
              refine cod_region ?_
              refine lst_move rfl rfl ?_
              refine lst_move rfl rfl ?_
              refine lst_move rfl rfl ?_
              refine lst_index (j := i) rfl rfl rfl Tryd.underlying22 F.ti24 rfl hk' ?_
              refine lst_loadN_at (l := [.int .i64 (x.needs : Int), .int .i64 (x.no : Int), .int .i64 (x.takes : Int), .int .i64 (x.leaves : Int), .int .i64 (x.cost : Int)]) rfl rfl F.agg24 F.ti24 rfl (fun a w ha j u hu => ha.old (hcell i x hx j u hu) hb) ?_
              refine lst_move rfl rfl ?_
              refine lst_fn0 (vs := [_, _]) rfl rfl F.ent94 (fun a w ha => rafter_c x m hxo hm6 w) ?_
              refine lst_index (j := putN x m) rfl rfl rfl Tryd.underlying123 F.ti126 rfl hg6 ?_
              refine lst_loadN_at (l := [.int .i64 (q.1 : Int), .int .i64 (q.2 : Int)]) rfl rfl F.agg126 F.ti126 rfl (fun a w ha j u hu => row_at ha (e := 126) (n := 64) (c := 64) (cells := pcell) (InR.mem (A := (some ⟨bL, 0, none⟩))) (fun _ => rfl) hq hu) ?_
              refine lst_alloc rfl F.ti126 ?_
              intro b10
              refine lst_store rfl rfl F.ti126 rfl ?_
              refine lst_nil ?_
              refine ex_then ?_
              refine cod_seq ?_
              refine any_begin [.b b10] F.follows 13 rfl [false, false, false, false, false, false, false, false, false, false, false, false, false] rfl ?_
              refine any_tk 0 rfl rfl rfl (yld_field_z rfl F.fi126_0 F.ti3) ?_
              refine any_tk 2 rfl rfl rfl (yld_move rfl) ?_
              refine any_tk 3 rfl rfl rfl (yld_move rfl) ?_
              refine any_tk 4 rfl rfl rfl (yld_index (j := i) rfl rfl Tryd.underlying22 F.ti24 rfl hk') ?_
              refine any_tk 5 rfl rfl rfl (yld_field rfl F.fi24_4 F.ti3) ?_
              refine any_tk 6 rfl rfl rfl (yld_load_at (v := .int .i64 (x.cost : Int)) rfl F.one3 (fun a w ha => ha.old (hcell i x hx 4 _ rfl) hb)) ?_
              refine any_tk 8 rfl rfl rfl (yld_field_z rfl F.fi126_1 F.ti3) ?_
              refine any_two 1 9 (by kernel_rfl) rfl rfl rfl rfl ?_ ?_
              · skip
                refine lst_load rfl rfl F.one3 ?_
                refine lst_nil ?_
                refine any_next sbl ?_
                refine any_tk 7 rfl rfl rfl (yld_int (v := .int .i64 ((q.1 + x.cost : Nat) : Int)) rfl rfl (fun w => bin_add w (by rw [wrap_i64' _ (by omega) (by omega)]; omega))) ?_
                refine any_one 9 (by kernel_rfl) rfl rfl ?_
                refine lst_load rfl rfl F.one3 ?_
                refine lst_nil ?_
                refine any_next sbl ?_
                refine any_tk 10 rfl rfl rfl (yld_int (v := .int .i64 ((q.2 + 1 : Nat) : Int)) rfl rfl (fun w => bin_add w (by rw [wrap_i64' _ (by omega) (by omega)]; omega))) ?_
                refine any_tk 11 rfl rfl rfl (yld_struct (vs := [(0, _), (1, _)]) (l' := [_, _]) rfl F.ti126 F.pl126 (.cons rfl rfl (.cons rfl rfl (.nil _))) rfl) ?_
                refine any_one 12 (by kernel_rfl) rfl rfl ?_
                refine lst_store rfl rfl F.ti126 rfl ?_
                refine lst_nil ?_
                refine any_next sbl ?_
                refine any_done rfl (by kernel_rfl) ?_
                refine ex_then ?_
                refine cod_seq ?_
                refine any_begin [] F.follows 6 rfl [false, false, false, false, false, false] rfl ?_
                refine any_tk 0 rfl rfl rfl (yld_loadN rfl F.agg126 F.ti126) ?_
                refine any_tk 1 rfl rfl rfl (yld_move rfl) ?_
                refine any_tk 2 rfl rfl rfl (yld_move rfl) ?_
                refine any_tk 3 rfl rfl rfl (yld_index (j := m) rfl rfl Tryd.underlying123 F.ti126 rfl hm6) ?_
                refine any_tk 4 rfl rfl rfl (yld_loadN_at (l := [.int .i64 (r0.1 : Int), .int .i64 (r0.2 : Int)]) rfl F.agg126 F.ti126 rfl (fun a w ha j u hu => row_at ha (e := 126) (n := 64) (c := 64) (cells := pcell) (InR.mem (A := (some ⟨bL, 0, none⟩))) (fun _ => rfl) hr0 hu)) ?_
                refine any_one 5 (by kernel_rfl) rfl rfl ?_
                refine lst_fn0 (vs := [_, _]) rfl rfl F.ent124 (fun a w ha => below_c (q.1 + x.cost, q.2 + 1) r0 w) ?_
                refine lst_nil ?_
                refine any_next sbl ?_
                refine any_done rfl (by kernel_rfl) ?_
                refine ex_then ?_
                refine cod_cond_bool rfl (fun hc6 => ?_) (fun hc6 => ?_)
                · skip
                  refine cod_region ?_
                  refine lst_move rfl rfl ?_
                  refine lst_move rfl rfl ?_
                  refine lst_loadN rfl rfl F.agg126 F.ti126 ?_
                  refine lst_index (j := m) rfl rfl rfl Tryd.underlying123 F.ti126 rfl hm6 ?_
                  refine lst_store_row (N := 64) (xs := (ps).flatMap pcell) (vs := [.int .i64 ((q.1 + x.cost : Nat) : Int), .int .i64 ((q.2 + 1 : Nat) : Int)]) (out := (ps.set m (q.1 + x.cost, q.2 + 1)).flatMap pcell) rfl rfl F.ti126 rfl (splice_flat pcell_len (by omega) (q.1 + x.cost, q.2 + 1)) (by repeat (first | exact Upd.head _ | apply Upd.tail)) ?_
                  refine lst_nil ?_
                  refine ex_block_normal ?_
                  refine ex_then ?_
                  refine cod_region ?_
                  refine lst_move rfl rfl ?_
                  refine lst_int rfl rfl rfl (fun w => bin_add w (wrap_i64' _ (by omega) (by omega))) ?_
                  refine lst_assign rfl rfl ?_
                  refine lst_nil ?_
                  have hI2 := hI.put hm6 (can_all.2 ⟨hk', by rw [hxd]; exact hmy⟩) (by rw [hxd]; exact hg6) (by rw [hxd, hqd]; unfold farN; omega) (by rw [hxd, hqd, hrd]; exact hc6)
                  rw [hxd, hqd] at hI2
                  refine ex_round (i + 1, ps.set m (q.1 + x.cost, q.2 + 1)) ⟨by omega, hI2⟩ (by (try dsimp only); omega) sbn sbl
                · skip
                  refine cod_skip ?_
                  refine ex_block_normal ?_
                  refine ex_then ?_
                  refine cod_region ?_
                  refine lst_move rfl rfl ?_
                  refine lst_int rfl rfl rfl (fun w => bin_add w (wrap_i64' _ (by omega) (by omega))) ?_
                  refine lst_assign rfl rfl ?_
                  refine lst_nil ?_
                  have hI2 := hI.keep (i := i) (by rw [hxd]; exact hg6) (by rw [hxd, hqd, hrd]; exact hc6)
                  refine ex_round (i + 1, ps) ⟨by omega, hI2⟩ (by (try dsimp only); omega) sbn sbl
              · skip
                refine lst_load rfl rfl F.one3 ?_
                refine lst_nil ?_
                refine any_next sbl ?_
                refine any_tk 10 rfl rfl rfl (yld_int (v := .int .i64 ((q.2 + 1 : Nat) : Int)) rfl rfl (fun w => bin_add w (by rw [wrap_i64' _ (by omega) (by omega)]; omega))) ?_
                refine any_one 1 (by kernel_rfl) rfl rfl ?_
                refine lst_load rfl rfl F.one3 ?_
                refine lst_nil ?_
                refine any_next sbl ?_
                refine any_tk 7 rfl rfl rfl (yld_int (v := .int .i64 ((q.1 + x.cost : Nat) : Int)) rfl rfl (fun w => bin_add w (by rw [wrap_i64' _ (by omega) (by omega)]; omega))) ?_
                refine any_tk 11 rfl rfl rfl (yld_struct (vs := [(0, _), (1, _)]) (l' := [_, _]) rfl F.ti126 F.pl126 (.cons rfl rfl (.cons rfl rfl (.nil _))) rfl) ?_
                refine any_one 12 (by kernel_rfl) rfl rfl ?_
                refine lst_store rfl rfl F.ti126 rfl ?_
                refine lst_nil ?_
                refine any_next sbl ?_
                refine any_done rfl (by kernel_rfl) ?_
                refine ex_then ?_
                refine cod_seq ?_
                refine any_begin [] F.follows 6 rfl [false, false, false, false, false, false] rfl ?_
                refine any_tk 0 rfl rfl rfl (yld_loadN rfl F.agg126 F.ti126) ?_
                refine any_tk 1 rfl rfl rfl (yld_move rfl) ?_
                refine any_tk 2 rfl rfl rfl (yld_move rfl) ?_
                refine any_tk 3 rfl rfl rfl (yld_index (j := m) rfl rfl Tryd.underlying123 F.ti126 rfl hm6) ?_
                refine any_tk 4 rfl rfl rfl (yld_loadN_at (l := [.int .i64 (r0.1 : Int), .int .i64 (r0.2 : Int)]) rfl F.agg126 F.ti126 rfl (fun a w ha j u hu => row_at ha (e := 126) (n := 64) (c := 64) (cells := pcell) (InR.mem (A := (some ⟨bL, 0, none⟩))) (fun _ => rfl) hr0 hu)) ?_
                refine any_one 5 (by kernel_rfl) rfl rfl ?_
                refine lst_fn0 (vs := [_, _]) rfl rfl F.ent124 (fun a w ha => below_c (q.1 + x.cost, q.2 + 1) r0 w) ?_
                refine lst_nil ?_
                refine any_next sbl ?_
                refine any_done rfl (by kernel_rfl) ?_
                refine ex_then ?_
                refine cod_cond_bool rfl (fun hc6 => ?_) (fun hc6 => ?_)
                · skip
                  refine cod_region ?_
                  refine lst_move rfl rfl ?_
                  refine lst_move rfl rfl ?_
                  refine lst_loadN rfl rfl F.agg126 F.ti126 ?_
                  refine lst_index (j := m) rfl rfl rfl Tryd.underlying123 F.ti126 rfl hm6 ?_
                  refine lst_store_row (N := 64) (xs := (ps).flatMap pcell) (vs := [.int .i64 ((q.1 + x.cost : Nat) : Int), .int .i64 ((q.2 + 1 : Nat) : Int)]) (out := (ps.set m (q.1 + x.cost, q.2 + 1)).flatMap pcell) rfl rfl F.ti126 rfl (splice_flat pcell_len (by omega) (q.1 + x.cost, q.2 + 1)) (by repeat (first | exact Upd.head _ | apply Upd.tail)) ?_
                  refine lst_nil ?_
                  refine ex_block_normal ?_
                  refine ex_then ?_
                  refine cod_region ?_
                  refine lst_move rfl rfl ?_
                  refine lst_int rfl rfl rfl (fun w => bin_add w (wrap_i64' _ (by omega) (by omega))) ?_
                  refine lst_assign rfl rfl ?_
                  refine lst_nil ?_
                  have hI2 := hI.put hm6 (can_all.2 ⟨hk', by rw [hxd]; exact hmy⟩) (by rw [hxd]; exact hg6) (by rw [hxd, hqd]; unfold farN; omega) (by rw [hxd, hqd, hrd]; exact hc6)
                  rw [hxd, hqd] at hI2
                  refine ex_round (i + 1, ps.set m (q.1 + x.cost, q.2 + 1)) ⟨by omega, hI2⟩ (by (try dsimp only); omega) sbn sbl
                · skip
                  refine cod_skip ?_
                  refine ex_block_normal ?_
                  refine ex_then ?_
                  refine cod_region ?_
                  refine lst_move rfl rfl ?_
                  refine lst_int rfl rfl rfl (fun w => bin_add w (wrap_i64' _ (by omega) (by omega))) ?_
                  refine lst_assign rfl rfl ?_
                  refine lst_nil ?_
                  have hI2 := hI.keep (i := i) (by rw [hxd]; exact hg6) (by rw [hxd, hqd, hrd]; exact hc6)
                  refine ex_round (i + 1, ps) ⟨by omega, hI2⟩ (by (try dsimp only); omega) sbn sbl
        · skip
          obtain rfl : i = ags.length := by omega
          have hI2 := hI.next
          refine cod_exit ?_
          refine ex_then_exit ?_
          refine ex_then_exit ?_
          refine ex_block_exit ?_
          refine ex_block_normal ?_
          refine ex_then ?_
          refine cod_region ?_
          refine lst_move rfl rfl ?_
          refine lst_int rfl rfl rfl (fun w => bin_add w (wrap_i64' _ (by omega) (by omega))) ?_
          refine lst_assign rfl rfl ?_
          refine lst_nil ?_
          refine ex_round (m + 1, ps) ⟨by omega, hI2⟩ (by (try dsimp only); omega) sbn sbl
      · skip
        obtain rfl : m = 64 := by omega
        have hI2 := hI.round
        refine cod_exit ?_
        refine ex_then_exit ?_
        refine ex_then_exit ?_
        refine ex_block_exit ?_
        refine ex_block_normal ?_
        refine ex_then ?_
        refine cod_region ?_
        refine lst_move rfl rfl ?_
        refine lst_int rfl rfl rfl (fun w => bin_add w (wrap_i64' _ (by omega) (by omega))) ?_
        refine lst_assign rfl rfl ?_
        refine lst_nil ?_
        refine ex_round (r + 1, ps) ⟨by omega, hI2⟩ (by (try dsimp only); omega) sbn sbl
    · skip
      obtain rfl : r = 64 := by omega
      refine cod_exit ?_
      refine ex_then_exit ?_
      refine ex_then_exit ?_
      refine ex_block_exit ?_
      refine ex_then ?_
      refine cod_seq ?_
      refine cod_region ?_
      refine lst_move rfl rfl ?_
      refine lst_assign rfl rfl ?_
      refine lst_nil ?_
      refine ex_then ?_
      refine cod_ret ?_
      exact ex_ret rfl (fun a w ha => res_one rfl rfl ha) (fun a w ha => ⟨ps, bL, hI.fin hok, rfl, ha.grown sbl⟩)

end Go.Proofs.YtofkhehcnfiopaaDoor.N
namespace Go.Proofs.YtofkhehcnfiopaaDoor.N
open Go Go.RowKit Go.Proofs
set_option linter.unusedSectionVars false
variable [I : Sys] [R : Rea]
theorem F.ent107 : Enters Tryd.prog 107 := enters_of Tryd.func107 rfl (by kernel_rfl)
theorem rCheapest_ok (A : Option Addr) (c : Nat) (ags : List Ag) (hok : Oks ags) (f p : Nat) (hf : f < 64) (hp : p < 64) (w : World) (hA : RdL Ag.cells 5 w A ags) : Calls Tryd.prog 62 #[.slice A ags.length c, .int .i64 (f : Int), .int .i64 (p : Int)] w fun e w' => ∃ (W : List Nat) (k E : Nat) (A' : Option Addr) (c' : Nat), ChC ags (usedAll ags.length) p f W k E ∧ e = .returned (.tuple #[.slice A' W.length c', .int .i64 (k : Int), .int .i64 (E : Int)]) ∧ Grew w w' [.row 3 1 A' W.length c' (ints W)] := by
  refine enter (N := 97) [(0, .slice A ags.length c), (1, .int .i64 (f : Int)), (2, .int .i64 (p : Int))] Tryd.func62 rfl Tryd.ntmps62 rfl rfl ?_
  refine cod_seq ?_
  refine cod_region ?_
  refine lst_assign rfl rfl ?_
  refine lst_assign rfl rfl ?_
  refine lst_assign rfl rfl ?_
  refine lst_nil ?_
  refine ex_then ?_
  refine cod_seq ?_
  refine cod_seq ?_
  refine cod_region ?_
  refine lst_move rfl rfl ?_
  refine lst_move rfl rfl ?_
  refine lst_move rfl rfl ?_
  refine lst_fn0 (v := .int .i64 0) (vs := [_, _, _]) rfl rfl F.ent86 (fun a w ha => by
    have h := asked_c A c (ags.map Ag.raw) (f : Int) (p : Int) w (hA.raw.later ha.below)
    rw [List.length_map, askedR_ok hok hf (by omega)] at h
    exact h) ?_
  refine lst_assign rfl rfl ?_
  refine lst_nil ?_
  refine ex_then ?_
  refine cod_seq ?_
  refine cod_region ?_
  refine lst_move rfl rfl ?_
  refine lst_int rfl rfl rfl bin_neq ?_
  refine lst_nil ?_
  refine ex_then ?_
  refine cod_cond_false rfl ?_
  refine cod_skip ?_
  refine ex_then ?_
  refine cod_seq ?_
  refine cod_region ?_
  refine lst_move rfl rfl ?_
  refine lst_move rfl rfl ?_
  refine lst_fn (X := List (Nat × Nat) × Nat) (vs := [_, _]) (p := fun y => PrS ags p y.1) (val := fun y => .slice (some ⟨y.2, 0, none⟩) 64 64) (rs := fun y => [.row 126 2 (some ⟨y.2, 0, none⟩) 64 64 (y.1.flatMap pcell)]) rfl rfl F.ent107 (fun a w ha => (rPrices_c A c ags hok p hp w (hA.later ha.below)).mono (fun e w' h => by obtain ⟨ps, b, h1, h2, h3⟩ := h; exact ⟨(ps, b), h1, h2, h3⟩)) ?_
  rintro ⟨ps, bP⟩ hS0
  dsimp only [List.cons_append, List.nil_append] at hS0 ⊢
  have hlen := hS0.len
  obtain ⟨n, hn⟩ : ∃ n, ps[f]? = some n := ⟨_, List.getElem?_eq_getElem (by omega)⟩
  have hnd : ps.getD f (0, 0) = n := by rw [List.getD_eq_getElem?_getD, hn]; rfl
  have htn := hS0.top f hf
  have hfar := hS0.far f hf
  rw [hnd] at htn hfar
  unfold farN at htn hfar
  refine lst_assign rfl rfl ?_
  refine lst_nil ?_
  refine ex_then ?_
  refine cod_seq ?_
  refine cod_region ?_
  refine lst_move rfl rfl ?_
  refine lst_move rfl rfl ?_
  refine lst_index (j := f) rfl rfl rfl Tryd.underlying123 F.ti126 rfl hf ?_
  refine lst_field rfl rfl F.fi126_0 F.ti3 ?_
  refine lst_load_at (v := .int .i64 (n.1 : Int)) rfl rfl F.one3 (fun a w ha => row_at ha (e := 126) (n := 64) (c := 64) (cells := pcell) (j := 0) (InR.mem (A := (some ⟨bP, 0, none⟩))) (fun _ => rfl) hn rfl) ?_
  refine lst_assign rfl rfl ?_
  refine lst_nil ?_
  refine ex_then ?_
  refine cod_seq ?_
  refine cod_seq ?_
  refine cod_region ?_
  refine lst_move rfl rfl ?_
  refine lst_int rfl rfl rfl bin_geq ?_
  refine lst_nil ?_
  refine ex_then ?_
  refine cod_cond_dec rfl (fun hc1 => ?_) (fun hc1 => ?_)
  · skip
    refine cod_seq ?_
    refine cod_region ?_
    refine lst_assign rfl rfl ?_
    refine lst_assign rfl rfl ?_
    refine lst_assign rfl rfl ?_
    refine lst_nil ?_
    refine ex_then ?_
    refine cod_ret ?_
    refine ex_then_ret ?_
    exact ex_ret rfl (fun a w ha => res_three rfl rfl rfl rfl ha) (fun a w ha => ⟨[], 0, 11, none, 0, ⟨fun h => absurd h (by decide), fun _ => ⟨rfl, rfl, rfl, hfar.1 (by omega)⟩⟩, rfl, (ha.add_nil 3 1).grown sbl⟩)
  · skip
    have hnf : (ps.getD f (0, 0)).1 < farN := by rw [hnd]; unfold farN; omega
    refine cod_skip ?_
    refine ex_then ?_
    refine cod_seq ?_
    refine cod_region ?_
    refine lst_assign rfl rfl ?_
    refine lst_nil ?_
    refine ex_then ?_
    refine cod_seq ?_
    refine cod_block ?_
    refine cod_nil 3 1 ?_
    refine cod_loop' (G := Nat × List Nat × Option Addr × Nat) (fun g => g.1 < 64 ∧ (ps.getD g.1 (0, 0)).1 < farN ∧ g.2.1.length + (ps.getD g.1 (0, 0)).2 = n.2 ∧ ∀ W, Cn ags (usedAll ags.length) p g.1 W → Cn ags (usedAll ags.length) p f (g.2.1 ++ W)) (fun g => (ps.getD g.1 (0, 0)).2) (fun g => [(0, .slice A ags.length c), (1, .int .i64 (g.1 : Int)), (10, .slice (some ⟨bP, 0, none⟩) 64 64), (11, .int .i64 (n.1 : Int)), (12, .slice g.2.2.1 g.2.1.length g.2.2.2)]) (fun g => [.row 3 1 g.2.2.1 g.2.1.length g.2.2.2 (ints g.2.1), .row 126 2 (some ⟨bP, 0, none⟩) 64 64 ((ps).flatMap pcell)]) (f, [], none, 0) ⟨hf, hnf, by (try dsimp only); rw [hnd]; simp, fun W h => h⟩ sbn pkk ?_
    rintro ⟨m, out, A1, c1⟩ ⟨hm6, hmn, hml, hS⟩
    dsimp only at hm6 hmn hml hS ⊢
    have hmn0 := hmn
    have hnoth : True := trivial
    obtain ⟨r0, hr0⟩ : ∃ n, ps[m]? = some n := ⟨_, List.getElem?_eq_getElem (by omega)⟩
    have hrd : ps.getD m (0, 0) = r0 := by rw [List.getD_eq_getElem?_getD, hr0]; rfl
    have htm := hS0.top m hm6
    rw [hrd] at htm hmn hml
    unfold farN at htm
    refine cod_seq ?_
    refine cod_seq ?_
    refine cod_region ?_
    refine lst_move rfl rfl ?_
    refine lst_move rfl rfl ?_
    refine lst_index (j := m) rfl rfl rfl Tryd.underlying123 F.ti126 rfl hm6 ?_
    refine lst_field rfl rfl F.fi126_1 F.ti3 ?_
    refine lst_load_at (v := .int .i64 (r0.2 : Int)) rfl rfl F.one3 (fun a w ha => row_at ha (e := 126) (n := 64) (c := 64) (cells := pcell) (j := 1) (InR.mem (A := (some ⟨bP, 0, none⟩))) (fun _ => rfl) hr0 rfl) ?_
    refine lst_int rfl rfl rfl bin_gtr ?_
    refine lst_nil ?_
    refine ex_then ?_
    refine cod_cond_dec rfl (fun hc2 => ?_) (fun hc2 => ?_)
    · skip
      have hr20 : 0 < r0.2 := by omega
      refine cod_skip ?_
      refine ex_then ?_
      refine cod_block ?_
      refine cod_seq ?_
      refine cod_region ?_
      refine lst_assign rfl rfl ?_
      refine lst_nil ?_
      refine ex_then ?_
      refine cod_block ?_
      refine cod_loop' (G := Nat) (fun g => g ≤ ags.length ∧ ∀ j, j < g → ¬ Pick ags ps m j) (fun g => ags.length - g) (fun g => [(0, .slice A ags.length c), (1, .int .i64 (m : Int)), (10, .slice (some ⟨bP, 0, none⟩) 64 64), (11, .int .i64 (n.1 : Int)), (12, .slice A1 out.length c1), (13, .int .i64 (g : Int))]) (fun g => [.row 3 1 A1 out.length c1 (ints out), .row 126 2 (some ⟨bP, 0, none⟩) 64 64 ((ps).flatMap pcell)]) (0) ⟨Nat.zero_le _, fun j h => absurd h (Nat.not_lt_zero _)⟩ sbn pkk ?_
      rintro i ⟨hi, hno⟩
      try dsimp only at hi hno ⊢
      refine cod_seq ?_
      refine cod_seq ?_
      refine cod_region ?_
      refine lst_move rfl rfl ?_
      refine lst_move rfl rfl ?_
      refine lst_len rfl rfl Tryd.underlying22 ?_
      refine lst_int rfl rfl rfl bin_lss ?_
      refine lst_nil ?_
      refine ex_then ?_
      refine cod_cond_dec rfl (fun hc3 => ?_) (fun hc3 => ?_)
      · skip
        have hi0 : i < ags.length := by omega
        have hk' : i < ags.length := by omega
        obtain ⟨b, o, rfl, hb, hcell⟩ := hA (by omega)
        obtain ⟨x, hx⟩ : ∃ x, ags[i]? = some x := ⟨_, List.getElem?_eq_getElem hk'⟩
        have hxo : x.ok := hok.2 x (List.mem_of_getElem? hx)
        have hxd : ags.getD i default = x := by rw [List.getD_eq_getElem?_getD, hx]; rfl
        have h4 := hok.1
        have hg6 : putN x m < 64 := putN_lt hxo hm6
        obtain ⟨q, hq⟩ : ∃ n, ps[(putN x m)]? = some n := ⟨_, List.getElem?_eq_getElem (by omega)⟩
        have hqd : ps.getD (putN x m) (0, 0) = q := by rw [List.getD_eq_getElem?_getD, hq]; rfl
        have htq := hS0.top _ hg6
        rw [hqd] at htq
        unfold farN at htq
        have hxc := hxo.cost
        have hpk := Pick.dec (ps := ps) (m := m) hk'
        rw [hxd, hqd, hrd] at hpk
        refine cod_skip ?_
        refine ex_then ?_
        refine cod_seq ?_
        refine cod_block ?_
        refine cod_seq ?_
        refine cod_seq ?_
        refine cod_region ?_
        refine lst_move rfl rfl ?_
        refine lst_move rfl rfl ?_
        refine lst_index (j := i) rfl rfl rfl Tryd.underlying22 F.ti24 rfl hk' ?_
        refine lst_loadN_at (l := [.int .i64 (x.needs : Int), .int .i64 (x.no : Int), .int .i64 (x.takes : Int), .int .i64 (x.leaves : Int), .int .i64 (x.cost : Int)]) rfl rfl F.agg24 F.ti24 rfl (fun a w ha j u hu => ha.old (hcell i x hx j u hu) hb) ?_
        refine lst_move rfl rfl ?_
        refine lst_fn0 (vs := [_, _]) rfl rfl F.ent97 (fun a w ha => rmay_c x m hxo hm6 w) ?_
        refine lst_not rfl rfl ?_
        refine lst_nil ?_
        refine ex_then ?_
        refine cod_cond_bool rfl (fun hc4 => ?_) (fun hc4 => ?_)
        · skip
          have hmy : mayN x m = false := by simpa using hc4
          have hnp : ¬ Pick ags ps m i := fun h => by have := (hpk.1 h).1; rw [hmy] at this; cases this
          refine cod_exit ?_
          refine ex_then_exit ?_
          refine ex_block_exit ?_
          refine ex_then ?_
          refine cod_region ?_
          refine lst_move rfl rfl ?_
          refine lst_int rfl rfl rfl (fun w => bin_add w (wrap_i64' _ (by omega) (by omega))) ?_
          refine lst_assign rfl rfl ?_
          refine lst_nil ?_
          refine ex_round' (i + 1) ⟨by (try dsimp only); omega, fun j hj => by
            rcases Nat.lt_succ_iff_lt_or_eq.1 hj with h1 | rfl
            · exact hno j h1
            · exact hnp⟩ (by (try dsimp only); omega) sbn pkk
        · skip
          have hmy : mayN x m = true := by simpa using hc4
          refine cod_skip ?_
          refine ex_then ?_
          refine cod_seq ?_
          refine cod_region ?_
          refine lst_move rfl rfl ?_
          refine lst_move rfl rfl ?_
          refine lst_move rfl rfl ?_
          refine lst_index (j := i) rfl rfl rfl Tryd.underlying22 F.ti24 rfl hk' ?_
          refine lst_loadN_at (l := [.int .i64 (x.needs : Int), .int .i64 (x.no : Int), .int .i64 (x.takes : Int), .int .i64 (x.leaves : Int), .int .i64 (x.cost : Int)]) rfl rfl F.agg24 F.ti24 rfl (fun a w ha j u hu => ha.old (hcell i x hx j u hu) hb) ?_
          refine lst_move rfl rfl ?_
          refine lst_fn0 (vs := [_, _]) rfl rfl F.ent94 (fun a w ha => rafter_c x m hxo hm6 w) ?_
          refine lst_index (j := putN x m) rfl rfl rfl Tryd.underlying123 F.ti126 rfl hg6 ?_
          refine lst_loadN_at (l := [.int .i64 (q.1 : Int), .int .i64 (q.2 : Int)]) rfl rfl F.agg126 F.ti126 rfl (fun a w ha j u hu => row_at ha (e := 126) (n := 64) (c := 64) (cells := pcell) (InR.mem (A := (some ⟨bP, 0, none⟩))) (fun _ => rfl) hq hu) ?_
          refine lst_alloc rfl F.ti126 ?_
          intro b14
          refine lst_store rfl rfl F.ti126 rfl ?_
          refine lst_nil ?_
          refine ex_then ?_
          refine cod_seq ?_
          by_cases hqe : ((q.1 + x.cost : Nat) : Int) = (r0.1 : Int)
          · skip
            refine any_begin [] F.follows 25 rfl [false, false, false, false, false, false, false, false, false, false, false, false, false, false, false, false, false, false, false, false, false, false, false, false, false] rfl ?_
            refine any_tk 0 rfl rfl rfl (yld_field_z rfl F.fi126_0 F.ti3) ?_
            refine any_tk 1 rfl rfl rfl (yld_load rfl F.one3) ?_
            refine any_tk 2 rfl rfl rfl (yld_move rfl) ?_
            refine any_tk 3 rfl rfl rfl (yld_move rfl) ?_
            refine any_tk 4 rfl rfl rfl (yld_index (j := i) rfl rfl Tryd.underlying22 F.ti24 rfl hk') ?_
            refine any_tk 5 rfl rfl rfl (yld_field rfl F.fi24_4 F.ti3) ?_
            refine any_tk 6 rfl rfl rfl (yld_load_at (v := .int .i64 (x.cost : Int)) rfl F.one3 (fun a w ha => ha.old (hcell i x hx 4 _ rfl) hb)) ?_
            refine any_tk 7 rfl rfl rfl (yld_int (v := .int .i64 ((q.1 + x.cost : Nat) : Int)) rfl rfl (fun w => bin_add w (by rw [wrap_i64' _ (by omega) (by omega)]; omega))) ?_
            refine any_tk 8 rfl rfl rfl (yld_move rfl) ?_
            refine any_tk 9 rfl rfl rfl (yld_move rfl) ?_
            refine any_tk 10 rfl rfl rfl (yld_index (j := m) rfl rfl Tryd.underlying123 F.ti126 rfl hm6) ?_
            refine any_tk 11 rfl rfl rfl (yld_field rfl F.fi126_0 F.ti3) ?_
            refine any_tk 12 rfl rfl rfl (yld_load_at (v := .int .i64 (r0.1 : Int)) rfl F.one3 (fun a w ha => row_at ha (e := 126) (n := 64) (c := 64) (cells := pcell) (j := 0) (InR.mem (A := (some ⟨bP, 0, none⟩))) (fun _ => rfl) hr0 rfl)) ?_
            refine any_tk 13 rfl rfl rfl (yld_int rfl rfl bin_eql) ?_
            rw [decide_eq_true hqe]
            refine any_tk 14 rfl rfl rfl (yld_move rfl) ?_
            refine any_take_on 15 rfl rfl rfl rfl rfl (by kernel_rfl) (by kernel_rfl) (by kernel_rfl) sbl (yld_field_z rfl F.fi126_1 F.ti3) rfl ?_
            refine any_take_on 16 rfl rfl rfl rfl rfl (by kernel_rfl) (by kernel_rfl) (by kernel_rfl) sbl (yld_load rfl F.one3) rfl ?_
            refine any_take_on 17 rfl rfl rfl rfl rfl (by kernel_rfl) (by kernel_rfl) (by kernel_rfl) sbl (yld_int (v := .int .i64 ((q.2 + 1 : Nat) : Int)) rfl rfl (fun w => bin_add w (by rw [wrap_i64' _ (by omega) (by omega)]; omega))) rfl ?_
            refine any_take_on 18 rfl rfl rfl rfl rfl (by kernel_rfl) (by kernel_rfl) (by kernel_rfl) sbl (yld_move rfl) rfl ?_
            refine any_take_on 19 rfl rfl rfl rfl rfl (by kernel_rfl) (by kernel_rfl) (by kernel_rfl) sbl (yld_move rfl) rfl ?_
            refine any_take_on 20 rfl rfl rfl rfl rfl (by kernel_rfl) (by kernel_rfl) (by kernel_rfl) sbl (yld_index (j := m) rfl rfl Tryd.underlying123 F.ti126 rfl hm6) rfl ?_
            refine any_take_on 21 rfl rfl rfl rfl rfl (by kernel_rfl) (by kernel_rfl) (by kernel_rfl) sbl (yld_field rfl F.fi126_1 F.ti3) rfl ?_
            refine any_take_on 22 rfl rfl rfl rfl rfl (by kernel_rfl) (by kernel_rfl) (by kernel_rfl) sbl (yld_load_at (v := .int .i64 (r0.2 : Int)) rfl F.one3 (fun a w ha => row_at ha (e := 126) (n := 64) (c := 64) (cells := pcell) (j := 1) (InR.mem (A := (some ⟨bP, 0, none⟩))) (fun _ => rfl) hr0 rfl)) rfl ?_
            refine any_take_on 23 rfl rfl rfl rfl rfl (by kernel_rfl) (by kernel_rfl) (by kernel_rfl) sbl (yld_int rfl rfl bin_eql) rfl ?_
            refine any_tk 24 rfl rfl rfl (yld_pick_true rfl rfl) ?_
            refine any_done rfl (by kernel_rfl) ?_
            refine ex_then ?_
            refine cod_cond_dec rfl (fun hc5 => ?_) (fun hc5 => ?_)
            · skip
              refine cod_seq ?_
              refine any_begin [.r A1] F.follows 12 rfl [false, false, false, false, false, false, false, false, false, false, false, false] rfl ?_
              refine any_tk 0 rfl rfl rfl (yld_move rfl) ?_
              refine any_tk 1 rfl rfl rfl (yld_move rfl) ?_
              refine any_tk 4 rfl rfl rfl (yld_move rfl) ?_
              refine any_tk 5 rfl rfl rfl (yld_move rfl) ?_
              refine any_tk 6 rfl rfl rfl (yld_index (j := i) rfl rfl Tryd.underlying22 F.ti24 rfl hk') ?_
              refine any_tk 7 rfl rfl rfl (yld_loadN_at (l := [.int .i64 (x.needs : Int), .int .i64 (x.no : Int), .int .i64 (x.takes : Int), .int .i64 (x.leaves : Int), .int .i64 (x.cost : Int)]) rfl F.agg24 F.ti24 rfl (fun a w ha j u hu => ha.old (hcell i x hx j u hu) hb)) ?_
              refine any_tk 8 rfl rfl rfl (yld_move rfl) ?_
              refine any_one 2 (by kernel_rfl) rfl rfl ?_
              refine lst_lit (vs := [(0, _)]) rfl rfl Tryd.underlying25 F.ti3 rfl rfl rfl ?_
              intro b87
              refine lst_nil ?_
              refine any_next sbl ?_
              refine any_one 3 (by kernel_rfl) rfl rfl ?_
              refine lst_append rfl rfl rfl Tryd.underlying25 F.ti3 rfl rfl rfl (by unfold maxLen; omega) (by omega) ?_
              intro A2 c2
              refine lst_nil ?_
              refine any_next sbl ?_
              refine any_one 9 (by kernel_rfl) rfl rfl ?_
              refine lst_fn0 (vs := [_, _]) rfl rfl F.ent94 (fun a w ha => rafter_c x m hxo hm6 w) ?_
              refine lst_nil ?_
              refine any_next sbl ?_
              refine any_tk 10 rfl rfl rfl (yld_assign rfl) ?_
              refine any_tk 11 rfl rfl rfl (yld_assign rfl) ?_
              refine any_done rfl (by kernel_rfl) ?_
              refine ex_then ?_
              refine cod_exit ?_
              refine ex_block_other rfl ?_
              refine ex_then_exit ?_
              refine ex_then_exit ?_
              refine ex_block_exit ?_
              refine ex_block_normal ?_
              have hpi : Pick ags ps m i := hpk.2 ⟨hmy, by omega, by omega⟩
              refine ex_round' (putN x m, out ++ [i], A2, c2) ⟨hg6, by (try dsimp only); rw [hqd]; unfold farN at hmn ⊢; omega, by (try dsimp only); rw [hqd, List.length_append, List.length_singleton]; omega, fun W hW => by
                rw [List.append_assoc]
                exact hS _ (hS0.cn hok hm6 hmn0 hpi hno (by rw [hxd]; exact hW))⟩ (by (try dsimp only); rw [hqd, hrd]; omega) (by (try dsimp only); rw [List.length_append, List.length_singleton]; repeat (first | exact Sub.nil _ | refine Sub.cons rfl ?_)) (by (try dsimp only); rw [ints_snoc, List.length_append, List.length_singleton]; repeat (first | exact Pck.nil _ | exact Pck.refl _ | (apply Pck.cons; focus ((repeat (first | exact Rem.here _ | apply Rem.there)); done)) | refine Pck.skip _ ?_))
            · skip
              refine cod_skip ?_
              refine ex_block_normal ?_
              refine ex_then ?_
              refine cod_region ?_
              refine lst_move rfl rfl ?_
              refine lst_int rfl rfl rfl (fun w => bin_add w (wrap_i64' _ (by omega) (by omega))) ?_
              refine lst_assign rfl rfl ?_
              refine lst_nil ?_
              refine ex_round' (i + 1) ⟨by (try dsimp only); omega, fun j hj => by
                rcases Nat.lt_succ_iff_lt_or_eq.1 hj with h1 | rfl
                · exact hno j h1
                · exact fun h => hc5 (by have := (hpk.1 h).2.2; omega)⟩ (by (try dsimp only); omega) sbn pkk
          · skip
            refine any_begin [] F.follows 25 rfl [false, false, false, false, false, false, false, false, false, false, false, false, false, false, false, false, false, false, false, false, false, false, false, false, false] rfl ?_
            refine any_tk 0 rfl rfl rfl (yld_field_z rfl F.fi126_0 F.ti3) ?_
            refine any_tk 1 rfl rfl rfl (yld_load rfl F.one3) ?_
            refine any_tk 2 rfl rfl rfl (yld_move rfl) ?_
            refine any_tk 3 rfl rfl rfl (yld_move rfl) ?_
            refine any_tk 4 rfl rfl rfl (yld_index (j := i) rfl rfl Tryd.underlying22 F.ti24 rfl hk') ?_
            refine any_tk 5 rfl rfl rfl (yld_field rfl F.fi24_4 F.ti3) ?_
            refine any_tk 6 rfl rfl rfl (yld_load_at (v := .int .i64 (x.cost : Int)) rfl F.one3 (fun a w ha => ha.old (hcell i x hx 4 _ rfl) hb)) ?_
            refine any_tk 7 rfl rfl rfl (yld_int (v := .int .i64 ((q.1 + x.cost : Nat) : Int)) rfl rfl (fun w => bin_add w (by rw [wrap_i64' _ (by omega) (by omega)]; omega))) ?_
            refine any_tk 8 rfl rfl rfl (yld_move rfl) ?_
            refine any_tk 9 rfl rfl rfl (yld_move rfl) ?_
            refine any_tk 10 rfl rfl rfl (yld_index (j := m) rfl rfl Tryd.underlying123 F.ti126 rfl hm6) ?_
            refine any_tk 11 rfl rfl rfl (yld_field rfl F.fi126_0 F.ti3) ?_
            refine any_tk 12 rfl rfl rfl (yld_load_at (v := .int .i64 (r0.1 : Int)) rfl F.one3 (fun a w ha => row_at ha (e := 126) (n := 64) (c := 64) (cells := pcell) (j := 0) (InR.mem (A := (some ⟨bP, 0, none⟩))) (fun _ => rfl) hr0 rfl)) ?_
            refine any_tk 13 rfl rfl rfl (yld_int rfl rfl bin_eql) ?_
            rw [decide_eq_false hqe]
            refine any_tk 14 rfl rfl rfl (yld_move rfl) ?_
            refine any_take_off 15 rfl rfl rfl rfl rfl (by kernel_rfl) (by kernel_rfl) (by kernel_rfl) sbl rfl ?_
            refine any_take_off 16 rfl rfl rfl rfl rfl (by kernel_rfl) (by kernel_rfl) (by kernel_rfl) sbl rfl ?_
            refine any_take_off 17 rfl rfl rfl rfl rfl (by kernel_rfl) (by kernel_rfl) (by kernel_rfl) sbl rfl ?_
            refine any_take_off 18 rfl rfl rfl rfl rfl (by kernel_rfl) (by kernel_rfl) (by kernel_rfl) sbl rfl ?_
            refine any_take_off 19 rfl rfl rfl rfl rfl (by kernel_rfl) (by kernel_rfl) (by kernel_rfl) sbl rfl ?_
            refine any_take_off 20 rfl rfl rfl rfl rfl (by kernel_rfl) (by kernel_rfl) (by kernel_rfl) sbl rfl ?_
            refine any_take_off 21 rfl rfl rfl rfl rfl (by kernel_rfl) (by kernel_rfl) (by kernel_rfl) sbl rfl ?_
            refine any_take_off 22 rfl rfl rfl rfl rfl (by kernel_rfl) (by kernel_rfl) (by kernel_rfl) sbl rfl ?_
            refine any_take_off 23 rfl rfl rfl rfl rfl (by kernel_rfl) (by kernel_rfl) (by kernel_rfl) sbl rfl ?_
            refine any_tk 24 rfl rfl rfl (yld_pick_false rfl rfl) ?_
            refine any_done rfl (by kernel_rfl) ?_
            refine ex_then ?_
            refine cod_cond_false rfl ?_
            refine cod_skip ?_
            refine ex_block_normal ?_
            refine ex_then ?_
            refine cod_region ?_
            refine lst_move rfl rfl ?_
            refine lst_int rfl rfl rfl (fun w => bin_add w (wrap_i64' _ (by omega) (by omega))) ?_
            refine lst_assign rfl rfl ?_
            refine lst_nil ?_
            refine ex_round' (i + 1) ⟨by (try dsimp only); omega, fun j hj => by
              rcases Nat.lt_succ_iff_lt_or_eq.1 hj with h1 | rfl
              · exact hno j h1
              · exact fun h => hqe (by have := (hpk.1 h).2.1; omega)⟩ (by (try dsimp only); omega) sbn pkk
      · skip
        exfalso
        obtain ⟨i2, h1, h2⟩ := hS0.next hok hm6 hmn0 (by rw [hrd]; exact hr20)
        exact hno i2 (by omega) h2 -- done
    · skip
      have hnm0 : r0.2 = 0 := by omega
      refine cod_exit ?_
      refine ex_then_exit ?_
      refine ex_then_exit ?_
      refine ex_block_exit ?_
      refine ex_then ?_
      refine cod_seq ?_
      refine cod_region ?_
      refine lst_move rfl rfl ?_
      refine lst_move rfl rfl ?_
      refine lst_assign rfl rfl ?_
      refine lst_assign rfl rfl ?_
      refine lst_assign rfl rfl ?_
      refine lst_nil ?_
      refine ex_then ?_
      refine cod_ret ?_
      exact ex_ret rfl (fun a w ha => res_three rfl rfl rfl rfl ha) (fun a w ha => ⟨out, n.1, 0, A1, c1, ⟨fun _ => ⟨(by have h := hS [] (hS0.done hm6 hmn0 (by rw [hrd]; exact hnm0)); rw [List.append_nil] at h; exact h), n.2, (by have h := hS0.opt f hf hnf; rw [hnd] at h; exact h)⟩, fun h => absurd rfl h⟩, rfl, ha.grown sbl⟩)

theorem rShortest_bad (A : Option Addr) (c : Nat) (l : List RA) (m : Int) (p : Int) (hn : askedR l m p ≠ 0) (w : World) (hA : RdL RA.cells 5 w A l) : Calls Tryd.prog 61 #[.slice A l.length c, .int .i64 m, .int .i64 p] w fun e w' => e = .returned (.tuple #[.slice none 0 0, .int .i64 ((askedR l m p : Nat) : Int)]) ∧ Grew w w' [] := by
  refine enter (N := 72) [(0, .slice A l.length c), (1, .int .i64 m), (2, .int .i64 p)] Tryd.func61 rfl Tryd.ntmps61 rfl rfl ?_
  refine cod_seq ?_
  refine cod_region ?_
  refine lst_assign rfl rfl ?_
  refine lst_assign rfl rfl ?_
  refine lst_nil ?_
  refine ex_then ?_
  refine cod_seq ?_
  refine cod_seq ?_
  refine cod_region ?_
  refine lst_move rfl rfl ?_
  refine lst_move rfl rfl ?_
  refine lst_move rfl rfl ?_
  refine lst_fn0 (vs := [_, _, _]) rfl rfl F.ent86 (fun a w ha => asked_c A c l m p w (hA.later ha.below)) ?_
  refine lst_assign rfl rfl ?_
  refine lst_nil ?_
  refine ex_then ?_
  refine cod_seq ?_
  refine cod_region ?_
  refine lst_move rfl rfl ?_
  refine lst_int rfl rfl rfl bin_neq ?_
  refine lst_nil ?_
  refine ex_then ?_
  refine cod_cond_dec rfl (fun hc0 => ?_) (fun hc0 => ?_)
  · skip
    refine cod_seq ?_
    refine cod_region ?_
    refine lst_move rfl rfl ?_
    refine lst_assign rfl rfl ?_
    refine lst_assign rfl rfl ?_
    refine lst_nil ?_
    refine ex_then ?_
    refine cod_ret ?_
    refine ex_then_ret ?_
    exact ex_ret rfl (fun a w ha => res_two rfl rfl rfl ha) (fun a w ha => ⟨rfl, ha.grown (List.nil_sublist _)⟩)
  · skip
    exact absurd hn (by omega) -- done

theorem rCheapest_bad (A : Option Addr) (c : Nat) (l : List RA) (m : Int) (p : Int) (hn : askedR l m p ≠ 0) (w : World) (hA : RdL RA.cells 5 w A l) : Calls Tryd.prog 62 #[.slice A l.length c, .int .i64 m, .int .i64 p] w fun e w' => e = .returned (.tuple #[.slice none 0 0, .int .i64 0, .int .i64 ((askedR l m p : Nat) : Int)]) ∧ Grew w w' [] := by
  refine enter (N := 97) [(0, .slice A l.length c), (1, .int .i64 m), (2, .int .i64 p)] Tryd.func62 rfl Tryd.ntmps62 rfl rfl ?_
  refine cod_seq ?_
  refine cod_region ?_
  refine lst_assign rfl rfl ?_
  refine lst_assign rfl rfl ?_
  refine lst_assign rfl rfl ?_
  refine lst_nil ?_
  refine ex_then ?_
  refine cod_seq ?_
  refine cod_seq ?_
  refine cod_region ?_
  refine lst_move rfl rfl ?_
  refine lst_move rfl rfl ?_
  refine lst_move rfl rfl ?_
  refine lst_fn0 (vs := [_, _, _]) rfl rfl F.ent86 (fun a w ha => asked_c A c l m p w (hA.later ha.below)) ?_
  refine lst_assign rfl rfl ?_
  refine lst_nil ?_
  refine ex_then ?_
  refine cod_seq ?_
  refine cod_region ?_
  refine lst_move rfl rfl ?_
  refine lst_int rfl rfl rfl bin_neq ?_
  refine lst_nil ?_
  refine ex_then ?_
  refine cod_cond_dec rfl (fun hc0 => ?_) (fun hc0 => ?_)
  · skip
    refine cod_seq ?_
    refine cod_region ?_
    refine lst_move rfl rfl ?_
    refine lst_assign rfl rfl ?_
    refine lst_assign rfl rfl ?_
    refine lst_assign rfl rfl ?_
    refine lst_nil ?_
    refine ex_then ?_
    refine cod_ret ?_
    refine ex_then_ret ?_
    exact ex_ret rfl (fun a w ha => res_three rfl rfl rfl rfl ha) (fun a w ha => ⟨rfl, ha.grown (List.nil_sublist _)⟩)
  · skip
    exact absurd hn (by omega) -- done

theorem rReach_bad (A : Option Addr) (c : Nat) (l : List RA) (m : Int) (hn : askedR l m 0 ≠ 0) (w : World) (hA : RdL RA.cells 5 w A l) : Calls Tryd.prog 60 #[.slice A l.length c, .int .i64 m] w fun e w' => e = .returned (.tuple #[.slice none 0 0, .int .i64 ((askedR l m 0 : Nat) : Int)]) ∧ Grew w w' [] := by
  refine enter (N := 32) [(0, .slice A l.length c), (1, .int .i64 m)] Tryd.func60 rfl Tryd.ntmps60 rfl rfl ?_
  refine cod_seq ?_
  refine cod_region ?_
  refine lst_assign rfl rfl ?_
  refine lst_assign rfl rfl ?_
  refine lst_nil ?_
  refine ex_then ?_
  refine cod_seq ?_
  refine cod_seq ?_
  refine cod_region ?_
  refine lst_move rfl rfl ?_
  refine lst_move rfl rfl ?_
  refine lst_fn0 (vs := [_, _, _]) rfl rfl F.ent86 (fun a w ha => asked_c A c l m 0 w (hA.later ha.below)) ?_
  refine lst_assign rfl rfl ?_
  refine lst_nil ?_
  refine ex_then ?_
  refine cod_seq ?_
  refine cod_region ?_
  refine lst_move rfl rfl ?_
  refine lst_int rfl rfl rfl bin_neq ?_
  refine lst_nil ?_
  refine ex_then ?_
  refine cod_cond_dec rfl (fun hc0 => ?_) (fun hc0 => ?_)
  · skip
    refine cod_seq ?_
    refine cod_region ?_
    refine lst_move rfl rfl ?_
    refine lst_assign rfl rfl ?_
    refine lst_assign rfl rfl ?_
    refine lst_nil ?_
    refine ex_then ?_
    refine cod_ret ?_
    refine ex_then_ret ?_
    exact ex_ret rfl (fun a w ha => res_two rfl rfl rfl ha) (fun a w ha => ⟨rfl, ha.grown (List.nil_sublist _)⟩)
  · skip
    exact absurd hn (by omega) -- done

end Go.Proofs.YtofkhehcnfiopaaDoor.N
