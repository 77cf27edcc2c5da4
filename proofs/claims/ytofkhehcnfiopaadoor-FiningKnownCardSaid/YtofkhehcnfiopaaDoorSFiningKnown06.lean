/- Parts of the walks of the laws on fining, those that FiningKnown needs: M11, M12, M13, M14, M15, M16, M17, M18, M19, M20, M21, Sx5, Sx6, F22, ReachW, ReachG, ReachM. -/
import Derived.Test.YtofkhehcnfiopaaDoorSFiningKnown05
import Derived.Conc.LeavingOf
import Derived.Test.YtofkhehcnfiopaaDoorSFiningKnown02
import Derived.Test.YtofkhehcnfiopaaDoorProg
namespace Go.Proofs.YtofkhehcnfiopaaDoor.N
open Go Go.RowKit Go.Conc
set_option autoImplicit false
set_option linter.unusedSectionVars false

section
variable {P : Program} {K : Prot} {W : World} {H : Nat → Prop} {Stop : Goroutine → World → Prop} {s : Gst} {m m0 m' : Mt} {ms : List Mt} {g g' ch : Goroutine} {v v' w w' : World} {c i : Nat} {l : List UInt8} {sl : List Nat} {gs : Array Goroutine} {ids : List Nat} {F S : Nat → Nat → Prop} {vs : Nat → World} {t : Trace} {es : Array Event}
/-- What one of the living says of its own, ahead of what it does. -/
theorem MInv.says (h : MInv P K Stop W H gs w s ids F S vs m0 ms t) (hi : Liv ids i) {fn : FuncId} {pos : String} (he : ∀ e ∈ es, EvOk (F i) (S i) w.heap.size e) : MInv P K Stop W H gs w s ids F S vs m0 ms (t ++ MemOp.ofEvents i fn pos es) := by
  have hdeaf : ∀ j, Deaf (t ++ MemOp.ofEvents i fn pos es) j = Deaf t j := fun j => Deaf_quiet fun op hop d => (ops_fair he op hop).2.2.2 j d
  exact ⟨h.len, h.nodup, h.inside, h.pend, h.hid, h.main, h.work, fun j x hj hn hx => by rw [hdeaf]; exact h.old j x hj hn hx, fun j hj => by rw [hdeaf]; exact h.above j hj, h.apt, h.law.step h.apt hi he, h.chan, h.lent, h.soft, h.apart, h.based, h.high⟩
def Left (K : Prot) (ids : List Nat) (k : Nat) (x : UInt8) : List Nat := if x = K.done then ids.eraseIdx k else ids
theorem left_facts {k j : Nat} {x : UInt8} {l' : List UInt8} (hnd : ids.Nodup) (hlen : ids.length = s.pend.length) (hk : ids[k]? = some j) (hl : s.pend[k]? = some (x :: l')) :
    (Left K ids k x).Nodup ∧ (Left K ids k x).length = (s.after K k x l').pend.length ∧ (∀ i ∈ Left K ids k x, i ∈ ids) ∧ (∀ i ∈ ids, i ≠ j → i ∈ Left K ids k x) ∧ (j ∈ Left K ids k x → x ≠ K.done) ∧ (x ≠ K.done → j ∈ Left K ids k x) ∧
      ∀ (a i : Nat) (l : List UInt8), (Left K ids k x)[a]? = some i → (s.after K k x l').pend[a]? = some l → (i = j ∧ x ≠ K.done ∧ l = l') ∨ (i ≠ j ∧ ∃ a' : Nat, ids[a']? = some i ∧ s.pend[a']? = some l) := by
  have hki : k < ids.length := (List.getElem?_eq_some_iff.1 hk).1
  have hkp : k < s.pend.length := (List.getElem?_eq_some_iff.1 hl).1
  have inj : ∀ (a : Nat), ids[a]? = some j → a = k := fun a ha => by
    have h1 := (List.getElem?_eq_some_iff.1 ha).1
    exact (List.getElem?_inj h1 hnd).1 (ha.trans hk.symm)
  by_cases hx : x = K.done
  · have e1 : Left K ids k x = ids.eraseIdx k := by simp [Left, hx]
    have e2 : (s.after K k x l').pend = s.pend.eraseIdx k := by simp [Gst.after, hx]
    rw [e1, e2]
    refine ⟨List.Pairwise.sublist (List.eraseIdx_sublist ids k) hnd, by rw [List.length_eraseIdx, List.length_eraseIdx, hlen], fun i hi => (List.eraseIdx_sublist ids k).subset hi, fun i hi hij => ?_, fun hj => ?_, fun h => absurd hx h, fun a i l ha hla => ?_⟩
    · obtain ⟨a, ha⟩ := List.mem_iff_getElem?.1 hi
      exact List.mem_eraseIdx_iff_getElem?.2 ⟨a, fun e => hij (by subst e; rw [hk] at ha; exact (Option.some.inj ha).symm), ha⟩
    · obtain ⟨a, ha, haj⟩ := List.mem_eraseIdx_iff_getElem?.1 hj
      exact absurd (inj a haj) ha
    · rw [List.getElem?_eraseIdx] at ha hla
      refine .inr ?_
      split at ha
      · next hak =>
        rw [if_pos hak] at hla
        exact ⟨fun e => by subst e; have := inj a ha; omega, a, ha, hla⟩
      · next hak =>
        rw [if_neg hak] at hla
        exact ⟨fun e => by subst e; have := inj (a + 1) ha; omega, a + 1, ha, hla⟩
  · have e1 : Left K ids k x = ids := by simp [Left, hx]
    have e2 : (s.after K k x l').pend = s.pend.set k l' := by simp [Gst.after, hx]
    rw [e1, e2]
    refine ⟨hnd, by simp [hlen], fun _ h => h, fun _ h _ => h, fun _ => hx, fun _ => List.mem_of_getElem? hk, fun a i l ha hla => ?_⟩
    by_cases hak : a = k
    · subst hak
      rw [List.getElem?_set_self hkp] at hla
      rw [hk] at ha
      exact .inl ⟨(Option.some.inj ha).symm, hx, (Option.some.inj hla).symm⟩
    · rw [List.getElem?_set_ne (fun e => hak e.symm)] at hla
      exact .inr ⟨fun e => by subst e; exact hak (inj a ha), a, ha, hla⟩
theorem said_next {x : UInt8} {l' : List UInt8} (h : Said K (x :: l')) (hx : x ≠ K.done) : Said K l' := by
  obtain ⟨m, h1, h2⟩ := h
  cases m with
  | nil => simp at h1; exact absurd h1.1 hx
  | cons y m =>
    simp only [List.cons_append, List.cons.injEq] at h1
    exact ⟨m, h1.2, fun hm => h2 (List.mem_cons_of_mem _ hm)⟩
/-- A word is passed on. -/
theorem MInv.meet (h : MInv P K Stop W H gs w s ids F S vs m0 ms t) {k j n r : Nat} {x : UInt8} {l' : List UInt8} {gs' : Array Goroutine} {g0' gj' : Goroutine} {tr trj : Tr} (d : Nat) (hk : ids[k]? = some j) (hl : s.pend[k]? = some (x :: l'))
    (hsz : gs'.size = gs.size) (h0 : gs'[0]? = some g0') (hj : gs'[j]? = some gj') (ho : ∀ n, n ≠ 0 → n ≠ j → gs'[n]? = gs[n]?) (hch : w.heap[s.c]? = some (.chan 0 #[] false r r false))
    (hm : MainAt P K Stop (s.after K k x l') (.live tr true) g0' (saying ((vs 0).at d) (s.after K k x l').enc))
    (hw : x ≠ K.done → WorkAt P K s.c l' (.live trj true) gj' (saying ((vs j).at d) #[enc1 l'])) (hq : x = K.done → QuitsD P n 0 gj') (fh : FuncId) (ph : String) (fj : FuncId) (pj : String) :
    MInv P K Stop W H gs' ((w.at d).setChan s.c 0 #[] false (r + 1) (r + 1) false) (s.after K k x l') (Left K ids k x) F S
      (fun i => if i = 0 then saying ((vs 0).at d) (s.after K k x l').enc else if i = j then saying ((vs j).at d) #[enc1 l'] else (vs i).at d) (.live tr true) (ms.set j (if x = K.done then .quits n else .live trj true))
      (t ++ Go.Conc.met j 0 fh ph fj pj s.c r 0) := by
  have hpe : s.pend ≠ [] := fun e => by rw [e] at hl; simp at hl
  have hji : j ∈ ids := List.mem_of_getElem? hk
  have hjs := h.inside j hji
  have hcb : s.c < w.heap.size := (Array.getElem?_eq_some_iff.1 hch).1
  obtain ⟨f1, f2, f3, f4, f5, f6, f7⟩ := left_facts (K := K) h.nodup h.pend hk hl
  have hLL : ∀ i, Liv (Left K ids k x) i → Liv ids i := fun i hi => hi.imp id (f3 i)
  have hsame : ∀ b, b ≠ s.c → ((w.at d).setChan s.c 0 #[] false (r + 1) (r + 1) false).heap[b]? = w.heap[b]? := fun b hb => by
    show (w.heap.setIfInBounds s.c _)[b]? = _
    rw [Array.getElem?_setIfInBounds_ne (fun e => hb e.symm)]
  have hwsz : ((w.at d).setChan s.c 0 #[] false (r + 1) (r + 1) false).heap.size = w.heap.size := by
    show (w.heap.setIfInBounds s.c _).size = _
    simp
  have hdeaf : ∀ i, Deaf (t ++ Go.Conc.met j 0 fh ph fj pj s.c r 0) i = Deaf t i := fun i => Deaf_quiet (met_quiet j 0 fh ph fj pj s.c r 0 i)
  have hview : ∀ i, Liv ids i → Hid (F i) (S i) ((w.at d).setChan s.c 0 #[] false (r + 1) (r + 1) false) ((vs i).at d) := fun i hi => h.spoke hpe (r + 1) d hi
  refine ⟨by simp [h.len, hsz], f1, fun i hi => by rw [hsz]; exact h.inside i (f3 i hi), f2, fun i hi => ?_, ⟨g0', h0, by simpa using hm⟩, fun a i l ha hla => ?_, fun i y hi hn hy => ?_, fun i hi => ?_, ?_, ?_, fun _ => ⟨⟨r + 1, ?_⟩, fun i hi => (h.chan hpe).2 i (hLL i hi)⟩, ?_, ?_, fun tr' htr => (by cases htr), ((h.based.drew d).chan (h.high hpe) _ _ _ _ _ _).sub hLL, fun _ => h.high hpe⟩
  · by_cases e0 : i = 0
    · subst e0; simpa using (hview 0 (.inl rfl)).saying _
    · by_cases e1 : i = j
      · subst e1; simpa [e0] using (hview i (.inr hji)).saying _
      · simpa [e0, e1] using hview i (hLL i hi)
  · have hc' : (s.after K k x l').c = s.c := rfl
    rw [hc']
    rcases f7 a i l ha hla with ⟨rfl, hx, rfl⟩ | ⟨hij, a', ha', hla'⟩
    · obtain ⟨hsd, _⟩ := h.work k i _ hk hl
      have e0 : i ≠ 0 := by omega
      refine ⟨said_next hsd hx, gj', .live trj true, hj, ?_, by simpa [e0] using hw hx⟩
      rw [List.getElem?_set_self (by rw [h.len]; exact hjs.2)]
      simp [hx]
    · obtain ⟨h1, y, m1, h2, h3, h4⟩ := h.work a' i l ha' hla'
      have e0 : i ≠ 0 := by have := (h.inside i (List.mem_of_getElem? ha')).1; omega
      refine ⟨h1, y, m1, by rw [ho i e0 hij]; exact h2, by rw [List.getElem?_set_ne (fun e => hij e.symm)]; exact h3, ?_⟩
      simp only [e0, hij, if_false]
      exact h4.rely (.drew ..)
  · by_cases e1 : i = j
    · subst e1
      have hx : x = K.done := by
        by_cases hx : x = K.done
        · exact hx
        · exact absurd (f6 hx) hn
      rw [hj] at hy
      cases hy
      refine ⟨n, ?_, ?_⟩
      · rw [List.getElem?_set_self (by rw [h.len]; exact hjs.2)]
        simp [hx]
      · rw [hdeaf, h.law.hears i (.inr hji)]
        exact hq hx
    · have hn' : i ∉ ids := fun hi' => hn (f4 i hi' e1)
      rw [ho i (by omega) e1] at hy
      obtain ⟨n', h1, h2⟩ := h.old i y hi hn' hy
      exact ⟨n', by rw [List.getElem?_set_ne (fun e => e1 e.symm)]; exact h1, by rw [hdeaf]; exact h2⟩
  · rw [hdeaf]; exact h.above i (by rw [← hsz]; exact hi)
  · rw [hwsz]
    exact fun a b ha hb => h.apt a b (hLL a ha) (hLL b hb)
  · rw [hwsz]
    exact h.law.met (.inl rfl) (.inr hji) hLL (fun i hi hij => hi.imp id fun y => f4 i y hij) fh ph fj pj r 0 hcb
  · show (w.heap.setIfInBounds s.c _)[s.c]? = _
    rw [Array.getElem?_setIfInBounds_self_of_lt hcb]
  · exact h.lent
  · intro b hb
    obtain ⟨h1, cs, tt, h2⟩ := h.soft b hb
    exact ⟨h1, cs, tt, by rw [hsame b (fun e => by subst e; exact h1 ((h.chan hpe).2 0 (.inl rfl)))]; exact h2⟩
end
end Go.Proofs.YtofkhehcnfiopaaDoor.N
namespace Go.Proofs.YtofkhehcnfiopaaDoor.N
open Go Go.RowKit Go.Conc
set_option autoImplicit false
set_option linter.unusedSectionVars false

section
variable (P : Program) (K : Prot) (Stop : Goroutine → World → Prop) (W : World) (H : Nat → Prop)
def MM (μ : Mt × List Mt) (m : Machine) (t : Trace) : Prop :=
  ∃ (gs : Array Goroutine) (w : World) (sl : Option (Nat × Nat)) (s : Gst) (ids : List Nat) (F S : Nat → Nat → Prop) (vs : Nat → World), m = crowd gs w sl ∧ MInv P K Stop W H gs w s ids F S vs μ.1 μ.2 t
/-- The machine goes on, and comes nearer. -/
def Nx (μ : Mt × List Mt) (r : Stepped × Array MemOp) (t : Trace) : Prop :=
  ∃ (m' : Machine) (ops : Array MemOp) (μ' : Mt × List Mt), r = (.next m', ops) ∧ Prod.Lex Mt.Lt Ls μ' μ ∧ MM P K Stop W H μ' m' (t ++ ops)
end
theorem muWf : WellFounded (Prod.Lex Mt.Lt Ls) := ⟨fun ⟨a, b⟩ => Prod.lexAccessible (Mt.acc a) Ls.acc b⟩
section
variable {P : Program} {K : Prot} {W : World} {H : Nat → Prop} {Stop : Goroutine → World → Prop} {s : Gst} {m m0 m' : Mt} {ms : List Mt} {g g' ch : Goroutine} {v v' w w' : World} {c i : Nat} {l : List UInt8} {sl : Option (Nat × Nat)} {gs : Array Goroutine} {ids : List Nat} {F S : Nat → Nat → Prop} {vs : Nat → World} {t : Trace} {es : Array Event}
theorem leaver_moves (h : MInv P K Stop W H gs w s ids F S vs m0 ms t) (hS : ∀ g v, Stop g v → g.status = .running) (hi0 : 0 < i) (hi : i ∉ ids) (hg : gs[i]? = some g) (hr : g.status = .running) : Nx P K Stop W H (m0, ms) (runT P (crowd gs w sl) i) t := by
  obtain ⟨n, hms, hq⟩ := h.old i g hi0 hi hg
  have hib : (i == 0) = false := by simp; omega
  cases n with
  | zero => rw [hq.1] at hr; cases hr
  | succ n =>
    rcases hq with ⟨hf, _⟩ | ⟨_, g', es, hm, hstp, hq'⟩
    · rw [hf] at hr; cases hr
    exact ⟨_, _, (m0, ms.set i (.quits n)), runT_crowd_go hg (by rw [hib]; exact hstp w), .right _ (Ls.set hms (.quits (Nat.lt_succ_self n))), _, w, sl, s, ids, F, S, vs, rfl, h.left hS hi0 hi hg hm hq'⟩
/-- Who waits to receive: nobody but goroutine 0. -/
theorem MInv.recvs (h : MInv P K Stop W H gs w s ids F S vs m0 ms t) (hS : ∀ g v, Stop g v → g.status = .running) {j k : Nat} (hp : (j, k) ∈ partners (gs.setIfInBounds i ph) c false) :
    j ≠ i ∧ j = 0 ∧ k = 0 ∧ ∃ tr0 g2, m0 = .live tr0 false ∧ gs[0]? = some (parked g2 #[rcase s.c K.zr] (.recv false)) := by
  obtain ⟨x, hx, hk⟩ := mem_partners.1 hp
  by_cases e : i = j
  · subst e
    have hlt : i < gs.size := by simpa using (Array.getElem?_eq_some_iff.1 hx).1
    rw [Array.getElem?_setIfInBounds_self_of_lt hlt] at hx
    cases hx
    rw [offersAt_ph] at hk
    cases hk
  · rw [Array.getElem?_setIfInBounds_ne e] at hx
    by_cases e0 : j = 0
    · subst e0
      obtain ⟨a, h1, h2⟩ := h.main
      rw [hx] at h1
      cases h1
      obtain ⟨_, ⟨tr, _, h3⟩ | ⟨tr0, g2, h3, _, rfl, _⟩⟩ := h2
      · rw [offersAt_of_not_blocked (by rw [mrun hS h3]; simp)] at hk
        cases hk
      · refine ⟨fun x => e x.symm, rfl, ?_, tr0, g2, h3, hx⟩
        rw [offersAt_parked_recv] at hk
        split at hk
        · simpa using hk
        · cases hk
    · by_cases e1 : j ∈ ids
      · obtain ⟨a, l, ha, hl⟩ := mem_pend h e1
        obtain ⟨h1, y, m1, h2, _, h4⟩ := h.work a j l ha hl
        rw [hx] at h2
        cases h2
        obtain ⟨h0, ⟨tr, _, h3⟩ | ⟨tr0, g2, x', l', _, _, rfl, _⟩⟩ := h4
        · rw [offersAt_of_not_blocked (by rw [wrun h1 h0 h3]; simp)] at hk
          cases hk
        · rw [offersAt_parked_send'] at hk
          cases hk
      · obtain ⟨n, _, h2⟩ := h.old j x (by omega) e1 hx
        rw [offersAt_of_not_blocked (by rcases h2.status with y | y <;> rw [y] <;> simp)] at hk
        cases hk
/-- Who waits to send: workers. -/
theorem MInv.sends (h : MInv P K Stop W H gs w s ids F S vs m0 ms t) (hS : ∀ g v, Stop g v → g.status = .running) {j k : Nat} (hp : (j, k) ∈ partners (gs.setIfInBounds i ph) c true) :
    j ≠ i ∧ j ∈ ids ∧ k = 0 ∧ ∃ (a : Nat) (x : UInt8) (l' : List UInt8) (tr0 : Tr) (g2 : Goroutine), ids[a]? = some j ∧ s.pend[a]? = some (x :: l') ∧ ms[j]? = some (.live tr0 false) ∧ gs[j]? = some (parked g2 #[scase s.c (K.msg x) K.z] .send) := by
  obtain ⟨x, hx, hk⟩ := mem_partners.1 hp
  by_cases e : i = j
  · subst e
    have hlt : i < gs.size := by simpa using (Array.getElem?_eq_some_iff.1 hx).1
    rw [Array.getElem?_setIfInBounds_self_of_lt hlt] at hx
    cases hx
    rw [offersAt_ph] at hk
    cases hk
  · rw [Array.getElem?_setIfInBounds_ne e] at hx
    by_cases e0 : j = 0
    · subst e0
      obtain ⟨a, h1, h2⟩ := h.main
      rw [hx] at h1
      cases h1
      obtain ⟨_, ⟨tr, _, h3⟩ | ⟨tr0, g2, h3, _, rfl, _⟩⟩ := h2
      · rw [offersAt_of_not_blocked (by rw [mrun hS h3]; simp)] at hk
        cases hk
      · rw [offersAt_parked_recv'] at hk
        cases hk
    · by_cases e1 : j ∈ ids
      · obtain ⟨a, l, ha, hl⟩ := mem_pend h e1
        obtain ⟨h1, y, m1, h2, hms, h4⟩ := h.work a j l ha hl
        rw [hx] at h2
        cases h2
        obtain ⟨h0, ⟨tr, _, h3⟩ | ⟨tr0, g2, x', l', h5, rfl, rfl, _⟩⟩ := h4
        · rw [offersAt_of_not_blocked (by rw [wrun h1 h0 h3]; simp)] at hk
          cases hk
        · refine ⟨fun x => e x.symm, e1, ?_, a, x', l', tr0, g2, ha, hl, by rw [hms, h5], hx⟩
          rw [offersAt_parked_send] at hk
          split at hk
          · simpa using hk
          · cases hk
      · obtain ⟨n, _, h2⟩ := h.old j x (by omega) e1 hx
        rw [offersAt_of_not_blocked (by rcases h2.status with y | y <;> rw [y] <;> simp)] at hk
        cases hk
end
end Go.Proofs.YtofkhehcnfiopaaDoor.N
namespace Go.Proofs.YtofkhehcnfiopaaDoor.N
open Go Go.RowKit Go.Conc
set_option autoImplicit false
set_option linter.unusedSectionVars false

section
variable {P : Program} {K : Prot} {W : World} {H : Nat → Prop} {Stop : Goroutine → World → Prop} {s : Gst} {m m0 m' : Mt} {ms : List Mt} {g g' ch : Goroutine} {v v' w w' : World} {c i : Nat} {l : List UInt8} {sl : Option (Nat × Nat)} {gs : Array Goroutine} {ids : List Nat} {F S : Nat → Nat → Prop} {vs : Nat → World} {t : Trace} {es : Array Event}
theorem worker_moves (h : MInv P K Stop W H gs w s ids F S vs m0 ms t) (hS : ∀ g v, Stop g v → g.status = .running) (hi : i ∈ ids) (hg : gs[i]? = some g) (hr : g.status = .running) : Nx P K Stop W H (m0, ms) (runT P (crowd gs w sl) i) t := by
  obtain ⟨k, l, hk, hl⟩ := mem_pend h hi
  obtain ⟨h1, g1, m1, h2, hms, h4⟩ := h.work k i l hk hl
  rw [hg] at h2
  cases h2
  have hin := h.inside i hi
  have hi0 : i ≠ 0 := by omega
  have hib : (i == 0) = false := by simp; omega
  have hLi : Liv ids i := .inr hi
  have hpe : s.pend ≠ [] := fun e => by rw [e] at hl; simp at hl
  obtain ⟨⟨r, hch⟩, _⟩ := h.chan hpe
  have huniq : ∀ (k' : Nat) (l' : List UInt8), ids[k']? = some i → s.pend[k']? = some l' → l' = l := fun k' l' hk' hl' => by
    have e : k' = k := (List.getElem?_inj (List.getElem?_eq_some_iff.1 hk').1 h.nodup).1 (hk'.trans hk.symm)
    subst e
    rw [hl] at hl'
    exact (Option.some.inj hl').symm
  obtain ⟨h0, ⟨tr, rfl, hT⟩ | ⟨_, g2, _, _, _, _, rfl, _⟩⟩ := h4
  · cases hT with
    | stop hs =>
      have h5 : (vs i).output = #[enc1 []] := hs (vs i) (Rl.refl _)
      rw [h0] at h5
      have h6 : l = [] := enc1_inj (by simpa using h5)
      obtain ⟨x, h7, _⟩ := h1
      rw [h6] at h7
      simp at h7
    | @step f _ _ _ nx hstp hk' =>
      have hh := hstp (vs i) (Rl.refl _)
      obtain ⟨w', hst, hv, hkp, hev⟩ := hh.real (F i) (S i) w (h.hid i hLi)
      have hT' := hk' (vs i) (Rl.refl _)
      have hout : (nx (vs i)).2.1.output = #[enc1 l] := (hh.out (F i) (S i) w (h.hid i hLi)).trans h0
      have hown := h.own hS (tr := f (vs i, (nx (vs i)).1, (nx (vs i)).2.1)) hLi hg hkp hv (by rw [← hv.size]; exact hev) (fun e => absurd e hi0) (fun _ k' l' hk1 hl1 => by
        rw [huniq k' l' hk1 hl1]
        exact ⟨hout, .inl ⟨_, rfl, hT'⟩⟩)
      simp only [hi0, if_false] at hown
      exact ⟨_, _, (m0, ms.set i (.live (f (vs i, (nx (vs i)).1, (nx (vs i)).2.1)) true)), runT_crowd_go hg (by rw [hib]; exact hst), .right _ (Ls.set hms (.tree ⟨_, rfl⟩)), _, w', sl, s, ids, _, _, _, rfl, hown⟩
    | @sync f _ _ nx hsy hk' =>
      obtain ⟨_, x, l0, hout, hstp, hquit, hnx⟩ := hsy (vs i) (Rl.refl _)
      have hll : l = x :: l0 := enc1_inj (by rw [h0] at hout; simpa using hout)
      subst hll
      obtain ⟨es, hst, hev⟩ := hstp (F i) (S i) w (h.hid i hLi)
      have hst' : stepG P (i == 0) g w = .comm g #[scase s.c (K.msg x) K.z] true .send w es := by rw [hib]; exact hst
      by_cases hp : partners (gs.setIfInBounds i ph) s.c false = []
      · -- it waits
        have hrun := crowd_waits (sl := sl) hg hst' (fun cc hcc => by
          have : cc = scase s.c (K.msg x) K.z := by simpa using hcc
          subst this
          exact ways_send_none hch (by simp) hp)
        have hnp : ∀ tr, m0 ≠ .live tr false := fun tr e => by
          obtain ⟨a, ha1, ha2⟩ := h.main
          subst e
          obtain ⟨_, ⟨_, x, _⟩ | ⟨tr0, g2, _, _, rfl, _⟩⟩ := ha2
          · cases x
          · have : (0, 0) ∈ partners (gs.setIfInBounds i ph) s.c false := mem_partners.2 ⟨_, by rw [Array.getElem?_setIfInBounds_ne hi0]; exact ha1, by rw [offersAt_parked_recv]; simp⟩
            rw [hp] at this
            cases this
        have hpk := h.park (g' := parked g #[scase s.c (K.msg x) K.z] .send) (tr := .node f) hLi hg hev (fun e => absurd e hi0) (fun _ k' l' hk1 hl1 => by
          rw [huniq k' l' hk1 hl1]
          refine ⟨h0, .inr ⟨.node f, g, x, l0, rfl, rfl, rfl, hquit, fun v₁ hv => ?_⟩⟩
          obtain ⟨_, x', l1, hout', _, _, hnx'⟩ := hsy v₁ hv
          have e2 : x :: l0 = x' :: l1 := enc1_inj (by rw [hv.output, h0] at hout'; simpa using hout')
          cases e2
          exact ⟨_, ⟨_, rfl⟩, hk' v₁ hv _ _ hnx'⟩) (fun e => absurd e hi0) (fun _ => hnp)
        simp only [hi0, if_false] at hpk
        exact ⟨_, _, (m0, ms.set i (.live (.node f) false)), hrun, .right _ (Ls.set hms .park), _, w, sl, s, ids, F, S, vs, rfl, hpk⟩
      · have hsd := crowd_send_meets_some (sl := sl) hg hst' hch hp (fun j k' hjk => by
          obtain ⟨e1, rfl, rfl, tr0, g2, _, h6⟩ := h.recvs hS hjk
          exact ⟨rfl, e1, g2, _, _, h6⟩)
        obtain ⟨j, gj, zj, shj, d, hji, hgj, hrun⟩ := hsd
        have hjp : (j, 0) ∈ partners (gs.setIfInBounds i ph) s.c false := mem_partners.2 ⟨_, by rw [Array.getElem?_setIfInBounds_ne (fun e => hji e.symm)]; exact hgj, by rw [offersAt_parked_recv]; simp⟩
        obtain ⟨_, rfl, _, _⟩ := h.recvs hS hjp
        obtain ⟨a, ha1, hao, ha2⟩ := h.main
        rw [hgj] at ha1
        cases ha1
        obtain ⟨tr1, _, hT1⟩ | ⟨tr0, g2, rfl, _, heq, hmn⟩ := ha2
        · have := mrun hS hT1
          cases this
        · have hsh : shj = .recv false := by
            have := congrArg Goroutine.offers heq
            simp only [parked, Option.some.injEq, Prod.mk.injEq] at this
            exact this.2
          subst hsh
          have hfr : gj.finishComm P #[rcase s.c zj] (.recv false) 0 (K.msg x) true = Go.Conc.served g2 (K.msg x) := by
            rw [finishComm_recv]
            have e1 := congrArg Goroutine.frame heq
            have e2 : Go.Conc.served gj (recvd false (K.msg x) true) = Go.Conc.served (parked gj #[rcase s.c zj] (.recv false)) (K.msg x) := rfl
            rw [e2, heq]
            rfl
          obtain ⟨trm, htm, hTm⟩ := hmn ((vs 0).at d) (.drew ..) k x l0 hl
          have hwk := hk' ((vs i).at d) (.drew ..)
          obtain ⟨_, x', l1, hout', _, _, hnx'⟩ := hsy ((vs i).at d) (.drew ..)
          have e2 : x :: l0 = x' :: l1 := enc1_inj (by
            have : ((vs i).at d).output = (vs i).output := rfl
            rw [this, h0] at hout'
            simpa using hout')
          cases e2
          have hlt0 : 0 < gs.size := by omega
          have hq2 : ∃ n, x = K.done → QuitsD P n 0 (Go.Conc.served g undef) := by
            by_cases e : x = K.done
            · obtain ⟨n, hn⟩ := hquit e
              exact ⟨n, fun _ => hn⟩
            · exact ⟨0, fun e' => absurd e' e⟩
          obtain ⟨n, hq2⟩ := hq2
          have hmt := (h.says hLi (fn := g.frame.fn) (pos := g.frame.place) hev).meet (n := n) (gs' := (gs.setIfInBounds 0 (Go.Conc.served g2 (K.msg x))).setIfInBounds i (Go.Conc.served g undef)) (tr := trm) d hk hl (by simp)
            (by rw [Array.getElem?_setIfInBounds_ne hi0]; exact Array.getElem?_setIfInBounds_self_of_lt hlt0) (Array.getElem?_setIfInBounds_self_of_lt (by simpa using hin.2))
            (fun q hq0 hqi => by rw [Array.getElem?_setIfInBounds_ne (fun e => hqi e.symm), Array.getElem?_setIfInBounds_ne (fun e => hq0 e.symm)]) hch ⟨rfl, .inl ⟨trm, rfl, hTm⟩⟩ (fun _ => ⟨rfl, .inl ⟨_, rfl, hwk _ _ hnx'⟩⟩) hq2 g.frame.fn g.frame.place gj.frame.fn gj.frame.place
          rw [Array.append_assoc] at hmt
          rw [hfr] at hrun
          exact ⟨_, _, (.live trm true, _), hrun, .left _ _ (.tree htm), _, _, sl, _, _, F, S, _, rfl, hmt⟩
  · cases hr
end
end Go.Proofs.YtofkhehcnfiopaaDoor.N
namespace Go.Proofs.YtofkhehcnfiopaaDoor.N
open Go Go.RowKit Go.Conc
set_option autoImplicit false
set_option linter.unusedSectionVars false

section
variable (P : Program) (K : Prot) (Stop : Goroutine → World → Prop) (W : World) (H : Nat → Prop)
/-- The machine goes on, and comes nearer by one or more. -/
def Nxs (μ : Mt × List Mt) (r : Stepped × Array MemOp) (t : Trace) : Prop :=
  ∃ (m' : Machine) (ops : Array MemOp) (μ' : Mt × List Mt), r = (.next m', ops) ∧ Relation.TransGen (Prod.Lex Mt.Lt Ls) μ' μ ∧ MM P K Stop W H μ' m' (t ++ ops)
end
section
variable {P : Program} {K : Prot} {W : World} {H : Nat → Prop} {Stop : Goroutine → World → Prop} {w w' : World} {sl : Option (Nat × Nat)} {gs : Array Goroutine} {t : Trace}
theorem Nx.many {μ : Mt × List Mt} {r : Stepped × Array MemOp} (h : Nx P K Stop W H μ r t) : Nxs P K Stop W H μ r t := by
  obtain ⟨m', ops, μ', h1, h2, h3⟩ := h
  exact ⟨m', ops, μ', h1, .single h2, h3⟩
theorem rl_saying {v v₁ : World} (h : Rl v v₁) (o : Array (Nat × ByteArray)) : Rl (saying v o) (saying v₁ o) := ⟨h.os, h.tape, rfl, h.size, h.block⟩
/-- The receiver moves, or stands at its stop. -/
theorem main_moves (hS : ∀ g v, Stop g v → g.status = .running) (hKW : K.low = W.heap.size) {g : Goroutine} (hg : gs[0]? = some g) (hr : g.status = .running) : ∀ (tr : Tr) (s : Gst) (ids : List Nat) (F S : Nat → Nat → Prop) (vs : Nat → World) (ms : List Mt), MInv P K Stop W H gs w s ids F S vs (.live tr true) ms t →
    (∃ s ids F S vs m0 ms, MInv P K Stop W H gs w s ids F S vs m0 ms t ∧ Stop g (vs 0) ∧ (vs 0).output = s.enc) ∨ Nxs P K Stop W H (.live tr true, ms) (runT P (crowd gs w sl) 0) t := by
  intro tr
  induction Tr.acc tr with
  | intro tr _ ih =>
    intro s ids F S vs ms h
    obtain ⟨a, ha1, hao, ha2⟩ := h.main
    rw [hg] at ha1
    cases ha1
    obtain ⟨tr', he, hT⟩ | ⟨_, _, he, _⟩ := ha2
    · cases he
      have h00 : Liv ids 0 := .inl rfl
      cases hT with
      | stop hs => exact .inl ⟨s, ids, F, S, vs, _, ms, h, hs _ (Rl.refl _), hao⟩
      | @step f _ _ _ nx hstp hk' =>
        have hh := hstp (vs 0) (Rl.refl _)
        obtain ⟨w', hst, hv, hkp, hev⟩ := hh.real (F 0) (S 0) w (h.hid 0 h00)
        have hT' := hk' (vs 0) (Rl.refl _)
        have hout := (hh.out (F 0) (S 0) w (h.hid 0 h00)).trans hao
        have hown := h.own hS (tr := f (vs 0, (nx (vs 0)).1, (nx (vs 0)).2.1)) h00 hg hkp hv (by rw [← hv.size]; exact hev) (fun _ => ⟨hout, .inl ⟨_, rfl, hT'⟩⟩) (fun e => absurd rfl e)
        simp only [if_true] at hown
        exact .inr ⟨_, _, (.live (f (vs 0, (nx (vs 0)).1, (nx (vs 0)).2.1)) true, ms), runT_crowd_go hg hst, .single (.left _ _ (.tree ⟨_, rfl⟩)), _, w', sl, s, ids, _, _, _, rfl, hown⟩
      | @sync f _ _ nx hsy hk' =>
        rcases hsy (vs 0) (Rl.refl _) with ⟨_, s', hout, hpe, hstp, hnx⟩ | ⟨_, s', c, l, l2, g', ch, hout, hc, hlo, hcs, hgv, hun, hsd, hgr, hstp, hwk, hnx⟩ | ⟨_, s', hout, hpe, hnx⟩
        · have e : s' = s := Gst.enc_inj (hout.symm.trans hao)
          subst e
          obtain ⟨es, hst, hev⟩ := hstp (F 0) (S 0) w (h.hid 0 h00)
          have hst' : stepG P ((0 : Nat) == 0) g w = .comm g #[rcase s'.c K.zr] true (.recv false) w es := hst
          obtain ⟨⟨r, hch⟩, _⟩ := h.chan hpe
          by_cases hp : partners (gs.setIfInBounds 0 ph) s'.c true = []
          · -- it waits
            have hrun := crowd_waits (sl := sl) hg hst' (fun cc hcc => by
              have : cc = rcase s'.c K.zr := by simpa using hcc
              subst this
              exact ways_recv_none hch hp)
            have hpk := h.park (g' := parked g #[rcase s'.c K.zr] (.recv false)) (tr := .node f) h00 hg hev
              (fun _ => ⟨hao, .inr ⟨.node f, g, rfl, hpe, rfl, fun v₁ hv i x l hl => ⟨_, ⟨_, rfl⟩, (hk' (vs 0) (Rl.refl _) _ _ (hnx i x l hl)).rely (rl_saying hv _)⟩⟩⟩) (fun e => absurd rfl e)
              (fun _ j hj => by
                obtain ⟨k, l, hk, hl⟩ := mem_pend h hj
                obtain ⟨h1, y, m1, h2, h3, h4⟩ := h.work k j l hk hl
                obtain ⟨_, ⟨tr1, rfl, _⟩ | ⟨tr0, g2, x', l1, _, _, rfl, _⟩⟩ := h4
                · exact ⟨tr1, h3⟩
                · have hj0 : (0 : Nat) ≠ j := by have := h.inside j hj; omega
                  have : (j, 0) ∈ partners (gs.setIfInBounds 0 ph) s'.c true := mem_partners.2 ⟨_, by rw [Array.getElem?_setIfInBounds_ne hj0]; exact h2, by rw [offersAt_parked_send]; simp⟩
                  rw [hp] at this
                  cases this) (fun e => absurd rfl e)
            simp only [if_true] at hpk
            exact .inr ⟨_, _, (.live (.node f) false, ms), hrun, .single (.left _ _ .park), _, w, sl, s', ids, F, S, vs, rfl, hpk⟩
          · obtain ⟨j, gj, vj, zj, shj, d, hj0, hgj, hrun⟩ := crowd_recv_meets_some (sl := sl) hg hst' hch hp (fun j k hjk => by
              obtain ⟨e1, hji, rfl, a, x, l', tr0, g2, _, _, _, h6⟩ := h.sends hS hjk
              exact ⟨rfl, e1, g2, _, _, _, h6⟩)
            have hjp : (j, 0) ∈ partners (gs.setIfInBounds 0 ph) s'.c true := mem_partners.2 ⟨_, by rw [Array.getElem?_setIfInBounds_ne (fun e => hj0 e.symm)]; exact hgj, by rw [offersAt_parked_send]; simp⟩
            obtain ⟨_, hji, _, a, x, l', tr0, g2, ha, hl, hms, _⟩ := h.sends hS hjp
            obtain ⟨_, gj1, m1, hgj1, hms1, hwk⟩ := h.work a j _ ha hl
            rw [hgj] at hgj1
            cases hgj1
            rw [hms] at hms1
            cases hms1
            obtain ⟨_, ⟨_, e1, _⟩ | ⟨tr1, g3, x', l1, e1, e2, e3, hquit, hnxw⟩⟩ := hwk
            · cases e1
            · cases e1
              cases e2
              have e4 := congrArg Goroutine.offers e3
              simp only [parked, scase, Option.some.injEq, Prod.mk.injEq, Array.mk.injEq, List.cons.injEq, CommCase.mk.injEq] at e4
              obtain ⟨⟨⟨_, hvj, _⟩, _⟩, rfl⟩ := e4
              have hvj' : vj = K.msg x := by simpa using hvj
              subst hvj'
              have hfj : gj.finishComm P #[scase s'.c (K.msg x) zj] .send 0 undef false = Go.Conc.served g3 undef := by
                rw [finishComm_send]
                have e5 : Go.Conc.served gj undef = Go.Conc.served (parked gj #[scase s'.c (K.msg x) zj] .send) undef := rfl
                rw [e5, e3]
                rfl
              have hfr : g.finishComm P #[rcase s'.c K.zr] (.recv false) 0 (K.msg x) true = Go.Conc.served g (K.msg x) := by
                rw [finishComm_recv]
                rfl
              obtain ⟨trw, _, hTw⟩ := hnxw ((vs j).at d) (.drew ..)
              have hjs := h.inside j hji
              have hlt0 : 0 < gs.size := by omega
              have hq2 : ∃ n, x = K.done → QuitsD P n 0 (Go.Conc.served g3 undef) := by
                by_cases e : x = K.done
                · obtain ⟨n, hn⟩ := hquit e
                  exact ⟨n, fun _ => hn⟩
                · exact ⟨0, fun e' => absurd e' e⟩
              obtain ⟨n, hq2⟩ := hq2
              have hT0 := (hk' (vs 0) (Rl.refl _) _ _ (hnx a x l' hl)).rely (rl_saying (Rl.drew (vs 0) d) _)
              have hmt := (h.says h00 (fn := g.frame.fn) (pos := g.frame.place) hev).meet (n := n) (gs' := (gs.setIfInBounds j (Go.Conc.served g3 undef)).setIfInBounds 0 (Go.Conc.served g (K.msg x))) (tr := f (vs 0, Go.Conc.served g (K.msg x), saying (vs 0) (s'.after K a x l').enc)) (trj := trw) d ha hl (by simp)
                (Array.getElem?_setIfInBounds_self_of_lt (by simpa using hlt0)) (by rw [Array.getElem?_setIfInBounds_ne (fun e => hj0 e.symm)]; exact Array.getElem?_setIfInBounds_self_of_lt hjs.2)
                (fun q hq0 hqj => by rw [Array.getElem?_setIfInBounds_ne (fun e => hq0 e.symm), Array.getElem?_setIfInBounds_ne (fun e => hqj e.symm)]) hch ⟨rfl, .inl ⟨_, rfl, hT0⟩⟩ (fun _ => ⟨rfl, .inl ⟨_, rfl, hTw⟩⟩) hq2 gj.frame.fn gj.frame.place g.frame.fn g.frame.place
              rw [Array.append_assoc] at hmt
              rw [hfj, hfr] at hrun
              exact .inr ⟨_, _, (.live _ true, _), hrun, .single (.left _ _ (.tree ⟨_, rfl⟩)), _, _, sl, _, _, F, S, _, rfl, hmt⟩
        · have e : s' = s := Gst.enc_inj (hout.symm.trans hao)
          subst e
          obtain ⟨es, hst, hev⟩ := hstp (F 0) (S 0) w (h.hid 0 h00)
          obtain ⟨trc, hTc⟩ := gs_tree hwk
          have hh := h.hire (tr := f (vs 0, g', saying (hideB c (chill l2 (vs 0))) (Gst.enc ⟨c, s'.sl ++ l2, s'.pend ++ [l]⟩))) hg (by rw [← hKW]; exact hlo) hc hcs hgv hun hsd hev ⟨rfl, .inl ⟨_, rfl, hk' _ (Rl.refl _) _ _ hnx⟩⟩ hTc ch.frame.fn
          have ee : ∀ (X : Array MemOp) (p q : MemOp), (t ++ X) ++ #[p, q] = t ++ (X.push p).push q := fun X p q => by apply Array.ext'; simp
          rw [ee] at hh
          exact .inr ⟨_, _, (.live (f (vs 0, g', saying (hideB c (chill l2 (vs 0))) (Gst.enc ⟨c, s'.sl ++ l2, s'.pend ++ [l]⟩))) true, ms ++ [.live trc true]), runT_crowd_spawn hg hst, .single (.left _ _ (.tree ⟨_, rfl⟩)), _, w, sl, _, _, _, _, _, rfl, hh⟩
        · have e : s' = s := Gst.enc_inj (hout.symm.trans hao)
          subst e
          have hh := h.settle hpe hg (tr := f (vs 0, g, saying (thaw s'.sl (vs 0)) (Gst.enc ⟨0, [], []⟩))) ⟨rfl, .inl ⟨_, rfl, hk' _ (Rl.refl _) _ _ hnx⟩⟩
          rcases ih _ ⟨_, rfl⟩ _ _ _ _ _ _ hh with x | ⟨m', ops, μ', h1, h2, h3⟩
          · exact .inl x
          · exact .inr ⟨m', ops, μ', h1, h2.tail (.left _ _ (.tree ⟨_, rfl⟩)), h3⟩
    · cases he
end
end Go.Proofs.YtofkhehcnfiopaaDoor.N
namespace Go.Proofs.YtofkhehcnfiopaaDoor.N
open Go Go.RowKit Go.Conc
set_option autoImplicit false
set_option linter.unusedSectionVars false

/-- Goroutine 0 stands at the step that ends the run; nobody is left who sends. -/
def EndAt (P : Program) (W : World) (H : Nat → Prop) (Post : Value → World → Prop) (g : Goroutine) (v : World) : Prop :=
  g.status = .running ∧ v.output = Gst.enc ⟨0, [], []⟩ ∧ ∀ F w, Hid F (fun _ => False) w v → Bas W H (fun i => i = 0) (fun _ => F) w → ∃ x w' es, stepG P true g w = .ended (.done x) w' es ∧ (∀ e ∈ es, EvOk F (fun _ => False) w.heap.size e) ∧ Post x w'
section
variable {P : Program} {K : Prot} {W : World} {H : Nat → Prop} {Post : Value → World → Prop}
theorem handed_of_pt {F S : Nat → Nat → Prop} {B : Nat} {t : Trace} {L : Nat → Prop} (h : Pt L F S B t) (hL : ∀ g, L g → g = 0) : t.HandedOver := by
  intro i g hg hne hc
  obtain ⟨a, ha, hm, _⟩ := hc
  rcases h.known i a ha hm with ⟨q, z, h1, h2, h3⟩ | ⟨g', h1, h2⟩
  · refine ⟨q, by rw [g?_of h1, h2], ?_⟩
    rcases h3 with rfl | h3
    · rw [g?_of h1, h2] at hg
      exact absurd (Option.some.inj hg).symm hne
    · exact h3
  · rw [hg] at h1
    have := Option.some.inj h1
    rw [hL g' h2] at this
    exact absurd this hne
theorem many_step (hKW : K.low = W.heap.size) (μ : Mt × List Mt) (m : Machine) (t : Trace) (h : MM P K (EndAt P W H Post) W H μ m t) :
    (∃ o w ops, Go.stepT P m = (.ended o w, ops) ∧ Go.Conc.Good P Post m o w (t ++ ops)) ∨ (∃ m' ops μ', Go.stepT P m = (.next m', ops) ∧ Relation.TransGen (Prod.Lex Mt.Lt Ls) μ' μ ∧ MM P K (EndAt P W H Post) W H μ' m' (t ++ ops)) := by
  obtain ⟨gs, w, sl, s, ids, F, S, vs, rfl, h⟩ := h
  obtain ⟨m0, ms⟩ := μ
  simp only at h
  have hS : ∀ g v, EndAt P W H Post g v → g.status = .running := fun _ _ x => x.1
  have hstat : ∀ (i : Nat) (g : Goroutine), gs[i]? = some g → g.status = .running ∨ g.status = .blocked ∨ g.status = .finished := by
    intro i g hg
    rcases Nat.eq_zero_or_pos i with rfl | hpos
    · obtain ⟨a, h1, h2⟩ := h.main
      rw [hg] at h1
      cases h1
      obtain ⟨_, ⟨tr, _, h3⟩ | ⟨tr0, g2, _, _, rfl, _⟩⟩ := h2
      · exact .inl (mrun hS h3)
      · exact .inr (.inl rfl)
    · by_cases hi : i ∈ ids
      · obtain ⟨a, l, ha, hl⟩ := mem_pend h hi
        obtain ⟨h1, y, m1, h2, _, h4⟩ := h.work a i l ha hl
        rw [hg] at h2
        cases h2
        obtain ⟨h0, ⟨tr, _, h3⟩ | ⟨tr0, g2, x', l', _, _, rfl, _⟩⟩ := h4
        · exact .inl (wrun h1 h0 h3)
        · exact .inr (.inl rfl)
      · obtain ⟨n, _, h2⟩ := h.old i g hpos hi hg
        exact h2.status.imp id .inr
  have haw : ∀ g ∈ gs, awake g := by
    intro g hg
    obtain ⟨i, hi, rfl⟩ := Array.mem_iff_getElem.1 hg
    exact awake_of (hstat i _ (Array.getElem?_eq_getElem hi))
  have hsome : ∃ (i : Nat) (g : Goroutine), gs[i]? = some g ∧ g.status = .running := by
    obtain ⟨a, h1, h2⟩ := h.main
    obtain ⟨_, ⟨tr, _, h3⟩ | ⟨tr0, g2, h3, h4, _, _⟩⟩ := h2
    · exact ⟨0, a, h1, mrun hS h3⟩
    · cases hp : s.pend with
      | nil => exact absurd hp h4
      | cons l ls =>
        have hids : 0 < ids.length := by rw [h.pend, hp]; simp
        have hk : ids[0]? = some ids[0] := List.getElem?_eq_getElem hids
        obtain ⟨h5, y, m1, h6, h7, h8⟩ := h.work 0 ids[0] l hk (by rw [hp]; rfl)
        obtain ⟨tr1, h9⟩ := h.apart tr0 h3 ids[0] (List.mem_of_getElem? hk)
        rw [h7] at h9
        cases h9
        obtain ⟨h10, ⟨tr, _, h11⟩ | ⟨_, _, _, _, e, _⟩⟩ := h8
        · exact ⟨ids[0], y, h6, wrun h5 h10 h11⟩
        · cases e
  obtain ⟨i, g, d, sl', hi, hg, hst⟩ := crowd_pick (P := P) (w := w) (sl := sl) haw hsome
  have hd := h.drew d
  rcases Nat.eq_zero_or_pos i with rfl | hpos
  · obtain ⟨a, h1, _, h2⟩ := hd.main
    rw [hi] at h1
    cases h1
    obtain ⟨tr, rfl, _⟩ | ⟨tr0, g2, _, _, rfl, _⟩ := h2
    · rcases main_moves (sl := sl') hS hKW hi hg tr s ids F S _ ms hd with ⟨s1, ids1, F1, S1, vs1, m1, ms1, hI, hend, hout⟩ | x
      · obtain ⟨_, h3, h5⟩ := hend
        have e : (⟨0, [], []⟩ : Gst) = s1 := Gst.enc_inj (h3.symm.trans hout)
        subst e
        have hids : ids1 = [] := List.eq_nil_of_length_eq_zero hI.pend
        subst hids
        have hS0 : S1 0 = fun _ => False := funext fun b => propext ((hI.lent b).trans (by simp))
        have hL : ∀ g, Liv [] g → g = 0 := fun g hg => hg.elim id fun x => by cases x
        obtain ⟨x, w', es, hstp, hev, hpost⟩ := h5 (F1 0) (w.at d) (by have := hI.hid 0 (.inl rfl); rwa [hS0] at this) ⟨hI.based.os, hI.based.tape, hI.based.output, hI.based.size, fun b hb => ⟨(hI.based.held b hb).1, (hI.based.held b hb).2.1, fun _ _ => (hI.based.held b hb).2.2 0 (.inl rfl)⟩, hI.based.new⟩
        have hrunT := runT_many_ended (P := P) (sl := sl') (i := 0) hi (show stepG P (0 == 0) g (w.at d) = _ from hstp)
        have hP' := hI.law.step (fn := g.frame.fn) (pos := g.frame.place) (g := 0) hI.apt (.inl rfl) (by rw [hS0]; exact hev)
        refine .inl ⟨_, _, _, hst.trans hrunT, x, rfl, hpost, hP'.clean, handed_of_pt hP' hL, ⟨fun y hy => ?_, rfl⟩, fun j y hy hj => ?_⟩
        · obtain ⟨j, hj⟩ := List.mem_iff_getElem?.1 hy
          rw [List.getElem?_drop] at hj
          obtain ⟨n, _, hq⟩ := hI.old (1 + j) y (by omega) (by simp) (by simpa [crowd] using hj)
          exact ⟨_, hq.leaves⟩
        · obtain ⟨n, _, hq⟩ := hI.old j y (by omega) (by simp) hy
          refine ⟨n, ?_⟩
          have e : (t ++ MemOp.ofEvents 0 g.frame.fn g.frame.place es).deaf j (t ++ MemOp.ofEvents 0 g.frame.fn g.frame.place es).size = Deaf t j :=
            Deaf_other t (g := j) (g' := 0) (by omega) _ (fun op hop => by obtain ⟨e, _, rfl⟩ := Go.Conc.mem_ofEvents hop; rfl)
          rw [e]
          exact hq.hears _
      · obtain ⟨m', ops, μ', h3, h4, h5⟩ := x
        exact .inr ⟨m', ops, μ', hst.trans h3, h4, h5⟩
    · cases hg
  · by_cases hin : i ∈ ids
    · obtain ⟨m', ops, μ', h3, h4, h5⟩ := (worker_moves (sl := sl') hd hS hin hi hg).many
      exact .inr ⟨m', ops, μ', hst.trans h3, h4, h5⟩
    · obtain ⟨m', ops, μ', h3, h4, h5⟩ := (leaver_moves (sl := sl') hd hS hpos hin hi hg).many
      exact .inr ⟨m', ops, μ', hst.trans h3, h4, h5⟩
/-- One who receives, beside whom nobody has been started yet: the run ends, in whatever order they go. -/
theorem many_ends (K : Prot) {a : Goroutine} {v : World} (hKW : K.low = W.heap.size) (hv : Hid H (fun _ => False) W v) (ho : v.output = Gst.enc ⟨0, [], []⟩) (hG : @Gs P (mSys P K) (EndAt P W H Post) a v) :
    ∃ N last o w' t', runNT P (N + 1) (solo a W) #[] = (.ended o w', t') ∧ runN P N (solo a W) = .next last ∧ step P last = .ended o w' ∧ Go.Conc.Good P Post last o w' t' := by
  obtain ⟨tr, hT⟩ := gs_tree hG
  have wf : WellFounded (Relation.TransGen (Prod.Lex Mt.Lt Ls)) := WellFounded.transGen muWf
  refine run_of_inv wf (MM P K (EndAt P W H Post) W H) (Go.Conc.Good P Post) (many_step hKW) (.live tr true, [.live tr true]) (crowd #[a] W none) #[] ⟨#[a], W, none, ⟨0, [], []⟩, [], fun _ => H, fun _ _ => False, fun _ => v, rfl, ?_⟩
  have hL : ∀ g, Liv [] g → g = 0 := fun g hg => hg.elim id fun x => by cases x
  refine ⟨rfl, .nil, fun i hi => (by cases hi), rfl, fun i _ => hv, ⟨a, rfl, ho, .inl ⟨tr, rfl, hT⟩⟩, fun k i l hk _ => (by simp at hk), fun i g hi _ hg => ?_, fun _ _ => rfl, fun a b ha hb hne => absurd ((hL a ha).trans (hL b hb).symm) hne, ?_, fun hp => absurd rfl hp, fun b => (by simp), fun b hb => (by cases hb), fun _ h => (by cases h), ⟨rfl, rfl, rfl, Nat.le_refl _, fun b hb => ⟨hv.fitF b hb, rfl, fun _ _ => hb⟩, fun b _ hF => hF⟩, fun hp => absurd rfl hp⟩
  · have : i < 1 := by simpa using (Array.getElem?_eq_some_iff.1 hg).1
    omega
  · exact ⟨fun said => (by rintro ⟨i, j, _, ⟨a, b, ha, _⟩, _⟩; simp [Trace.act?] at ha), fun g _ i a b ha => (by simp [touchAt, Trace.act?] at ha), fun g _ i a b ha => (by simp [touchAt, Trace.act?] at ha), fun i a ha => (by simp [touchAt, Trace.act?] at ha), fun _ _ => rfl, by simp⟩
end
end Go.Proofs.YtofkhehcnfiopaaDoor.N
namespace Go.Proofs.YtofkhehcnfiopaaDoor.N
open Go Go.RowKit Go.Conc
set_option autoImplicit false
set_option linter.unusedSectionVars false

/-! Operations that the others take part in. -/
section
variable {P : Program} {main : Bool} {b : Frame} {a : Act} {k : List Item} {cs : List Frame} {w w' : World} {ops : Array Oper}
theorem stepX_spawn {i : Nat} {rest : List Nat} {o : Oper} {d : Deferred} {f : Fn} {cap : Array Value} (ho : ops[i]? = some o) (hw : Region.wanted o (yielded ops a.tmps) = true) (hd : OkOp b o)
    (hk : b.kind ≠ .early) (hr : (execOp a.eval o).run P w = .ok (.spawn d) w') (ht : d.target = .fn f cap) :
    stepG P main (G (b.atR a (.inRegion ops (i :: rest) :: k)) cs) w = .spawn (G (b.atR (a.put o.dst undef) (.inRegion ops rest :: k)) cs) (born P d) w' (listed P b.fn a o w) := by
  have hk' : (b.kind == CallKind.early) = false := by simpa using hk
  rw [stepX_oper ho hw hd, ← fin_atR ho]
  simp [stepG.apply, hr, G, Frame.atR, hk', GStep.after, listed, ht, born]
end
section
variable {P : Program} {K : Prot} {c : Nat} {a : Act} {o : Oper} {v : World} {Kt : Value → World → Prop}
theorem served_at {b : Frame} {a₁ : Act} {ops : Array Oper} {i : Nat} {rest : List Nat} {k : List Item} {cs : List Frame} {o₁ : Oper} (h3 : ops[i]? = some o₁) (x : Value) :
    Go.Conc.served (G (b.atR a₁ (.inRegion ops (i :: rest) :: k)) cs) x = G (b.atR (a₁.put o₁.dst x) (.inRegion ops rest :: k)) cs := by
  show G ((b.atR a₁ (.inRegion ops (i :: rest) :: k)).finish x) cs = _
  rw [fin_atR h3]
theorem listed_ok {fn : FuncId} {n : Next} {F S : Nat → Prop} {w : World} (ht : Tame P (execOp a.eval o)) (hop : ∀ w, (execOp a.eval o).run P w = .ok n w) (hw : Hid F S w v) : ∀ e ∈ listed P fn a o w, EvOk F S w.heap.size e := by
  obtain ⟨w', h1, h2, h3, h4, h5⟩ := ht.ok (hop v) hw
  unfold listed
  rw [h2, ← hw.size]
  exact fun e he => h5 e (Go.Conc.mem_seen he)
theorem sy_send {x : UInt8} {l : List UInt8} (hout : v.output = #[enc1 (x :: l)]) (hx : x ≠ K.done) (ht : Tame P (execOp a.eval o))
    (hop : ∀ w : World, (execOp a.eval o).run P w = .ok (.comm #[scase c (K.msg x) K.z] true .send) w) (hk : Kt undef (saying v #[enc1 l])) : @SyOp P (wSys P K c) o a v Kt := by
  intro a₁ o₁ h1 h2 _ ops i rest b k cs h3 h4 hod h5
  refine ⟨rfl, x, l, hout, fun F S w hw => ⟨listed P b.fn a₁ o₁ w, stepX_comm h3 h4 hod h5 (by rw [h1]; exact hop w), listed_ok (n := .comm #[scase c (K.msg x) K.z] true .send) (by rw [h1]; exact ht) (fun w => by rw [h1]; exact hop w) hw⟩, fun e => absurd e hx, undef, ?_, hk⟩
  rw [served_at h3, h2]
theorem sy_recv {s : Gst} (hout : v.output = s.enc) (hp : s.pend ≠ []) (ht : Tame P (execOp a.eval o)) (hop : ∀ w : World, (execOp a.eval o).run P w = .ok (.comm #[rcase s.c K.zr] true (.recv false)) w)
    (hk : ∀ i x l, s.pend[i]? = some (x :: l) → Kt (K.msg x) (saying v (s.after K i x l).enc)) : @SyOp P (mSys P K) o a v Kt := by
  intro a₁ o₁ h1 h2 _ ops i rest b k cs h3 h4 hod h5
  refine .inl ⟨rfl, s, hout, hp, fun F S w hw => ⟨listed P b.fn a₁ o₁ w, stepX_comm h3 h4 hod h5 (by rw [h1]; exact hop w), listed_ok (n := .comm #[rcase s.c K.zr] true (.recv false)) (by rw [h1]; exact ht) (fun w => by rw [h1]; exact hop w) hw⟩, fun j x l hj => ⟨K.msg x, ?_, hk j x l hj⟩⟩
  rw [served_at h3, h2]
theorem sy_go {s : Gst} {l : List UInt8} {sl : List Nat} {d : Deferred} {f : Fn} {cap : Array Value} (hout : v.output = s.enc) (hc : (s.pend = [] ∧ s.sl = [] ∧ v.heap[c]? = some (.chan 0 #[] false 0 0 false)) ∨ (s.pend ≠ [] ∧ s.c = c))
    (hlo : K.low ≤ c) (hcs : c ∉ sl) (hgv : Givable sl v) (hun : ∀ b ∈ sl, b ∈ s.sl ∨ ∃ cs t, v.heap[b]? = some (.cells cs t (0, 0))) (hsd : Said K l) (ht : Tame P (execOp a.eval o)) (hop : ∀ w : World, (execOp a.eval o).run P w = .ok (.spawn d) w)
    (hd : d.target = .fn f cap) (hw : Works P K c (born P d) (saying (onlyV sl v) #[enc1 l])) (hk : Kt undef (saying (hideB c (chill sl v)) (Gst.enc ⟨c, s.sl ++ sl, s.pend ++ [l]⟩))) : @SyOp P (mSys P K) o a v Kt := by
  intro a₁ o₁ h1 h2 _ ops i rest b k cs h3 h4 hod h5
  refine .inr (.inl ⟨rfl, s, c, l, sl, _, born P d, hout, hc, hlo, hcs, hgv, hun, hsd, rfl, fun F S w hw => ⟨listed P b.fn a₁ o₁ w, stepX_spawn h3 h4 hod h5 (by rw [h1]; exact hop w) hd, listed_ok (n := .spawn d) (by rw [h1]; exact ht) (fun w => by rw [h1]; exact hop w) hw⟩, hw, undef, by rw [h2], hk⟩)
end

/-! .. in the walk. -/
section
variable [I : Sys] {C : Ctx} {fr : List (Nat × Value)} {hp hp' : List Res} {a : Act} {w : World} {ops : Array Oper} {Q : Exit → Act → World → Prop} {rest : List Oper} {d : Nat} {ty : TypeId} {pos : String} {after : Array Edge}
/-- The same walk, from another beginning. -/
abbrev Ctx.re (C : Ctx) (B : Nat) (w0 : World) : Ctx := ⟨C.P, B, w0, C.N, C.ds⟩
theorem At.said (ha : At C fr hp a w) (o : Array (Nat × ByteArray)) : At (C.re C.B (saying C.w0 o)) fr hp a (saying w o) :=
  ⟨ha.size, ha.defs, ha.slots, ⟨ha.below.os, ha.below.tape, rfl, ha.below.size, ha.below.block⟩, ha.base, fun r hr => by
    have := ha.own r hr
    cases r <;> exact this, ha.apart⟩
/-- One operation that the others take part in, and yields a value. -/
theorem lst_sync {T : Type} {op : Op} (p : T → Prop) (Cf : T → Ctx) (X : T → Value) (fn : T → List Res) (hP : ∀ g, (Cf g).P = C.P) (hN : ∀ g, (Cf g).N = C.N) (hd : Nat.blt d C.N = true)
    (h : ∀ a w, At C fr hp a w → SyOp C.P ⟨some d, op, ty, pos, after, none⟩ a w fun x w' => ∃ g, p g ∧ x = X g ∧ At (Cf g) fr (fn g) a w')
    (k : ∀ g, p g → Lst (Cf g) ops Q rest ((d, X g) :: fr) (fn g)) : Lst C ops Q (⟨some d, op, ty, pos, after, none⟩ :: rest) fr hp := by
  intro a w ha
  simp only [wpList]
  rw [if_pos (show Region.wanted _ _ = true from rfl)]
  refine .inr ⟨fun x w' => ∃ g, p g ∧ x = X g ∧ At (Cf g) fr (fn g) a w', fun x w' ⟨g, hg, hx, ha'⟩ => ?_, fun v₁ h1 => h a v₁ (ha.later h1)⟩
  subst hx
  have := k g hg _ _ (ha'.put (by rw [hN g]; exact lt_of_blt hd) (X g))
  rw [hP g] at this
  exact this
/-- .. and yields none. -/
theorem lst_sync0 {T : Type} {op : Op} (p : T → Prop) (Cf : T → Ctx) (fn : T → List Res) (hP : ∀ g, (Cf g).P = C.P)
    (h : ∀ a w, At C fr hp a w → SyOp C.P ⟨none, op, ty, pos, after, none⟩ a w fun _ w' => ∃ g, p g ∧ At (Cf g) fr (fn g) a w')
    (k : ∀ g, p g → Lst (Cf g) ops Q rest fr (fn g)) : Lst C ops Q (⟨none, op, ty, pos, after, none⟩ :: rest) fr hp := by
  intro a w ha
  simp only [wpList]
  rw [if_pos (show Region.wanted _ _ = true from rfl)]
  refine .inr ⟨fun _ w' => ∃ g, p g ∧ At (Cf g) fr (fn g) a w', fun x w' ⟨g, hg, ha'⟩ => ?_, fun v₁ h1 => h a v₁ (ha.later h1)⟩
  have := k g hg _ _ ha'
  rw [hP g] at this
  exact this
/-- Loops and ghosts whose beginning turns. -/
def RndC {T : Type} (p : T → Prop) (μ : T → Nat) (Cf : T → Ctx) (f : T → List (Nat × Value)) (h : T → List Res) (g : T) (a : Act) (w : World) : Prop := ∃ g', p g' ∧ μ g' < μ g ∧ At (Cf g') (f g') (h g') a w
theorem cod_loopC {T : Type} {c : Code} (p : T → Prop) (μ : T → Nat) (Cf : T → Ctx) (f : T → List (Nat × Value)) (h : T → List Res) (hP : ∀ g, (Cf g).P = C.P) (g0 : T) (h0 : p g0) (hC : Cf g0 = C) (hs : Sub (f g0) fr) (hh : Pck (h g0) hp)
    (round : ∀ g, p g → Cod (Cf g) c (Exit.then (RndC p μ Cf f h g) Q) (f g) (h g)) : Cod C (.loop c) Q fr hp := by
  intro a w ha
  refine wp_loop_ghost (fun n a w => ∃ g, p g ∧ μ g = n ∧ At (Cf g) (f g) (h g) a w) (μ g0) ⟨g0, h0, rfl, by rw [hC]; exact (ha.drop_slots hs).pck hh⟩ ?_
  rintro n a w ⟨g, hg, rfl, hag⟩
  have := round g hg a w hag
  rw [hP g] at this
  refine wp_mono this fun e a w he => ?_
  cases e with
  | normal => obtain ⟨g', h1, h2, h3⟩ := he; exact ⟨μ g', h2, g', h1, rfl, h3⟩
  | _ => exact he
theorem ex_roundC {T : Type} {p : T → Prop} {μ : T → Nat} {g : T} {Cf : T → Ctx} {f : T → List (Nat × Value)} {h : T → List Res} (g' : T) (hC : Cf g' = C) (h0 : p g') (hm : μ g' < μ g) (hs : Sub (f g') fr) (hh : Pck (h g') hp) :
    Ex C (Exit.then (RndC p μ Cf f h g) Q) .normal fr hp := fun _ _ ha => ⟨g', h0, hm, by rw [hC]; exact (ha.drop_slots hs).pck hh⟩
/-- A row's type is a channel's. -/
theorem run_recv {t : TypeId} {dir : ChanDir} {elem : TypeId} {z : Value} {x : Operand} {n : Nat} {size bytes : Nat} (hx : ev fr x = some (.chan (some n))) (ht : C.P.underlying t = some (.chan dir elem)) (hz : TI C.P elem z size bytes) (ha : At C fr hp a w) (w' : World) :
    (execOp a.eval ⟨some d, .recv t x false, ty, pos, after, none⟩).run C.P w' = .ok (.comm #[rcase n z] true (.recv false)) w' := by
  obtain ⟨i, hi, hz0, _, _⟩ := hz
  simp [execOp, ha.eval hx, run_underlying ht, zeroValue, typeInfo, hi, hz0, rcase]
theorem run_send {x y : Operand} {n : Nat} {u : Value} (hx : ev fr x = some (.chan (some n))) (hy : ev fr y = some u) (ha : At C fr hp a w) (w' : World) :
    (execOp a.eval ⟨none, .send x y, ty, pos, after, none⟩).run C.P w' = .ok (.comm #[scase n u (.tuple #[])] true .send) w' := by
  simp [execOp, ha.eval hx, ha.eval hy, scase]
theorem run_go {x : Operand} {fn : Fn} {first captured : Array Value} {ts : Array TypeId} (hx : ev fr x = some (.func fn first captured)) (ha : At C fr hp a w) (w' : World) :
    (execOp a.eval ⟨none, .go { callee := .value x, args := #[], argTypes := ts }, ty, pos, after, none⟩).run C.P w' = .ok (.spawn { target := .fn fn captured, args := first }) w' := by
  simp [execOp, resolve, Deferred.ofValue, ha.eval hx]
end
end Go.Proofs.YtofkhehcnfiopaaDoor.N
namespace Go.Proofs.YtofkhehcnfiopaaDoor.N
open Go Go.RowKit Go.Conc
set_option autoImplicit false
set_option linter.unusedSectionVars false

/-! The receiver's walk: its beginning, as the ghost says. -/
/-- Where the walk began, what is lent seen frozen. -/
abbrev Cr (P : Program) (B N : Nat) (ds : List Deferred) (v0 : World) (s : Gst) : Ctx := ⟨P, B, saying (chill s.sl v0) s.enc, N, ds⟩
theorem chill_chill (o : Obj) : Obj.chill (Obj.chill o) = Obj.chill o := by cases o <;> rfl
theorem thaw_chill {c : Array Value} {t : TypeId} : Obj.thaw (Obj.chill (.cells c t (0, 0))) = .cells c t (0, 0) := rfl
section
variable {P : Program} {B N : Nat} {ds : List Deferred} {v0 v : World} {s : Gst} {fr : List (Nat × Value)} {hp hp' : List Res} {a : Act}
theorem At.outs (ha : At (Cr P B N ds v0 s) fr hp a v) : v.output = s.enc := ha.below.output
theorem At.oldR (ha : At (Cr P B N ds v0 s) fr hp a v) {b : Nat} (hb : b < B) : v.heap[b]? = (v0.heap[b]?).map fun o => if b ∈ s.sl then Obj.chill o else o := by
  rw [ha.below.block b hb]
  exact heap_chill s.sl v0 b
/-- Behind a go statement. -/
theorem At.hired (ha : At (Cr P B N ds v0 s) fr hp a v) {c : Nat} {l : List UInt8} {sl : List Nat} (hcB : B ≤ c) (hr : ∀ r ∈ hp', r.ok B (hideB c (chill sl v))) (hn : (hp'.filterMap Res.id).Nodup) :
    At (Cr P B N ds v0 ⟨c, s.sl ++ sl, s.pend ++ [l]⟩) fr hp' a (saying (hideB c (chill sl v)) (Gst.enc ⟨c, s.sl ++ sl, s.pend ++ [l]⟩)) := by
  refine ⟨ha.size, ha.defs, ha.slots, ⟨ha.below.os, ha.below.tape, rfl, ?_, fun k hk => ?_⟩, ?_, fun r h => ?_, hn⟩
  · have := ha.below.size
    simp only [saying, chill, hideB, Array.size_mapIdx] at this ⊢
    exact this
  · show (hideB c (chill sl v)).heap[k]? = (chill (s.sl ++ sl) v0).heap[k]?
    have hk' : k < B := hk
    have hkc : k ≠ c := by omega
    rw [heap_hideB, heap_chill, ha.oldR hk', heap_chill]
    cases v0.heap[k]? with
    | none => rfl
    | some o =>
      simp only [Option.map_some, hkc, if_false, List.mem_append]
      by_cases h1 : k ∈ s.sl <;> by_cases h2 : k ∈ sl <;> simp [h1, h2, chill_chill]
  · have := ha.base
    simp only [saying, chill, hideB, Array.size_mapIdx] at this ⊢
    exact this
  · have := hr r h
    cases r <;> exact this
/-- All is said: what was lent is one's own again. -/
theorem At.settled (ha : At (Cr P B N ds v0 s) fr hp a v) (hfz : ∀ b ∈ s.sl, b < B → ∃ cs t, v0.heap[b]? = some (.cells cs t (0, 0))) (hr : ∀ r ∈ hp', r.ok B (thaw s.sl v)) (hn : (hp'.filterMap Res.id).Nodup) :
    At (Cr P B N ds v0 ⟨0, [], []⟩) fr hp' a (saying (thaw s.sl v) (Gst.enc ⟨0, [], []⟩)) := by
  refine ⟨ha.size, ha.defs, ha.slots, ⟨ha.below.os, ha.below.tape, rfl, ?_, fun k hk => ?_⟩, ?_, fun r h => ?_, hn⟩
  · have := ha.below.size
    simp only [saying, chill, thaw, Array.size_mapIdx] at this ⊢
    exact this
  · show (thaw s.sl v).heap[k]? = (chill [] v0).heap[k]?
    have hk' : k < B := hk
    rw [heap_thaw, ha.oldR hk', heap_chill]
    cases hv : v0.heap[k]? with
    | none => rfl
    | some o =>
      by_cases h1 : k ∈ s.sl
      · obtain ⟨cs, t, h2⟩ := hfz k h1 hk'
        rw [hv] at h2
        cases h2
        simp [h1, thaw_chill]
      · simp [h1]
  · have := ha.base
    simp only [saying, thaw, Array.size_mapIdx] at this ⊢
    exact this
  · have := hr r h
    cases r <;> exact this
theorem At.startR (hout : v0.output = Gst.enc ⟨0, [], []⟩) (ha : At ⟨P, B, v0, N, ds⟩ fr hp a v) : At (Cr P B N ds v0 ⟨0, [], []⟩) fr hp a v :=
  ⟨ha.size, ha.defs, ha.slots, ⟨ha.below.os, ha.below.tape, ha.below.output.trans hout, by
    have := ha.below.size
    simp only [saying, chill, Array.size_mapIdx] at this ⊢
    exact this, fun k hk => by
      rw [ha.below.block k hk]
      show _ = (chill [] v0).heap[k]?
      rw [heap_chill]
      cases v0.heap[k]? <;> simp⟩, ha.base, ha.own, ha.apart⟩
theorem At.endR (hout : v0.output = Gst.enc ⟨0, [], []⟩) (ha : At (Cr P B N ds v0 ⟨0, [], []⟩) fr hp a v) : At ⟨P, B, v0, N, ds⟩ fr hp a v :=
  ⟨ha.size, ha.defs, ha.slots, ⟨ha.below.os, ha.below.tape, ha.below.output.trans hout.symm, by
    have := ha.below.size
    simp only [saying, chill, Array.size_mapIdx] at this ⊢
    exact this, fun k hk => by
      rw [ha.below.block k hk]
      show (chill [] v0).heap[k]? = _
      rw [heap_chill]
      cases v0.heap[k]? <;> simp⟩, ha.base, ha.own, ha.apart⟩
/-- What is not lent stays as it is when something is lent. -/
theorem Res.held {r : Res} {sl : List Nat} {c : Nat} (h : r.ok B v) (hn : ∀ k, r.id = some k → k ∉ sl ∧ k ≠ c) : r.ok B (hideB c (chill sl v)) :=
  Res.keep h fun k hk => by
    rw [heap_hideB, heap_chill]
    cases v.heap[k]? with
    | none => rfl
    | some o => simp [(hn k hk).1, (hn k hk).2]
theorem Res.lent {b c : Nat} {cs : Array Value} {t : TypeId} {fz : Nat × Nat} {sl : List Nat} (h : (Res.blk b (.cells cs t fz)).ok B v) (hb : b ∈ sl) (hc : b ≠ c) : (Res.blk b (.cells cs t (0, cs.size))).ok B (hideB c (chill sl v)) := by
  refine ⟨h.1, ?_⟩
  rw [heap_hideB, heap_chill, h.2]
  simp [hb, hc, Obj.chill]
theorem Res.gone {c : Nat} {o : Obj} {sl : List Nat} (h : (Res.blk c o).ok B v) : (Res.blk c blank).ok B (hideB c (chill sl v)) := by
  refine ⟨h.1, ?_⟩
  rw [heap_hideB, heap_chill, h.2]
  simp
/-- What is not frozen stays as it is when all comes back. -/
theorem Res.kept {r : Res} {sl : List Nat} (h : r.ok B v) (hw : ∀ b o, r = .blk b o → b ∉ sl) : r.ok B (thaw sl v) := by
  cases r with
  | blk b o =>
    refine ⟨h.1, ?_⟩
    rw [heap_thaw, h.2]
    simp [hw b o rfl]
  | row e size A n c xs =>
    obtain ⟨h1, h2⟩ := h
    refine ⟨h1, ?_⟩
    rcases h2 with h2 | ⟨g, cap, cur, hv, hg, hh, r⟩
    · exact .inl h2
    · refine .inr ⟨g, cap, cur, hv, hg, ?_, r⟩
      rw [heap_thaw, hh]
      simp only [Option.map_some]
      split <;> rfl
  | que e size A n c xs =>
    obtain ⟨h1, h2⟩ := h
    refine ⟨h1, ?_⟩
    rcases h2 with h2 | ⟨g, o, cur, hv, hg, hh, r⟩
    · exact .inl h2
    · refine .inr ⟨g, o, cur, hv, hg, ?_, r⟩
      rw [heap_thaw, hh]
      simp only [Option.map_some]
      split <;> rfl
theorem Res.back {b : Nat} {cs : Array Value} {t : TypeId} {fz : Nat × Nat} {sl : List Nat} (h : (Res.blk b (.cells cs t fz)).ok B v) (hb : b ∈ sl) : (Res.blk b (.cells cs t (0, 0))).ok B (thaw sl v) := by
  refine ⟨h.1, ?_⟩
  rw [heap_thaw, h.2]
  simp [hb, Obj.thaw]
/-- All is said: the walk goes on from what has come back. -/
theorem cod_settle {K : Prot} {code : Code} {Q : Exit → Act → World → Prop} (hp' : List Res) (hpe : s.pend = [])
    (h : ∀ a v, At (Cr P B N ds v0 s) fr hp a v → At (Cr P B N ds v0 ⟨0, [], []⟩) fr hp' a (saying (thaw s.sl v) (Gst.enc ⟨0, [], []⟩)))
    (k : @Cod (mSys P K) (Cr P B N ds v0 ⟨0, [], []⟩) code Q fr hp') : @Cod (mSys P K) (Cr P B N ds v0 s) code Q fr hp := by
  intro a v ha b kk cs hb
  refine @Gs.sync' P (mSys P K) _ _ _ fun v₁ h1 => ?_
  have ha1 := ha.later h1
  exact .inr (.inr ⟨rfl, s, ha1.outs, hpe, k a _ (h a v₁ ha1) b kk cs hb⟩)
end
end Go.Proofs.YtofkhehcnfiopaaDoor.N
namespace Go.Proofs.YtofkhehcnfiopaaDoor.N
open Go Go.RowKit Go.Conc
set_option autoImplicit false
set_option linter.unusedSectionVars false

/-! From a law's contract in company to its row. -/
/-- What the call is shown of the world in which it begins. -/
def unview : Obj → Obj
  | .view _ _ => blank
  | o => o
def seenW (W : World) : World := { W with heap := W.heap.map unview, output := Gst.enc ⟨0, [], []⟩ }
def Viewed (W : World) (b : Nat) : Prop := ∃ p t, W.heap[b]? = some (.view p t)
theorem heap_seenW (W : World) (b : Nat) : (seenW W).heap[b]? = (W.heap[b]?).map unview := by simp [seenW]
theorem hid_seenW (W : World) : Hid (Viewed W) (fun _ => False) W (seenW W) := by
  refine ⟨rfl, rfl, rfl, by simp [seenW], fun b ⟨p, t, h⟩ => (Array.getElem?_eq_some_iff.1 h).1, fun b h => h.elim, fun b ⟨p, t, h⟩ => ⟨0, (0, 0), by rw [heap_seenW, h]; rfl⟩, fun b h => h.elim, fun b hv _ => ?_, fun b o ho => ?_⟩
  · rw [heap_seenW]
    cases h : W.heap[b]? with
    | none => rfl
    | some o =>
      cases o with
      | view p t => exact absurd ⟨p, t, h⟩ hv
      | _ => rfl
  · rw [heap_seenW] at ho
    cases h : W.heap[b]? with
    | none => rw [h] at ho; cases ho
    | some o' =>
      rw [h] at ho
      simp only [Option.map_some, Option.some.injEq] at ho
      subst ho
      cases o' <;> trivial
theorem cell_seenW {W : World} {p : Addr} {u : Value} (h : W.cell? p = some u) : (seenW W).cell? p = some u := by
  unfold World.cell? at *
  rw [heap_seenW]
  cases hb : W.heap[p.block]? with
  | none => rw [hb] at h; cases h
  | some o =>
    rw [hb] at h
    cases o <;> first | exact h | cases h
section
variable {P : Program} {W : World} {f : FuncId} {args : Array Value} {Post : Value → World → Prop}
theorem below_real {F : Nat → Prop} {w w' v' : World} (hk : Kept F (fun _ => False) w w') (hv : Hid F (fun _ => False) w' v') (hb : Bas W (Viewed W) (fun i => i = 0) (fun _ => F) w) (hv0 : Below (seenW W).heap.size (seenW W) v') : Below W.heap.size W w' := by
  refine ⟨hk.os.trans hb.os, hk.tape.trans hb.tape, hk.output.trans hb.output, Nat.le_trans hb.size hk.size, fun b hlt => ?_⟩
  by_cases hF : F b
  · rw [hk.block b (Nat.lt_of_lt_of_le hlt hb.size) (.inl hF)]
    exact (hb.held b (hb.new b hlt hF)).2.1
  · rw [← hv.same b hF (fun x => x), hv0.block b (by simpa [seenW] using hlt), heap_seenW]
    cases h : W.heap[b]? with
    | none => rfl
    | some o =>
      cases o with
      | view p t => exact absurd ((hb.held b ⟨p, t, h⟩).2.2 0 rfl) hF
      | _ => rfl
theorem runs_of_views {K : Prot} (hK : K.low = W.heap.size) (noInit : P.inits.idxOf? f = none)
    (h : @Calls P (mSys P K) f args (seenW W) fun e v' => ∃ x, e = .returned x ∧ Below (seenW W).heap.size (seenW W) v' ∧ ∀ W', Below W.heap.size W W' → Post x W') :
    ∃ N last o w' t', runNT P (N + 1) (solo (G (Frame.enter P f args .normal) []) W) #[] = (.ended o w', t') ∧ runN P N (solo (G (Frame.enter P f args .normal) []) W) = .next last ∧ step P last = .ended o w' ∧ Go.Conc.Good P Post last o w' t' := by
  refine many_ends K hK (hid_seenW W) rfl (@Gs.mono P (mSys P K) _ _ _ _ (h []) fun g v' hs => ?_)
  obtain ⟨e, fr, v₀, ⟨x, rfl, hb, hp⟩, hr, rfl, hfn, hm, hd, hkd, fn, hf, ht, hres⟩ := hs
  have hb' : Below (seenW W).heap.size (seenW W) v' := hb.trans (hr.mono hb.size)
  refine ⟨rfl, hb'.output, fun F w hv hbas => ?_⟩
  obtain ⟨w', h1, h2, h3, h4, h5⟩ := ht.ok (hres v' (Rl.refl v')) hv
  have hno : P.inits.idxOf? fr.fn = none := by rw [hfn]; exact noInit
  refine ⟨x, w', seen P fr.fn ((results fn fr.tmps).events P v' #[]), ?_, ?_, hp w' (below_real h4 h3 hbas hb')⟩
  · rw [← h2]
    simp [G, stepG, unwind, doReturn, hm, hd, hkd, hf, h1, hno, GStep.after]
  · rw [← hv.size]
    exact fun e he => h5 e (Go.Conc.mem_seen he)
end
theorem returnsInLeavingWide_of_views {H : Type} {enc : TypeId × Value → H} {a : Assume} {C : Checked} {os : Os} {f : FuncId} {fn : Func} {s : ChangeSpec} {conds : List PathCond} {apart fresh handsOn again : Bool} {X : World → Array Value → Prop}
    (hX : ∀ (w w' : World) (args : Array Value), w.heap = w'.heap → X w args → X w' args)
    (own : ownKnob C.prog.godebug = none) (started : os.Started) (noInit : C.prog.inits.idxOf? f = none) (hfn : C.prog.funcs[f]? = some fn)
    (witness : ∃ (w : World) (tape : Tape) (i : Input), w.os = os ∧ (w.forCall tape i).Shaped C.prog ∧ i.vars = [] ∧ Input.okWide C.prog (w.forCall tape i) .any w.heap.size f i ∧
      ((s.pre enc C.prog fn conds apart (w.forCall tape i).memory i.args ∧ X (w.forCall tape i).memory i.args) ∧ sizedMet enc C.prog fn (OpenSpec.ofChange s) apart (w.forCall tape i).memory i.args) ∧ a.holds C.prog (lone (Frame.enter C.prog f i.args .normal) [] (w.forCall tape i)))
    (contract : ∀ (W : World) (base : Nat) (args : Array Value) (ds gs : List (DataW H)) (before : List MemPlace),
      (∀ (j : Nat) t v, fn.params[j]? = some t → args[j]? = some v → Value.okWide C.prog W .any base t v) →
      DataW.Whole enc C.prog fn.params.toList s.vars apart W args.toList ds gs before →
      conds.all (PathCond.test C.prog ⟨fn.params.toList, ds, s.plain.varTypes C.prog, gs⟩) = true →
      (DataW.weightsEach C.prog (fn.params.toList ++ s.plain.varTypes C.prog) (ds ++ gs)).all (· ≤ reachBytes) = true → X W args →
      a.holds C.prog (lone (Frame.enter C.prog f args .normal) [] W) →
      ∃ K : Prot, K.low = W.heap.size ∧ @Calls C.prog (mSys C.prog K) f args (seenW W) fun e v' => ∃ x, e = .returned x ∧ Below (seenW W).heap.size (seenW W) v' ∧ ∀ W', Below W.heap.size W W' → s.post enc C.prog fn apart fresh handsOn again W args x W') :
    ReturnsInLeavingWide a C os f .any (fun w args => (s.pre enc C.prog fn conds apart w args ∧ X w args) ∧ sizedMet enc C.prog fn (OpenSpec.ofChange s) apart w args) (s.post enc C.prog fn apart fresh handsOn again) := by
  refine returnsInLeavingWide_of_good own started witness ?_
  intro w tape i _ _ _ hok hpre hholds
  obtain ⟨_, _, _, fn', hfn', _, _, _, _, hval⟩ := hok
  have e : fn' = fn := Option.some.inj (hfn'.symm.trans hfn)
  subst e
  obtain ⟨⟨⟨ds, gs, before, hw, hc⟩, hx⟩, hz⟩ := hpre
  have hw' := DataW.Whole.of_heap (w' := w.forCall tape i) (by rfl) hw
  obtain ⟨K, hK, hcalls⟩ := contract (w.forCall tape i) w.heap.size i.args ds gs before hval hw' hc (hz.weights hw) (hX _ _ _ (by rfl) hx) hholds
  obtain ⟨M, last, o, w', t', h1, h2, h3, h4⟩ := runs_of_views hK noInit hcalls
  exact ⟨M, last, o, w', t', h1, h2, h3, h4.mono fun v hp => ChangeSpec.post_blind hp⟩
end Go.Proofs.YtofkhehcnfiopaaDoor.N
namespace Go.Proofs.YtofkhehcnfiopaaDoor.N
open Go Go.RowKit Go.Conc
set_option autoImplicit false
set_option linter.unusedSectionVars false

/-! A worker's first step, and its last. -/
/-- What stands under a worker's function. -/
def bornF (P : Program) : Frame := { (default : Frame) with fn := P.funcs.size, defers := [], mode := .panicking [goexitEntry] }
def bD (f : FuncId) : Frame := { (default : Frame) with fn := f, kind := .deferred }
section
variable {P : Program} {K : Prot} {c : Nat} {v : World}
theorem works_born {d : Deferred} {fv : Fn} {cap : Array Value} {f : FuncId} {args : Array Value} (ht : d.target = .fn fv cap) (hi : Invokes P fv cap d.args f args)
    (h : @Gs P (wSys P K c) (WStop P) (G (Frame.enter P f args .deferred) [bornF P]) v) : Works P K c (born P d) v := by
  refine @Gs.step' P (wSys P K c) _ _ _ rfl fun v₁ h1 => ?_
  obtain ⟨es, he⟩ := Stp.deferred (I := wSys P K c) (P := P) (main := false) (fr := { (default : Frame) with fn := P.funcs.size, defers := [d], mode := .panicking [goexitEntry] }) (cs := []) (v := v₁) (d := d) (ds := []) (by simp) rfl ht hi
  exact ⟨_, _, es, he, @Gs.rely P (wSys P K c) _ _ _ _ h h1⟩
theorem enter_bD {f : FuncId} {fn : Func} {code : Code} (args : Array Value) (hf : P.funcs[f]? = some fn) (hb : fn.body = some code) :
    Frame.enter P f args .deferred = (bD f).atR { tmps := args ++ Array.replicate (fn.ntmps - args.size) undef, defers := [] } [.code code] := by
  simp [Frame.enter, Frame.atR, hf, hb, bD]
  rfl
/-- Behind its last word it only leaves. -/
theorem quits_bD {f : FuncId} {fn : Func} (hf : P.funcs[f]? = some fn) (hr : fn.results = #[]) {a : Act} (hd : a.defers = []) (ops : Array Oper) : QuitsD P 4 0 (G ((bD f).atR a [.inRegion ops []]) [bornF P]) := by
  refine .ctl rfl (fun _ => stepX_region_end) (.ctl rfl (fun _ => stepX_end rfl) (.ctl (g' := G (bornF P) []) rfl (fun w => ?_) (.ctl (g' := { G (bornF P) [] with status := .finished }) rfl (fun w => ?_) ⟨rfl, rfl⟩)))
  · have h1 := results_none hr a.tmps P w
    have h2 := events_results_none hr a.tmps #[] (P := P) (w := w)
    simp [G, stepG, unwind, doReturn, Frame.atR, bD, hd, hf, h1, h2, seen, GStep.after, bornF, goexitEntry]
  · have h0 : (default : Frame).todo = [] := rfl
    simp [G, stepG, unwind, bornF, Frame.catches, goexitEntry, h0]
end

/-! A region in whatever order, one of whose operations the others take part in. -/
section
variable [I : Sys] {C : Ctx} {fr : List (Nat × Value)} {hp hpS : List Res} {a : Act} {w : World} {ops : Array Oper} {Q : Exit → Act → World → Prop} {fuel d : Nat} {listed listed' : Array Bool} {ty : TypeId} {pos : String} {after : Array Edge}
abbrev Ctx.out (C : Ctx) (o : Array (Nat × ByteArray)) : Ctx := C.re C.B (saying C.w0 o)
theorem At.out (ha : At C fr hp a w) : At (C.out C.w0.output) fr hp a w := ha
def MemO (C : Ctx) (hp : List Res) (w : World) : Prop := ∃ o, Mem (C.out o) hp w
theorem MemO.rely {hp : List Res} (w w' : World) (h : MemO C hp w) (hr : Rl w w') : MemO C hp w' := by
  obtain ⟨o, h⟩ := h
  exact ⟨o, Mem.rely w w' h hr⟩
def AnyO (C : Ctx) (ops : Array Oper) (Q : Exit → Act → World → Prop) (hpS : List Res) (fuel : Nat) (listed : Array Bool) (fr : List (Nat × Value)) (hp : List Res) : Prop :=
  ∀ a w, At C fr hp a w → wpAnyH C.P .any ops (Lax (OnlyN Q)) (MemO C hpS) fuel listed a w
theorem anyO_start {id : Nat} {l : List Oper} (hm : C.P.follows .mixedOrders = true) (n : Nat) (hn : l.length = n) (lst : List Bool) (hl : Array.replicate n false = lst.toArray) (h : AnyO C l.toArray Q hpS n lst.toArray fr hp) :
    Cod C (.region id l.toArray true) Q fr hp := by
  intro a w ha
  refine wp_mono (Q := OnlyN Q) (wp_lax (wp_region_held (S := MemO C hpS) hm ?_)) ?_
  · have h1 := h a _ ha
    rw [← hl] at h1
    simpa [hn] using h1
  · intro e a' w' he
    cases e with
    | normal => exact he
    | _ => exact he.elim
theorem anyO_take {o : Oper} {v : Value} (i : Nat) (hi : ops[i]? = some o) (hdst : o.dst = some d) (hd : Nat.blt d C.N = true) (hns : Region.noSelect ops = true) (hf : Region.free .any ops listed i = true) (hr : (Region.ready .any ops listed).contains i = true)
    (hs : hpS.Sublist hp) (y : ∀ x, Yld (C.out x) o fr hpS v) (hl : listed.setIfInBounds i true = listed') (k : AnyO C ops Q hpS fuel listed' ((d, v) :: fr) hp) : AnyO C ops Q hpS (fuel + 1) listed fr hp := by
  intro a w ha
  refine wpAnyH_take MemO.rely (fun _ _ _ h hr => h.rely hr) hi hns hf hr (fun c a w h => h.elim fun _ h => h.1.elim) (.inl ⟨?_, ((y C.w0.output).2 a w (ha.out.ofMem (ha.out.toMem hs))).1, fun w' ⟨x, hw'⟩ => ((y x).2 a w' ⟨ha.size, ha.defs, ha.slots, hw'.1, hw'.2.1, hw'.2.2.1, hw'.2.2.2⟩).2⟩) ⟨C.w0.output, ha.out.toMem hs⟩ ?_
  · unfold Region.wanted; rw [(y C.w0.output).1]
  · rw [hl, hdst]
    exact k _ _ (ha.put (lt_of_blt hd) v)
def NxtO (C : Ctx) (ops : Array Oper) (Q : Exit → Act → World → Prop) (hpS : List Res) (fuel : Nat) (listed : Array Bool) (a : Act) (w : World) : Prop :=
  MemO C hpS w ∧ wpAnyH C.P .any ops (Lax (OnlyN Q)) (MemO C hpS) fuel listed a w
theorem anyO_one {o : Oper} (i : Nat) (hr : Region.ready .any ops listed = [i]) (hi : ops[i]? = some o) (hl : listed.setIfInBounds i true = listed') (h : Lst C ops (Exit.then (NxtO C ops Q hpS fuel listed') (Lax (OnlyN Q))) [o] fr hp) : AnyO C ops Q hpS (fuel + 1) listed fr hp := by
  intro a w ha
  refine wpAnyH_all hr (by simp) ?_
  intro k hk
  simp at hk
  subst hk
  rw [hl]
  exact op_of_lst hi h ha
theorem anyO_next (hs : hpS.Sublist hp) (h : AnyO C ops Q hpS fuel listed fr hp) : Ex C (Exit.then (NxtO C ops Q hpS fuel listed) (Lax (OnlyN Q))) .normal fr hp :=
  fun a w ha => ⟨⟨C.w0.output, ha.out.toMem hs⟩, h a w ha⟩
/-- The last of them has been said: nothing is left to do. -/
theorem anyO_last {x : Array (Nat × ByteArray)} (hs : hpS.Sublist hp) (hr : Region.ready .any ops listed = []) (h : Ex (C.out x) Q .normal fr hp) : Ex (C.out x) (Exit.then (NxtO C ops Q hpS fuel listed) (Lax (OnlyN Q))) .normal fr hp :=
  fun a w ha => ⟨⟨x, ha.toMem hs⟩, wpAnyH_done hr (Lax.of (show OnlyN Q .normal a w from h a w ha)) fuel⟩
end
end Go.Proofs.YtofkhehcnfiopaaDoor.N
namespace Go.Proofs.YtofkhehcnfiopaaDoor.N
open Go Go.RowKit Go.Conc
set_option autoImplicit false
set_option linter.unusedSectionVars false

/-! Channels in the walk; a walk in pieces. -/
instance Cells.chan (c : Option Nat) : Cells (.chan c) [.chan c] := ⟨rfl, by simp [Value.oneCell']⟩
section
variable {P : Program} {ev : Operand → Value} {dst : Option Tmp} {ty : TypeId} {pos : String} {after : Array Edge} {on_ : Option (Nat × Bool)}
theorem tame_makeChan (t : TypeId) (s : Operand) : Tame P (execOp ev ⟨dst, .makeChan t s, ty, pos, after, on_⟩) :=
  tame_value _ (Tame.bind (tame_asInt _) fun n => Tame.bind (tame_underlying _) fun u => by
    split
    · refine Tame.bind (tame_typeInfo _) fun i => ?_
      split
      · trivial
      · exact Tame.bind (tame_newObj _ trivial) fun _ => trivial
    · trivial)
theorem tame_recvOp (t : TypeId) (x : Operand) (f : Bool) : Tame P (execOp ev ⟨dst, .recv t x f, ty, pos, after, on_⟩) :=
  Tame.bind (tame_underlying _) fun u => by
    split
    · exact Tame.bind (tame_zeroValue _) fun _ => trivial
    · trivial
theorem tame_goV {x : Operand} {ts : Array TypeId} : Tame P (execOp ev ⟨dst, .go { callee := .value x, args := #[], argTypes := ts }, ty, pos, after, on_⟩) := by
  show Tame P (Deferred.ofValue _ _ >>= fun d => pure (Next.spawn d))
  refine Tame.bind ?_ fun _ => trivial
  unfold Deferred.ofValue
  split <;> trivial
end
section
variable [I : Sys] {C : Ctx} {fr : List (Nat × Value)} {hp : List Res} {a : Act} {w : World} {ops : Array Oper} {Q : Exit → Act → World → Prop} {rest : List Oper} {d : Nat} {ty : TypeId} {pos : String} {after : Array Edge}
theorem lst_makeChan {t elem : TypeId} {dir : ChanDir} {z : Value} {size bytes : Nat} (hd : Nat.blt d C.N = true) (ht : C.P.underlying t = some (.chan dir elem)) (hi : TI C.P elem z size bytes)
    (k : ∀ b, Lst C ops Q rest ((d, .chan (some b)) :: fr) (.blk b (.chan 0 #[] false 0 0 false) :: hp)) : Lst C ops Q (⟨some d, .makeChan t (.const (.int .i64 0)), ty, pos, after, none⟩ :: rest) fr hp := by
  refine lst_of rfl fun a w ha => ?_
  obtain ⟨i, hi, _, _, _⟩ := hi
  refine ⟨tame_makeChan .., ?_⟩
  have hr : (execOp a.eval ⟨some d, .makeChan t (.const (.int .i64 0)), ty, pos, after, none⟩).run C.P w = .ok (.value (.chan (some w.heap.size))) (w.alloc (.chan 0 #[] false 0 0 false)) := by
    have h0 : a.eval (.const (.int .i64 0)) = .int .i64 0 := rfl
    have h1 : IntKind.i64.max = 9223372036854775807 := rfl
    simp only [execOp, Instr.makeChan, h0, asInt, asIntOf, Sem.run_bind, Sem.run_pure, Result.andThen_ok, run_underlying ht, typeInfo]
    simp [hi, h1]
  rw [hr]
  exact k w.heap.size _ _ ((ha.alloc (.chan 0 #[] false 0 0 false)).put (lt_of_blt hd) _)
/-- A load of one cell of a block that may be frozen. -/
theorem lst_load_fz {x : Operand} {t ct : TypeId} {b : Nat} {v : Value} {fz : Nat × Nat} (hd : Nat.blt d C.N = true) (hx : ev fr x = some (.pointer (some ⟨b, 0, none⟩))) (ht : One C.P t)
    [hm : InB b (.cells [v].toArray ct fz) hp] (k : Lst C ops Q rest ((d, v) :: fr) hp) : Lst C ops Q (⟨some d, .load t x, ty, pos, after, none⟩ :: rest) fr hp :=
  lst_load_at hd hx ht (fun _ w ha => by rw [cell_of_row w b 0 [v].toArray ct fz (ha.mem_blk hm.mem)]; rfl) k
end
theorem at_args [I : Sys] {P : Program} {vs : List Value} {N : Nat} {v : World} (hle : Nat.ble vs.length N = true) : At ⟨P, v.heap.size, v, N, []⟩ (idx 0 vs) [] { tmps := vs.toArray ++ Array.replicate (N - vs.toArray.size) undef, defers := [] } v := by
  refine ⟨?_, rfl, ?_, Below.refl _ _, Nat.le_refl _, (fun r hr => by cases hr), List.nodup_nil⟩
  · have : vs.length ≤ N := by simpa [Nat.ble_eq] using hle
    simp; omega
  · intro t v ht
    obtain ⟨j, rfl, hj⟩ := look_idx vs 0 t v ht
    have hjl : j < vs.length := by
      rcases Nat.lt_or_ge j vs.length with h1 | h1
      · exact h1
      · rw [List.getElem?_eq_none h1] at hj; cases hj
    simp only [Nat.zero_add, Array.getD_eq_getD_getElem?]
    rw [Array.getElem?_append_left (by simpa using hjl)]
    simp [hj]
section
variable {P : Program} [I : Sys] {Stop : Goroutine → World → Prop} {b : Frame} {k : List Item} {cs : List Frame} {a : Act} {v : World}
/-- What comes behind a piece is known as a run. -/
theorem gs_seq {x y : Code} (hb : Ok b (x.seq y)) (h : wp P x (Exit.then (fun a v => Gs P Stop (G (b.atR a (.code y :: k)) cs) v) (fun _ _ _ => False)) a v) : Gs P Stop (G (b.atR a (.code (x.seq y) :: k)) cs) v :=
  .one rfl (fun _ => stepX_seq) ((h b (.code y :: k) cs hb.seq1).bind (by
    rintro g w ⟨e, a', v0, hq, hr, harr⟩
    cases e with
    | normal =>
      obtain rfl := harr
      exact Gs.rely hq hr
    | _ => exact hq.elim))
theorem gs_yld {C : Ctx} {fr : List (Nat × Value)} {hp : List Res} {ops : Array Oper} {i : Nat} {rest : List Nat} {o : Oper} {x : Value} (ha : At C fr hp a v) (ho : ops[i]? = some o) (hb : b.kind ≠ .early) (hod : OkOp b o) (y : Yld C o fr hp x)
    (h : Gs C.P Stop (G (b.atR (a.put o.dst x) (.inRegion ops rest :: k)) cs) v) : Gs C.P Stop (G (b.atR a (.inRegion ops (i :: rest) :: k)) cs) v := by
  have hw : Region.wanted o (yielded ops a.tmps) = true := by unfold Region.wanted; rw [y.1]
  refine Gs.step' rfl fun v₁ h1 => ?_
  obtain ⟨ht, hr⟩ := y.2 a v₁ (ha.later h1)
  exact ⟨_, _, _, .oper ht hr (fun _ _ hr => stepX_value ho hw hod hb hr), h.rely h1⟩
end
end Go.Proofs.YtofkhehcnfiopaaDoor.N
namespace Go.Proofs.YtofkhehcnfiopaaDoor.N
open Go Go.RowKit Go.Conc
set_option autoImplicit false
set_option linter.unusedSectionVars false
section
variable [I : Sys] {C : Ctx} {fr : List (Nat × Value)} {hp hp' : List Res} {a : Act} {w : World} {ops : Array Oper} {Q : Exit → Act → World → Prop}
/-- A block of one cell is a row of one. -/
theorem At.blk_row1 (ha : At C fr hp a w) {b e : Nat} {v : Value} (hu : Upd (.blk b (.cells [v].toArray e (0, 0))) (.row e 1 (some ⟨b, 0, none⟩) 1 1 [v]) hp hp') : At C fr hp' a w := by
  have hb := ha.own _ hu.mem
  refine ha.turn hu (⟨rfl, rfl, rfl, Nat.le_refl _, fun _ _ _ => rfl⟩ : w.grownBy w _) ⟨by simp, .inr ⟨b, 1, #[v], rfl, hb.1, hb.2, Nat.le_refl _, by unfold maxLen; omega, by simp, by simp⟩⟩ (fun k hk => .inl ?_)
  exact hk
theorem lst_blk_row1 {l : List Oper} {b e : Nat} {v : Value} (hu : Upd (.blk b (.cells [v].toArray e (0, 0))) (.row e 1 (some ⟨b, 0, none⟩) 1 1 [v]) hp hp') (h : Lst C ops Q l fr hp') : Lst C ops Q l fr hp := fun a w ha => h a w (ha.blk_row1 hu)
theorem cod_startR {P : Program} {B N : Nat} {ds : List Deferred} {v0 : World} {code : Code} (hout : v0.output = Gst.enc ⟨0, [], []⟩) (h : Cod (Cr P B N ds v0 ⟨0, [], []⟩) code Q fr hp) : Cod ⟨P, B, v0, N, ds⟩ code Q fr hp := fun a w ha => h a w (ha.startR hout)
end
theorem At.saidR [I : Sys] {P : Program} {B N : Nat} {ds : List Deferred} {v0 v : World} {s : Gst} {fr : List (Nat × Value)} {hp : List Res} {a : Act} (ha : At (Cr P B N ds v0 s) fr hp a v) (s' : Gst) (h : s'.sl = s.sl) : At (Cr P B N ds v0 s') fr hp a (saying v s'.enc) := by
  show At ⟨P, B, saying (chill s'.sl v0) s'.enc, N, ds⟩ fr hp a (saying v s'.enc)
  rw [h]
  exact ha.said s'.enc
/-- What reads in a world reads where a few of its blocks are shown alone. -/
theorem rdl_only {α : Type} {cells : α → List Value} {size : Nat} {v0 w : World} {A : Option Addr} {l : List α} {sl : List Nat} (h : RdL cells size v0 A l)
    (hb : 0 < l.length → ∀ g o, A = some ⟨g, o, none⟩ → g ∈ sl ∧ ∃ cs t fz fz', v0.heap[g]? = some (.cells cs t fz) ∧ w.heap[g]? = some (.cells cs t fz')) : RdL cells size (onlyV sl w) A l := fun hl => by
  obtain ⟨b, o, h1, h2, h3⟩ := h hl
  obtain ⟨hm, cs, t, fz, fz', e1, e2⟩ := hb hl b o h1
  have e3 : (onlyV sl w).heap[b]? = some (.cells cs t (0, cs.size)) := by rw [heap_onlyV, e2]; simp [hm, Obj.chill]
  refine ⟨b, o, h1, (Array.getElem?_eq_some_iff.1 e3).1, fun k x hk j u hu => ?_⟩
  have := h3 k x hk j u hu
  rw [cell_of_row v0 b _ cs t fz e1] at this
  rw [cell_of_row _ b _ cs t _ e3]
  exact this
def u8s (l : List Nat) : List Value := l.map (fun (y : Nat) => Value.int .u8 ((y : Nat) : Int))
theorem u8s_snoc (l : List Nat) (x : Nat) : u8s (l ++ [x]) = u8s l ++ [.int .u8 (x : Int)] := by simp [u8s]
/-- How many words are still to be said. -/
def words (pend : List (List UInt8)) : Nat := (pend.map List.length).sum
theorem words_set {pend : List (List UInt8)} {i : Nat} {b : UInt8} {l : List UInt8} (h : pend[i]? = some (b :: l)) : words (pend.set i l) < words pend := by
  induction pend generalizing i with
  | nil => simp at h
  | cons a pend ih =>
    cases i with
    | zero =>
      simp at h
      subst h
      simp [words]
    | succ i =>
      have := ih (i := i) (by simpa using h)
      simp [words] at this ⊢
      exact this
theorem words_erase {pend : List (List UInt8)} {i : Nat} {b : UInt8} {l : List UInt8} (h : pend[i]? = some (b :: l)) : words (pend.eraseIdx i) < words pend := by
  induction pend generalizing i with
  | nil => simp at h
  | cons a pend ih =>
    cases i with
    | zero =>
      simp at h
      subst h
      simp [words]
    | succ i =>
      have := ih (i := i) (by simpa using h)
      simp [words] at this ⊢
      exact this
end Go.Proofs.YtofkhehcnfiopaaDoor.N
namespace Go.Proofs.YtofkhehcnfiopaaDoor.N
open Go Go.RowKit Go.Proofs
set_option linter.unusedSectionVars false
variable [I : Sys]
variable {C : Ctx} {fr : List (Nat × Value)} {hp : List Res} {ops : Array Oper} {Q : Exit → Act → World → Prop} {rest : List Oper} {d : Nat} {ty : TypeId} {pos : String} {after : Array Edge}
theorem elem_of {P : Program} {t e : TypeId} (ht : P.underlying t = some (.slice e)) : P.elem t = e := by
  unfold Program.elem
  rw [ht]
/-- x[:h]. -/
theorem lst_slice_h {x y : Operand} {t e : TypeId} {A : Option Addr} {h len cap n m : Nat} {kd : IntKind} {i : Int} {z : Value} (hd : Nat.blt d C.N = true) (hx : ev fr x = some (.slice A len cap)) (hy : ev fr y = some (.int kd i))
    (ht : C.P.underlying t = some (.slice e)) (he : TI C.P e z n m) (hi : i = (h : Int)) (hc : h ≤ cap)
    (k : Lst C ops Q rest ((d, .slice A h cap) :: fr) hp) : Lst C ops Q (⟨some d, .slice t x none (some y) none, ty, pos, after, none⟩ :: rest) fr hp := by
  obtain ⟨i', hi', _, hs, _⟩ := he
  subst hi
  have hu := ht
  rw [← elem_of ht] at hu
  refine lst_value _ hd (fun _ _ _ => tame_slice ..) (fun a w ha => ⟨w, ?_, ha⟩) k
  have h1 := run_slice_h (P := C.P) w t A len cap hu kd (h : Int) (by omega) (by omega)
  have h2 : (Instr.sliceAt t (.slice A len cap) none (some (.int kd (h : Int))) none).run C.P w = .ok (.slice A h cap) w := by
    rw [run_sliceAt_slice _ _ _ _ _ _ hu, h1]
    have : (sizeOf (C.P.elem t)).run C.P w = .ok n w := by
      rw [elem_of ht]
      simp [sizeOf, typeInfo, hi', hs]
    rw [this]
    simp only [Result.andThen_ok, sliced, Int.toNat_natCast, Nat.zero_mul, Nat.sub_zero]
    congr 2
    split
    · rfl
    · cases A with
      | none => rfl
      | some p => simp [Addr.add]
  simp only [execOp, ha.eval hx, Option.map, ha.eval hy, Sem.run_bind, h2, Result.andThen_ok, Sem.run_pure]
theorem RdL.take {α : Type} {cells : α → List Value} {size : Nat} {w : World} {A : Option Addr} {l : List α} (h : RdL cells size w A l) (n : Nat) : RdL cells size w A (l.take n) := fun hl => by
  rw [List.length_take] at hl
  obtain ⟨b, o, h1, h2, h3⟩ := h (by omega)
  refine ⟨b, o, h1, h2, fun k x hk j u hu => h3 k x ?_ j u hu⟩
  rw [List.getElem?_take] at hk
  split at hk
  · exact hk
  · cases hk
theorem RdL.drop {α : Type} {cells : α → List Value} {size : Nat} {w : World} {A : Option Addr} {l : List α} (h : RdL cells size w A l) {n cap : Nat} (hc : l.length ≤ cap) : RdL cells size w (if cap = n then A else A.map (·.add (n * size))) (l.drop n) := fun hl => by
  rw [List.length_drop] at hl
  obtain ⟨b, o, h1, h2, h3⟩ := h (by omega)
  rw [if_neg (by omega), h1]
  refine ⟨b, o + n * size, by rw [Option.map_some, addr_add], h2, fun k x hk j u hu => ?_⟩
  rw [List.getElem?_drop] at hk
  have := h3 (n + k) x hk j u hu
  rw [← this]
  congr 2
  rw [Nat.add_mul]
  omega
end Go.Proofs.YtofkhehcnfiopaaDoor.N
namespace Go.Proofs.YtofkhehcnfiopaaDoor.N
open Go Go.RowKit Go.Proofs
set_option linter.unusedSectionVars false
variable [I : Sys]
variable {C : Ctx} {fr : List (Nat × Value)} {hp : List Res} {ops : Array Oper} {Q : Exit → Act → World → Prop} {rest : List Oper} {d : Nat} {ty : TypeId} {pos : String} {after : Array Edge}
/-- a[i] of an array's value, its elements of several cells. -/
theorem lst_index_v {x y : Operand} {t e : TypeId} {cs l : List Value} {len j n m : Nat} {kd : IntKind} {i : Int} {z : Value} (hd : Nat.blt d C.N = true) (hx : ev fr x = some (.agg cs.toArray)) (hy : ev fr y = some (.int kd i))
    (ht : C.P.underlying t = some (.array len e)) (hg : aggB C.P e = true) (he : TI C.P e z n m) (hi : i = (j : Int)) (hj : j < len) (hl : (cs.drop (j * n)).take n = l)
    (k : Lst C ops Q rest ((d, .agg l.toArray) :: fr) hp) : Lst C ops Q (⟨some d, .index t x y, ty, pos, after, none⟩ :: rest) fr hp := by
  obtain ⟨i', hi', _, hs, _⟩ := he
  subst hi
  subst hl
  refine lst_value _ hd (fun _ _ _ => tame_indexVal ..) (fun a w ha => ⟨w, ?_, ha⟩) k
  have h1 : (isAgg e).run C.P w = .ok true w := by
    unfold aggB at hg
    cases hu : C.P.underlying e with
    | none => rw [hu] at hg; cases hg
    | some de =>
      rw [hu] at hg
      have := run_underlying hu w
      cases de <;> simp_all [isAgg]
  have h2 : (sizeOf e).run C.P w = .ok n w := by simp [sizeOf, typeInfo, hi', hs]
  have h3 : (Instr.index t (.agg cs.toArray) (.int kd (j : Int))).run C.P w = .ok (.agg ((cs.drop (j * n)).take n).toArray) w := by
    have hb : (0 ≤ (j : Int) ∧ (j : Int) < (len : Int)) := by omega
    simp only [Instr.index, asIntOf, Sem.run_bind, Sem.run_pure, Result.andThen_ok, run_underlying ht, if_pos hb, h2, part, h1, if_true, Int.toNat_natCast]
    congr 2
    rw [List.extract_toArray, List.extract_eq_take_drop]
    congr 2
    omega
  simp only [execOp, ha.eval hx, ha.eval hy, Sem.run_bind, h3, Result.andThen_ok, Sem.run_pure]
/-- ^x of 64 bits. -/
theorem lst_not64 {x : Operand} {t : TypeId} {a r : Nat} (hd : Nat.blt d C.N = true) (hx : ev fr x = some (.int .u64 (a : Int))) (ha : a < 18446744073709551616) (hr : 18446744073709551615 ^^^ a = r)
    (k : Lst C ops Q rest ((d, .int .u64 (r : Int)) :: fr) hp) : Lst C ops Q (⟨some d, .unOp .xor t x, ty, pos, after, none⟩ :: rest) fr hp := by
  subst hr
  refine lst_value _ hd (fun _ _ _ => tame_unOp ..) (fun a' w ha' => ⟨w, ?_, ha'⟩) k
  have h := u64_xor 18446744073709551615 a (by omega) ha
  have h1 : (Op.unary .xor (.int .u64 (a : Int))).run C.P w = .ok (.int .u64 ((18446744073709551615 ^^^ a : Nat) : Int)) w := by
    have h2 := bin_xor (P := C.P) (w := w) (t := t) h
    have e1 : (if IntKind.u64.signed then (-1 : Int) else IntKind.u64.max) = ((18446744073709551615 : Nat) : Int) := by decide
    show (Op.intBits .xor .u64 (if IntKind.u64.signed then -1 else IntKind.u64.max) (a : Int)).run C.P w = _
    rw [e1]
    rw [← h2]
    rfl
  simp only [execOp, ha'.eval hx, Sem.run_bind, h1, Result.andThen_ok, Sem.run_pure]
end Go.Proofs.YtofkhehcnfiopaaDoor.N
namespace Go.Proofs.YtofkhehcnfiopaaDoor.N
open Go Go.RowKit Go.Proofs
set_option linter.unusedSectionVars false
variable [I : Sys]
theorem F.agg97 : aggB Tryd.prog 97 = true := by unfold aggB; rw [Tryd.underlying97]
theorem F.ent104 : Enters Tryd.prog 104 := enters_of Tryd.func104 rfl (by kernel_rfl)
theorem F.ent121 : Enters Tryd.prog 121 := enters_of Tryd.func121 rfl (by kernel_rfl)
theorem mhas_c (n f : Nat) (hn : n < 18446744073709551616) (w : World) : Calls Tryd.prog 104 #[.int .u64 (n : Int), .int .u8 (f : Int)] w fun e w' => e = .returned (.bool (n.testBit f)) ∧ Grew w w' [] := by
  have hs1 : n >>> (min f 64) < 18446744073709551616 := Nat.lt_of_le_of_lt (by rw [Nat.shiftRight_eq_div_pow]; exact Nat.div_le_self _ _) hn
  refine enter (N := 10) [(0, .int .u64 (n : Int)), (1, .int .u8 (f : Int))] Tryd.func104 rfl Tryd.ntmps104 rfl rfl ?_
  refine cod_seq ?_
  refine cod_region ?_
  refine lst_assign rfl rfl ?_
  refine lst_nil ?_
  refine ex_then ?_
  refine cod_seq ?_
  refine cod_region ?_
  refine lst_move rfl rfl ?_
  refine lst_move rfl rfl ?_
  refine lst_shr rfl rfl rfl (by omega) (fdiv_shr _ _ _) ?_
  refine lst_int rfl rfl rfl (fun w => bin_and w (u64_and _ 1 hs1 (by omega))) ?_
  refine lst_int rfl rfl rfl bin_eql ?_
  refine lst_assign rfl rfl ?_
  refine lst_nil ?_
  refine ex_then ?_
  refine cod_ret ?_
  refine ex_ret rfl (fun a w ha => res_one rfl rfl ha) (fun a w ha => ?_)
  exact ⟨by rw [← bit_test n f 64 hn]; rfl, ha.grown (List.nil_sublist _)⟩

theorem mwith_c (n f : Nat) (hn : n < 18446744073709551616) (hf : f < 64) (w : World) : Calls Tryd.prog 121 #[.int .u64 (n : Int), .int .u8 (f : Int)] w fun e w' => e = .returned (.int .u64 ((n ||| 1 <<< f : Nat) : Int)) ∧ Grew w w' [] := by
  refine enter (N := 9) [(0, .int .u64 (n : Int)), (1, .int .u8 (f : Int))] Tryd.func121 rfl Tryd.ntmps121 rfl rfl ?_
  refine cod_seq ?_
  refine cod_region ?_
  refine lst_assign rfl rfl ?_
  refine lst_nil ?_
  refine ex_then ?_
  refine cod_seq ?_
  refine cod_region ?_
  refine lst_move rfl rfl ?_
  refine lst_move rfl rfl ?_
  refine lst_shl rfl rfl rfl (by omega) (shl_u64 hf) ?_
  refine lst_int rfl rfl rfl (fun w => bin_or w (u64_or _ _ hn (shl_lt hf))) ?_
  refine lst_assign rfl rfl ?_
  refine lst_nil ?_
  refine ex_then ?_
  refine cod_ret ?_
  refine ex_ret rfl (fun a w ha => res_one rfl rfl ha) (fun a w ha => ?_)
  exact ⟨by rfl, ha.grown (List.nil_sublist _)⟩

theorem mlist_c (n : Nat) (hn : n < 18446744073709551616) (w : World) : Calls Tryd.prog 101 #[.int .u64 (n : Int)] w fun e w' => ∃ A c, e = .returned (.slice A (listN n 64).length c) ∧ Grew w w' [.row 3 1 A (listN n 64).length c (ints (listN n 64))] := by
  refine enter (N := 18) [(0, .int .u64 (n : Int))] Tryd.func101 rfl Tryd.ntmps101 rfl rfl ?_
  refine cod_seq ?_
  refine cod_region ?_
  refine lst_assign rfl rfl ?_
  refine lst_nil ?_
  refine ex_then ?_
  refine cod_seq ?_
  refine cod_region ?_
  refine lst_assign rfl rfl ?_
  refine lst_nil ?_
  refine ex_then ?_
  refine cod_seq ?_
  refine cod_seq ?_
  refine cod_region ?_
  refine lst_move rfl rfl ?_
  refine lst_nil ?_
  refine ex_then ?_
  refine cod_block ?_
  refine cod_nil 3 1 ?_
  refine cod_loop (G := Nat × Option Addr × Nat) (fun g => g.1 ≤ 64) (fun g => 64 - g.1) (fun g => [(0, .int .u64 (n : Int)), (3, .slice g.2.1 (listN n g.1).length g.2.2), (5, .int .i64 (g.1 : Int))]) (fun g => [.row 3 1 g.2.1 (listN n g.1).length g.2.2 (ints (listN n g.1))]) (0, none, 0) (Nat.zero_le _) sbn sbl ?_
  rintro ⟨k, A1, c1⟩ hk
  (try dsimp only at hk ⊢)
  refine cod_seq ?_
  refine cod_region ?_
  refine lst_int rfl rfl rfl bin_lss ?_
  refine lst_nil ?_
  refine ex_then ?_
  refine cod_seq ?_
  refine cod_cond_dec rfl (fun hc0 => ?_) (fun hc0 => ?_)
  · skip
    have hk64 : k < 64 := by omega
    refine cod_skip ?_
    refine ex_then ?_
    refine cod_seq ?_
    refine cod_block ?_
    refine cod_seq ?_
    refine cod_region ?_
    refine lst_move rfl rfl ?_
    refine lst_assign rfl rfl ?_
    refine lst_nil ?_
    refine ex_then ?_
    refine cod_seq ?_
    refine cod_region ?_
    refine lst_move rfl rfl ?_
    refine lst_move rfl rfl ?_
    refine lst_convert rfl rfl Tryd.underlying3 Tryd.underlying77 (wrap_u8 _ (by omega)) ?_
    refine lst_fn0 (vs := [_, _]) rfl rfl F.ent104 (fun a w ha => mhas_c n k hn w) ?_
    refine lst_nil ?_
    refine ex_then ?_
    refine cod_cond_bool rfl (fun hc1 => ?_) (fun hc1 => ?_)
    · skip
      refine cod_region ?_
      refine lst_move rfl rfl ?_
      refine lst_move rfl rfl ?_
      refine lst_lit (vs := [(0, _)]) rfl rfl Tryd.underlying25 F.ti3 rfl rfl rfl ?_
      intro b14
      refine lst_append rfl rfl rfl Tryd.underlying25 F.ti3 rfl rfl rfl (by have := listN_len n k; unfold maxLen; omega) (by have := listN_len n k; omega) ?_
      intro A2 c2
      refine lst_assign rfl rfl ?_
      refine lst_nil ?_
      refine ex_block_normal ?_
      refine ex_then ?_
      refine cod_region ?_
      refine lst_int rfl rfl rfl (fun w => bin_add w (wrap_i64' _ (by omega) (by omega))) ?_
      refine lst_move rfl rfl ?_
      refine lst_nil ?_
      have e := listN_succ n k
      rw [if_pos hc1] at e
      refine ex_round (k + 1, A2, c2) (by (try dsimp only); omega) (by (try dsimp only); omega) (by (try dsimp only); (try rw [e]); simp only [List.length_append, List.length_singleton]; repeat (first | exact Sub.nil _ | refine Sub.cons rfl ?_)) (by (try dsimp only); (try rw [e]); simp only [ints_snoc, List.length_append, List.length_singleton]; repeat (first | exact List.Sublist.refl _ | exact List.nil_sublist _ | refine List.Sublist.cons_cons _ ?_ | refine List.Sublist.cons _ ?_))
    · skip
      refine cod_skip ?_
      refine ex_block_normal ?_
      refine ex_then ?_
      refine cod_region ?_
      refine lst_int rfl rfl rfl (fun w => bin_add w (wrap_i64' _ (by omega) (by omega))) ?_
      refine lst_move rfl rfl ?_
      refine lst_nil ?_
      have e := listN_succ n k
      rw [if_neg (by rw [hc1]; simp), List.append_nil] at e
      refine ex_round (k + 1, A1, c1) (by (try dsimp only); omega) (by (try dsimp only); omega) (by (try dsimp only); (try rw [e]); repeat (first | exact Sub.nil _ | refine Sub.cons rfl ?_)) (by (try dsimp only); (try rw [e]); repeat (first | exact List.Sublist.refl _ | exact List.nil_sublist _ | refine List.Sublist.cons_cons _ ?_ | refine List.Sublist.cons _ ?_))
  · skip
    refine cod_exit ?_
    refine ex_then_exit ?_
    refine ex_then_exit ?_
    refine ex_block_exit ?_
    refine ex_then ?_
    refine cod_seq ?_
    refine cod_region ?_
    refine lst_move rfl rfl ?_
    refine lst_assign rfl rfl ?_
    refine lst_nil ?_
    refine ex_then ?_
    refine cod_ret ?_
    obtain rfl : k = 64 := by omega
    exact ex_ret rfl (fun a w ha => res_one rfl rfl ha) (fun a w ha => ⟨A1, c1, rfl, ha.grown sbl⟩)

theorem hopeful_c {C : Ctx} {fr : List (Nat × Value)} {T : List Res} {a : Act} {w : World} (hC : C.P = Tryd.prog) {ags : List Ag} {used p cg : Nat} {aA : Option Addr} (hok : Oks ags) (hu : used < 256) (hp : p < 64) (hAg : Res.row 89 5 aA ags.length cg (ags.flatMap Ag.cells) ∈ T) (ha : At C fr (T) a w) : Calls C.P 100 #[.agg [.slice aA ags.length cg, .int .u8 (used : Int)].toArray, .int .u8 (p : Int)] w fun e w' => ∃ n, SetN n (Clr ags used p) ∧ e = .returned (.int .u64 (n : Int)) ∧ At C fr T a w' := by
  obtain ⟨P, B, w0, N0, ds⟩ := C
  obtain rfl : P = Tryd.prog := hC
  (try dsimp only at hB)
  (try dsimp only at hN)
  refine enter_in (N := 26) [(0, .agg [.slice aA ags.length cg, .int .u8 (used : Int)].toArray), (1, .int .u8 (p : Int))] ha Tryd.func100 rfl Tryd.ntmps100 rfl rfl ?_
  refine cod_seq ?_
  refine cod_region ?_
  refine lst_box rfl rfl ?_
  intro b2
  refine lst_assign rfl rfl ?_
  refine lst_nil ?_
  refine ex_then ?_
  refine cod_seq ?_
  refine cod_region ?_
  refine lst_assign rfl rfl ?_
  refine lst_nil ?_
  refine ex_then ?_
  refine cod_seq ?_
  refine cod_seq ?_
  refine cod_region ?_
  refine lst_loadN rfl rfl F.agg75 F.ti75 ?_
  refine lst_move rfl rfl ?_
  refine lst_call (X := Nat × Nat) (first := []) (cap := []) (vs := [_, _]) (p := fun y => (roundP ags used (iterP ags used p y.1) 64).2 = false) (val := fun y => .pointer (some ⟨y.2, 0, none⟩)) (rs := fun y => .blk y.2 (.cells (mcells (.func (.func 116) #[] #[]) (iterP ags used p (y.1 + 1))).toArray 99 (0, 0)) :: .blk b2 (.cells [.slice aA ags.length cg, .int .u8 (used : Int)].toArray 75 (0, 0)) :: T) rfl rfl rfl F.ent88 (fun a w ha => by
    obtain ⟨N, h64, hN⟩ := fix_all (ags := ags) (used := used) (p := p) hok
    exact (prices_c rfl hok hu hp h64 hN (by simp [hAg]) ha).mono (fun e w' h => by obtain ⟨j, b, h1, h2, h3, h4⟩ := h; exact ⟨(j, b), h2, h3, h4⟩)) ?_
  rintro ⟨j, bm⟩ hfx
  dsimp only at hfx ⊢
  have hsame : iterP ags used p (j + 1) = iterP ags used p j := (round_ch 64 hfx).1
  rw [hsame]
  have hBd := Bd.iter (used := used) (p := p) hok j
  have hkn : ∀ f, f < 64 → (((iterP ags used p j).getD f default).known = true ↔ Clr ags used p f) := fun f hf => known_clr hok hfx hf
  obtain ⟨ps, hpsd⟩ : ∃ ps, iterP ags used p j = ps := ⟨_, rfl⟩
  rw [hpsd] at hBd hkn hfx ⊢
  refine lst_nilCheck rfl rfl ?_
  refine lst_field_z rfl rfl F.fi99_1 F.ti97 ?_
  refine lst_loadN_at (l := ps.flatMap Pr.cells) rfl rfl F.agg97 F.ti97 (by have := mcells_len (.func (.func 116) #[] #[]) ps; rw [hBd.1] at this; simp [mcells] at this; simpa using this) (fun a w ha j u hu => cell_of_blk (ha.mem_blk (InB.mem (b := bm))) (by rw [Nat.add_comm 1 j]; exact hu)) ?_
  refine lst_move rfl rfl ?_
  refine lst_nil ?_
  refine ex_then ?_
  refine cod_block ?_
  refine cod_loop' (G := Nat × Nat) (fun g => g.1 ≤ 64 ∧ g.2 < 18446744073709551616 ∧ ∀ f, f < 64 → (g.2.testBit f = true ↔ f < g.1 ∧ Clr ags used p f)) (fun g => 64 - g.1) (fun g => [(1, .int .u8 (p : Int)), (5, .int .u64 (g.2 : Int)), (13, .agg (ps.flatMap Pr.cells).toArray), (14, .int .i64 (g.1 : Int))]) (fun g => T) (0, 0) ⟨Nat.zero_le _, by decide, fun f _ => ⟨fun h => by simp at h, fun h => absurd h.1 (by omega)⟩⟩ sbn pkk ?_
  rintro ⟨k, n⟩ ⟨hk64, hn, hI⟩
  dsimp only at hk64 hn hI ⊢
  refine cod_seq ?_
  refine cod_region ?_
  refine lst_int rfl rfl rfl bin_lss ?_
  refine lst_nil ?_
  refine ex_then ?_
  refine cod_seq ?_
  refine cod_cond_dec rfl (fun hc0 => ?_) (fun hc0 => ?_)
  · skip
    have hk' : k < 64 := by omega
    refine cod_skip ?_
    refine ex_then ?_
    refine cod_seq ?_
    refine cod_block ?_
    refine cod_seq ?_
    refine cod_region ?_
    refine lst_move rfl rfl ?_
    refine lst_index_v (j := k) (l := [.int .i64 ((ps.getD k default).cost : Int), .int .i64 ((ps.getD k default).puts : Int), .bool (ps.getD k default).known]) rfl rfl rfl Tryd.underlying97 F.agg95 F.ti95 rfl hk' (drop_pr ps k (by rw [hBd.1]; exact hk')) ?_
    refine lst_alloc rfl F.ti95 ?_
    intro b7
    refine lst_assign rfl rfl ?_
    refine lst_store rfl rfl F.ti95 rfl ?_
    refine lst_nil ?_
    refine ex_then ?_
    refine cod_seq ?_
    refine cod_region ?_
    refine lst_field_z rfl rfl F.fi95_2 F.ti4 ?_
    refine lst_load rfl rfl F.one4 ?_
    refine lst_nil ?_
    refine ex_then ?_
    refine cod_cond_bool rfl (fun hc1 => ?_) (fun hc1 => ?_)
    · skip
      refine cod_region ?_
      refine lst_move rfl rfl ?_
      refine lst_move rfl rfl ?_
      refine lst_convert rfl rfl Tryd.underlying3 Tryd.underlying77 (wrap_u8 _ (by omega)) ?_
      refine lst_fn0 (vs := [_, _]) rfl rfl F.ent121 (fun a w ha => mwith_c n k hn hk' w) ?_
      refine lst_assign rfl rfl ?_
      refine lst_nil ?_
      refine ex_block_normal ?_
      refine ex_then ?_
      refine cod_region ?_
      refine lst_int rfl rfl rfl (fun w => bin_add w (wrap_i64' _ (by omega) (by omega))) ?_
      refine lst_move rfl rfl ?_
      refine lst_nil ?_
      refine ex_round' (k + 1, n ||| 1 <<< k) ⟨by omega, or_one_lt hn hk', fun f hf => ?_⟩ (by (try dsimp only); omega) sbn pkk
      rw [testBit_or_one, Bool.or_eq_true, decide_eq_true_eq, hI f hf]
      have := (hkn k hk').1 hc1
      constructor
      · rintro (h | h)
        · exact ⟨by omega, h.2⟩
        · subst h; exact ⟨by omega, this⟩
      · rintro ⟨h1, h2⟩
        rcases Nat.lt_or_ge f k with h | h
        · exact .inl ⟨h, h2⟩
        · exact .inr (by omega)
    · skip
      refine cod_skip ?_
      refine ex_block_normal ?_
      refine ex_then ?_
      refine cod_region ?_
      refine lst_int rfl rfl rfl (fun w => bin_add w (wrap_i64' _ (by omega) (by omega))) ?_
      refine lst_move rfl rfl ?_
      refine lst_nil ?_
      refine ex_round' (k + 1, n) ⟨by omega, hn, fun f hf => ?_⟩ (by (try dsimp only); omega) sbn pkk
      rw [hI f hf]
      have hno : ¬ Clr ags used p k := fun h => by have := (hkn k hk').2 h; rw [hc1] at this; cases this
      constructor
      · rintro ⟨h1, h2⟩
        exact ⟨by omega, h2⟩
      · rintro ⟨h1, h2⟩
        rcases Nat.lt_or_ge f k with h | h
        · exact ⟨h, h2⟩
        · obtain rfl : f = k := by omega
          exact absurd h2 hno
  · skip
    refine cod_exit ?_
    refine ex_then_exit ?_
    refine ex_then_exit ?_
    refine ex_block_exit ?_
    refine ex_then ?_
    refine cod_seq ?_
    refine cod_region ?_
    refine lst_move rfl rfl ?_
    refine lst_assign rfl rfl ?_
    refine lst_nil ?_
    refine ex_then ?_
    refine cod_ret ?_
    obtain rfl : k = 64 := by omega
    exact ex_ret rfl (fun a w ha => res_one rfl rfl ha) (fun _ _ ha' => ⟨n, ⟨hn, fun f hf => (hI f hf).trans ⟨fun h => h.2, fun h => ⟨hf, h⟩⟩⟩, rfl, ha.back (ha'.pck pkk)⟩)

end Go.Proofs.YtofkhehcnfiopaaDoor.N
namespace Go.Proofs.YtofkhehcnfiopaaDoor.N
open Go Go.RowKit Go.Proofs Go.Conc
set_option autoImplicit false
set_option linter.unusedSectionVars false

section
variable [I : Sys]
theorem F.one158 : One Tryd.prog 158 := ⟨by unfold aggB; rw [Tryd.underlying158], by rw [Tryd.underlying158]; simp⟩
theorem F.ti158 : TI Tryd.prog 158 (.chan none) 1 8 := TI.of (by kernel_rfl)
theorem F.ti160 : TI Tryd.prog 160 (.agg [.int .u8 0, .bool false].toArray) 2 2 := TI.of (by kernel_rfl)
theorem F.pl160 : Places Tryd.prog 160 [(0, 1), (1, 1)] := .inl ⟨_, Tryd.underlying160, by kernel_rfl⟩
theorem F.ent123 : Enters Tryd.prog 123 := enters_of Tryd.func123 rfl (by kernel_rfl)
end
/-- What is told: a melt, or that this was all. -/
def newsL (b : UInt8) : List Value := if b = 255 then [.int .u8 0, .bool true] else [.int .u8 (b.toNat : Int), .bool false]
def Kf (low : Nat) : Prot := { msg := fun b => .agg (newsL b).toArray, z := .tuple #[], zr := .agg [.int .u8 0, .bool false].toArray, done := 255, low }
def msgsAt (ags : List Ag) (used x k : Nat) : List UInt8 := ((canTo ags used x ags.length).drop k).map (fun i => UInt8.ofNat (putN (ags.getD i default) x)) ++ [255]
theorem msgsAt_succ {ags : List Ag} {used x k i : Nat} (h : (canTo ags used x ags.length)[k]? = some i) : msgsAt ags used x k = UInt8.ofNat (putN (ags.getD i default) x) :: msgsAt ags used x (k + 1) := by
  obtain ⟨hk, h2⟩ := List.getElem?_eq_some_iff.1 h
  unfold msgsAt
  rw [List.drop_eq_getElem_cons hk, h2]
  rfl
theorem msgsAt_end {ags : List Ag} {used x : Nat} : msgsAt ags used x (canTo ags used x ags.length).length = [255] := by
  unfold msgsAt
  rw [List.drop_length]
  rfl
theorem worker_c {low c cb xb fb used x cg ctb : Nat} {aA : Option Addr} {ags : List Ag} {u : World} {fz1 fz2 fz3 : Nat × Nat} (hok : Oks ags) (hu : used < 256) (hx : x < 64)
    (hcb : u.heap[cb]? = some (.cells [.slice aA ags.length cg, .int .u8 (used : Int)].toArray ctb fz1)) (hxb : u.heap[xb]? = some (.cells [.int .u8 (x : Int)].toArray 77 fz2)) (hfb : u.heap[fb]? = some (.cells [.chan (some c)].toArray 158 fz3))
    (hA : RdL Ag.cells 5 u aA ags) :
    Works Tryd.prog (Kf low) c (born Tryd.prog { target := .fn (.func 123) [.pointer (some ⟨cb, 0, none⟩), .pointer (some ⟨xb, 0, none⟩), .pointer (some ⟨fb, 0, none⟩)].toArray, args := #[] }) (saying u #[enc1 (msgs ags used x)]) := by
  letI : Sys := wSys Tryd.prog (Kf low) c
  refine works_born (f := 123) (args := [.pointer (some ⟨cb, 0, none⟩), .pointer (some ⟨xb, 0, none⟩), .pointer (some ⟨fb, 0, none⟩)].toArray) rfl (invokes_of F.ent123 rfl) ?_
  rw [enter_bD _ Tryd.func123 rfl, Tryd.ntmps123]
  obtain ⟨L, hL⟩ : ∃ L, canTo ags used x ags.length = L := ⟨_, rfl⟩
  have hLl : L.length ≤ ags.length := by rw [← hL]; exact canTo_len ags used x ags.length
  have h4 := hok.1
  have cb_lt := (Array.getElem?_eq_some_iff.1 hcb).1
  have xb_lt := (Array.getElem?_eq_some_iff.1 hxb).1
  have fb_lt := (Array.getElem?_eq_some_iff.1 hfb).1
  have c0 : u.cell? ⟨cb, 0, none⟩ = some (.slice aA ags.length cg) := by rw [cell_of_row u cb 0 _ _ _ hcb]; rfl
  have c1 : u.cell? ⟨cb, 1, none⟩ = some (.int .u8 (used : Int)) := by rw [cell_of_row u cb 1 _ _ _ hcb]; rfl
  have cx : u.cell? ⟨xb, 0, none⟩ = some (.int .u8 (x : Int)) := by rw [cell_of_row u xb 0 _ _ _ hxb]; rfl
  have cf : u.cell? ⟨fb, 0, none⟩ = some (.chan (some c)) := by rw [cell_of_row u fb 0 _ _ _ hfb]; rfl
  have ha0 := at_args (P := Tryd.prog) (vs := [.pointer (some ⟨cb, 0, none⟩), .pointer (some ⟨xb, 0, none⟩), .pointer (some ⟨fb, 0, none⟩)]) (N := 25) (v := saying u #[enc1 (msgs ags used x)]) rfl
  have hc75 : ∀ (j : Nat) (u' : Value), [Value.slice aA ags.length cg, .int .u8 (used : Int)][j]? = some u' → u.cell? ⟨cb, 0 + j, none⟩ = some u' := by
    intro j u' h
    rcases j with _ | _ | j
    · cases h; exact c0
    · cases h; exact c1
    · simp at h
  have hmsg : ∀ z, z < 64 → (Kf low).msg (UInt8.ofNat z) = .agg [.int .u8 ((z : Nat) : Int), .bool false].toArray := fun z hz => by
    show Value.agg (newsL _).toArray = _
    unfold newsL
    rw [if_neg (ofNat_ne hz), ofNat_toNat hz]
  refine gs_seq ⟨show (bD 123).kind ≠ .early by simp [bD], .inl rfl⟩ ?_
  refine (?_ : Cod ⟨Tryd.prog, u.heap.size, saying u #[enc1 (msgsAt ags used x 0)], 25, []⟩ _ _ [(0, .pointer (some ⟨cb, 0, none⟩)), (1, .pointer (some ⟨xb, 0, none⟩)), (2, .pointer (some ⟨fb, 0, none⟩))] []) _ _ ha0
  refine cod_seq ?_
  refine cod_region ?_
  refine lst_loadN_at (l := [.slice aA ags.length cg, .int .u8 (used : Int)]) rfl rfl F.agg75 F.ti75 rfl (fun a w ha j u' hu' => ha.old (hc75 j u' hu') cb_lt) ?_
  refine lst_load_at rfl rfl F.one77 (fun _ _ ha => ha.old (show (saying u _).cell? _ = _ from cx) xb_lt) ?_
  refine lst_fn (X := Option Addr × Nat) (vs := [_, _]) (p := fun _ => True) (val := fun y => .slice y.1 L.length y.2) (rs := fun y => [.row 3 1 y.1 L.length y.2 (ints L)]) rfl rfl F.ent89 (fun a w ha => (can_c aA cg ags used x hok hu (by omega) w (RdL.later (w := saying u #[enc1 (msgsAt ags used x 0)]) hA ha.below)).mono (fun e w' h => by obtain ⟨A', c', h1, h2⟩ := h; rw [hL] at h1 h2; exact ⟨(A', c'), trivial, h1, h2⟩)) ?_
  rintro ⟨rA, rc⟩ -
  dsimp only [List.cons_append, List.nil_append]
  refine lst_len rfl rfl Tryd.underlying25 ?_
  refine lst_move rfl rfl ?_
  refine lst_nil ?_
  refine ex_then ?_
  refine cod_block ?_
  refine cod_loopC (T := Nat) (fun k => k ≤ L.length) (fun k => L.length - k) (fun k => ⟨Tryd.prog, u.heap.size, saying u #[enc1 (msgsAt ags used x k)], 25, []⟩) (fun k => [(0, .pointer (some ⟨cb, 0, none⟩)), (1, .pointer (some ⟨xb, 0, none⟩)), (2, .pointer (some ⟨fb, 0, none⟩)), (7, .slice rA L.length rc), (8, .int .i64 (L.length : Int)), (9, .int .i64 (k : Int))]) (fun _ => [.row 3 1 rA L.length rc (ints L)]) (fun _ => rfl) 0 (Nat.zero_le _) rfl sbn (Pck.refl _) ?_
  intro k hk
  (try dsimp only at hk ⊢)
  refine cod_seq ?_
  refine cod_region ?_
  refine lst_int rfl rfl rfl bin_lss ?_
  refine lst_nil ?_
  refine ex_then ?_
  refine cod_seq ?_
  refine cod_cond_dec rfl (fun hc0 => ?_) (fun hc0 => ?_)
  · have hk' : k < L.length := by omega
    obtain ⟨i, hi⟩ : ∃ i, L[k]? = some i := ⟨_, List.getElem?_eq_getElem hk'⟩
    have hic : i ∈ canTo ags used x ags.length := by rw [hL]; exact List.mem_of_getElem? hi
    obtain ⟨hil, _, _⟩ := canTo_mem hic
    obtain ⟨g, o, rfl, hgl, hcell⟩ := hA (by omega)
    obtain ⟨y, hy⟩ : ∃ y, ags[i]? = some y := ⟨_, List.getElem?_eq_getElem hil⟩
    have hyo : y.ok := hok.2 y (List.mem_of_getElem? hy)
    have hyd : ags.getD i default = y := by rw [List.getD_eq_getElem?_getD, hy]; rfl
    have hz := putN_lt hyo hx
    have hms := msgsAt_succ (ags := ags) (used := used) (x := x) (k := k) (i := i) (by rw [hL]; exact hi)
    rw [hyd] at hms
    refine cod_skip ?_
    refine ex_then ?_
    refine cod_seq ?_
    refine cod_block ?_
    refine cod_seq ?_
    refine cod_region ?_
    refine lst_index_row (j := k) rfl rfl rfl Tryd.underlying25 F.ti3 rfl hk' rfl rfl ?_
    intro gr hgr
    refine lst_load_row (v := .int .i64 (i : Int)) rfl rfl F.one3 hgr (by rw [Nat.mul_one]; unfold ints; rw [List.getElem?_map, hi]; rfl) ?_
    refine lst_assign rfl rfl ?_
    refine lst_nil ?_
    refine ex_then ?_
    refine anyO_start (hpS := [.row 3 1 rA L.length rc (ints L)]) F.follows 10 rfl [false, false, false, false, false, false, false, false, false, false] rfl ?_
    refine anyO_take 0 rfl rfl rfl (by kernel_rfl) (by kernel_rfl) (by kernel_rfl) sbl (fun _ => yld_load_at rfl F.one158 (fun _ _ ha => ha.old (show (saying u _).cell? _ = _ from cf) fb_lt)) rfl ?_
    refine anyO_take 1 rfl rfl rfl (by kernel_rfl) (by kernel_rfl) (by kernel_rfl) sbl (fun _ => yld_field_z rfl F.fi75_0 F.ti72) rfl ?_
    refine anyO_take 2 rfl rfl rfl (by kernel_rfl) (by kernel_rfl) (by kernel_rfl) sbl (fun _ => yld_load_at rfl F.one72 (fun _ _ ha => ha.old (show (saying u _).cell? _ = _ from c0) cb_lt)) rfl ?_
    refine anyO_take 3 rfl rfl rfl (by kernel_rfl) (by kernel_rfl) (by kernel_rfl) sbl (fun _ => yld_move rfl) rfl ?_
    refine anyO_take 4 rfl rfl rfl (by kernel_rfl) (by kernel_rfl) (by kernel_rfl) sbl (fun _ => yld_index (j := i) rfl rfl Tryd.underlying72 F.ti89 rfl hil) rfl ?_
    refine anyO_take 5 rfl rfl rfl (by kernel_rfl) (by kernel_rfl) (by kernel_rfl) sbl (fun _ => yld_loadN_at (l := [.int .i64 (y.needs : Int), .int .i64 (y.no : Int), .int .i64 (y.takes : Int), .int .i64 (y.leaves : Int), .int .i64 (y.cost : Int)]) rfl F.agg89 F.ti89 rfl (fun a w ha j u' hu' => ha.old (hcell i y hy j u' hu') hgl)) rfl ?_
    refine anyO_take 6 rfl rfl rfl (by kernel_rfl) (by kernel_rfl) (by kernel_rfl) sbl (fun _ => yld_load_at rfl F.one77 (fun _ _ ha => ha.old (show (saying u _).cell? _ = _ from cx) xb_lt)) rfl ?_
    refine anyO_one 7 (by kernel_rfl) rfl rfl ?_
    refine lst_fn0 (vs := [_, _]) rfl rfl F.ent91 (fun a w ha => put_c y x hyo (by omega) w) ?_
    refine lst_nil ?_
    refine anyO_next sbl ?_
    refine anyO_take 8 rfl rfl rfl (by kernel_rfl) (by kernel_rfl) (by kernel_rfl) sbl (fun _ => yld_struct (vs := [(0, _)]) (l' := [_, _]) rfl F.ti160 F.pl160 (.cons rfl rfl (.nil _)) rfl) rfl ?_
    refine anyO_one 9 (by kernel_rfl) rfl rfl ?_
    refine lst_sync0 (T := Unit) (fun _ => True) (fun _ => ⟨Tryd.prog, u.heap.size, saying u #[enc1 (msgsAt ags used x (k + 1))], 25, []⟩) (fun _ => [.row 3 1 rA L.length rc (ints L)]) (fun _ => rfl) (fun a w ha => sy_send (K := Kf low) (x := UInt8.ofNat (putN y x)) (l := msgsAt ags used x (k + 1)) (by rw [ha.below.output]; show #[enc1 (msgsAt ags used x k)] = _; rw [hms]) (ofNat_ne hz) trivial (fun w' => by rw [hmsg _ hz]; exact run_send rfl rfl ha w') ⟨(), trivial, ha.said _⟩) (fun _ _ => ?_)
    refine lst_nil ?_
    refine anyO_last (C := ⟨Tryd.prog, u.heap.size, saying u #[enc1 (msgsAt ags used x k)], 25, []⟩) (x := #[enc1 (msgsAt ags used x (k + 1))]) (List.Sublist.refl _) (by kernel_rfl) ?_
    refine ex_block_normal ?_
    refine ex_then ?_
    refine cod_region ?_
    refine lst_int rfl rfl rfl (fun w => bin_add w (wrap_i64' _ (by omega) (by omega))) ?_
    refine lst_move rfl rfl ?_
    refine lst_nil ?_
    exact ex_roundC (k + 1) rfl (by (try dsimp only); omega) (by (try dsimp only); omega) sbn (Pck.refl _)
  · refine cod_exit ?_
    refine ex_then_exit ?_
    refine ex_then_exit ?_
    refine ex_block_exit ?_
    obtain rfl : k = L.length := by omega
    intro a w ha
    have hb : (bD 123).kind ≠ .early := by simp [bD]
    have hend : msgsAt ags used x L.length = [255] := by rw [← hL]; exact msgsAt_end
    rw [hend] at ha
    have hd : a.defers = [] := ha.defs
    refine Gs.one rfl (fun _ => stepX_region) ?_
    refine gs_yld (rest := [1, 2]) ha rfl hb (.inl rfl) (yld_load_at rfl F.one158 (fun _ _ ha => ha.old (show (saying u _).cell? _ = _ from cf) fb_lt)) ?_
    have ha1 := ha.put (d := 23) (lt_of_blt rfl) (.chan (some c))
    refine gs_yld (rest := [2]) ha1 rfl hb (.inl rfl) (yld_struct (vs := [(1, _)]) (l' := [_, _]) rfl F.ti160 F.pl160 (.cons rfl rfl (.nil _)) rfl) ?_
    have ha2 := ha1.put (d := 24) (lt_of_blt rfl) (.agg [.int .u8 0, .bool true].toArray)
    refine Gs.sync' fun v₁ h1 => ?_
    have ha3 := ha2.later h1
    have h255 : (Kf low).msg 255 = .agg [.int .u8 0, .bool true].toArray := by
      show Value.agg (newsL _).toArray = _
      unfold newsL
      rw [if_pos rfl]
    refine ⟨rfl, 255, [], ha3.below.output, fun F S w' hw' => ⟨_, stepX_comm rfl rfl (.inl rfl) hb (by rw [h255]; exact run_send rfl rfl ha3 w'), listed_ok (n := .comm #[scase c ((Kf low).msg 255) (Kf low).z] true .send) trivial (fun w' => by rw [h255]; exact run_send rfl rfl ha3 w') hw'⟩, fun _ => ⟨4, ?_⟩, Gs.stop fun v₂ h2 => h2.output⟩
    rw [served_at rfl]
    exact quits_bD Tryd.func123 rfl (by exact hd) _
end Go.Proofs.YtofkhehcnfiopaaDoor.N
namespace Go.Proofs.YtofkhehcnfiopaaDoor.N
open Go Go.RowKit Go.Proofs Go.Conc
set_option autoImplicit false
set_option linter.unusedSectionVars false
section
variable [I : Sys]
theorem F.fi160_0 : FI Tryd.prog 160 0 77 0 := ⟨_, _, Tryd.underlying160, rfl, rfl, rfl⟩
theorem F.fi160_1 : FI Tryd.prog 160 1 4 1 := ⟨_, _, Tryd.underlying160, rfl, rfl, rfl⟩
end
/-- One more is started: what the others may take it to be. -/
theorem go_c {low : Nat} {ags : List Ag} {used f met x k N : Nat} {now : List Nat} {v0 w : World} {cb fb xb c gr nc cg : Nat} {aA : Option Addr} {gl : List Nat} {s : Gst} {a : Act} {fr : List (Nat × Value)} (hok : Oks ags) (hu : used < 256) (hf : f < 64)
    (hlow : low ≤ v0.heap.size) (hgl : ∀ b ∈ gl, ∃ cs t, v0.heap[b]? = some (.cells cs t (0, 0)) ∧ 0 < cs.size) (hRd : 0 < ags.length → ∃ g, g ∈ gl ∧ aA = some ⟨g, 0, none⟩) (hA : RdL Ag.cells 5 v0 aA ags)
    (hI : RIr ags used f met now) (hx : now[k]? = some x) (hk0 : k = 0 → s = ⟨0, [], []⟩) (hk1 : 0 < k → s.c = c ∧ cb ∈ s.sl ∧ fb ∈ s.sl ∧ ∀ b ∈ gl, b ∈ s.sl) (hpend : s.pend = (now.take k).map (msgs ags used))
    (ha : At (Cr Tryd.prog v0.heap.size N [] v0 s) fr [.blk xb (.cells [.int .u8 (x : Int)].toArray 77 (0, 0)), .row 77 1 (some ⟨gr, 0, none⟩) now.length nc (u8s now), .blk cb (.cells [.slice aA ags.length cg, .int .u8 (used : Int)].toArray 75 (0, if k = 0 then 0 else 2)), .blk fb (.cells [.chan (some c)].toArray 158 (0, if k = 0 then 0 else 1)), .blk c (if k = 0 then .chan 0 #[] false 0 0 false else blank)] a w) :
    c ∉ [cb, xb, fb] ++ gl ∧ low ≤ c ∧ Givable ([cb, xb, fb] ++ gl) w ∧ (∀ b ∈ [cb, xb, fb] ++ gl, b ∈ s.sl ∨ ∃ cs t, w.heap[b]? = some (.cells cs t (0, 0))) ∧
      ((s.pend = [] ∧ s.sl = [] ∧ w.heap[c]? = some (.chan 0 #[] false 0 0 false)) ∨ (s.pend ≠ [] ∧ s.c = c)) ∧
      Works Tryd.prog (Kf low) c (born Tryd.prog { target := .fn (.func 123) [.pointer (some ⟨cb, 0, none⟩), .pointer (some ⟨xb, 0, none⟩), .pointer (some ⟨fb, 0, none⟩)].toArray, args := #[] }) (saying (onlyV ([cb, xb, fb] ++ gl) w) #[enc1 (msgs ags used x)]) ∧
      At (Cr Tryd.prog v0.heap.size N [] v0 ⟨c, s.sl ++ ([cb, xb, fb] ++ gl), s.pend ++ [msgs ags used x]⟩) fr [.row 77 1 (some ⟨gr, 0, none⟩) now.length nc (u8s now), .blk cb (.cells [.slice aA ags.length cg, .int .u8 (used : Int)].toArray 75 (0, 2)), .blk fb (.cells [.chan (some c)].toArray 158 (0, 1)), .blk c blank] a (saying (hideB c (chill ([cb, xb, fb] ++ gl) w)) (Gst.enc ⟨c, s.sl ++ ([cb, xb, fb] ++ gl), s.pend ++ [msgs ags used x]⟩)) := by
  have hb := fun r (h : r ∈ [Res.blk xb (.cells [.int .u8 (x : Int)].toArray 77 (0, 0)), .row 77 1 (some ⟨gr, 0, none⟩) now.length nc (u8s now), .blk cb (.cells [.slice aA ags.length cg, .int .u8 (used : Int)].toArray 75 (0, if k = 0 then 0 else 2)), .blk fb (.cells [.chan (some c)].toArray 158 (0, if k = 0 then 0 else 1)), .blk c (if k = 0 then .chan 0 #[] false 0 0 false else blank)]) => ha.own r h
  have hap := ha.apart
  have h1 := hb (.blk xb (.cells [.int .u8 (x : Int)].toArray 77 (0, 0))) (by simp)
  have h2 := hb (.row 77 1 (some ⟨gr, 0, none⟩) now.length nc (u8s now)) (by simp)
  have h3 := hb (.blk cb (.cells [.slice aA ags.length cg, .int .u8 (used : Int)].toArray 75 (0, if k = 0 then 0 else 2))) (by simp)
  have h4 := hb (.blk fb (.cells [.chan (some c)].toArray 158 (0, if k = 0 then 0 else 1))) (by simp)
  have h5 := hb (.blk c (if k = 0 then .chan 0 #[] false 0 0 false else blank)) (by simp)
  have hids : [xb, gr, cb, fb, c].Nodup := hap
  simp only [List.nodup_cons, List.mem_cons, List.not_mem_nil, or_false, not_or, List.nodup_nil, and_true, not_false_eq_true] at hids
  obtain ⟨⟨n1, n2, n3, n4⟩, ⟨n5, n6, n7⟩, ⟨n8, n9⟩, n10⟩ := hids
  have hgrB : v0.heap.size ≤ gr := (Res.lt h2 gr rfl).1
  have hglB : ∀ b ∈ gl, b < v0.heap.size := fun b hb => by obtain ⟨cs, t, h, _⟩ := hgl b hb; exact (Array.getElem?_eq_some_iff.1 h).1
  have hglw : ∀ b ∈ gl, ∃ cs t, v0.heap[b]? = some (.cells cs t (0, 0)) ∧ 0 < cs.size ∧ w.heap[b]? = some (.cells cs t (0, if b ∈ s.sl then cs.size else 0)) := fun b hb => by
    obtain ⟨cs, t, h, h'⟩ := hgl b hb
    refine ⟨cs, t, h, h', ?_⟩
    rw [ha.oldR (hglB b hb), h]
    by_cases e : b ∈ s.sl <;> simp [e, Obj.chill]
  have hxlt : x < 64 := (hI.sub x (List.mem_of_getElem? hx)).1
  have hcB : v0.heap.size ≤ c := h5.1
  have hcl : c ∉ [cb, xb, fb] ++ gl := by
    simp only [List.cons_append, List.nil_append, List.mem_cons, not_or]
    exact ⟨fun e => n9 e.symm, fun e => n4 e.symm, fun e => n10 e.symm, fun h => by have := hglB c h; omega⟩
  have hxc : k = 0 ∨ 0 < k := by omega
  have hsl0 : k = 0 → s.sl = [] := fun e => by rw [hk0 e]
  refine ⟨hcl, Nat.le_trans hlow h5.1, fun b hbm => ?_, fun b hbm => ?_, ?_, ?_, ?_⟩
  · simp only [List.cons_append, List.nil_append, List.mem_cons] at hbm
    rcases hbm with rfl | rfl | rfl | hbm
    · exact ⟨_, _, _, h3.2, by by_cases e : k = 0 <;> simp [e], by simp⟩
    · exact ⟨_, _, _, h1.2, .inl rfl, by simp⟩
    · exact ⟨_, _, _, h4.2, by by_cases e : k = 0 <;> simp [e], by simp⟩
    · obtain ⟨cs, t, _, h6, h7⟩ := hglw b hbm
      exact ⟨_, _, _, h7, by by_cases e : b ∈ s.sl <;> simp [e], h6⟩
  · simp only [List.cons_append, List.nil_append, List.mem_cons] at hbm
    rcases hbm with rfl | rfl | rfl | hbm
    · rcases hxc with e | e
      · exact .inr ⟨_, _, by simpa [e] using h3.2⟩
      · exact .inl (hk1 e).2.1
    · exact .inr ⟨_, _, h1.2⟩
    · rcases hxc with e | e
      · exact .inr ⟨_, _, by simpa [e] using h4.2⟩
      · exact .inl (hk1 e).2.2.1
    · rcases hxc with e | e
      · obtain ⟨cs, t, _, h6, h7⟩ := hglw b hbm
        exact .inr ⟨cs, t, by simpa [hsl0 e] using h7⟩
      · exact .inl ((hk1 e).2.2.2 b hbm)
  · rcases hxc with e | e
    · refine .inl ⟨by rw [hpend, e]; rfl, hsl0 e, by simpa [e] using h5.2⟩
    · refine .inr ⟨?_, (hk1 e).1⟩
      rw [hpend]
      intro e2
      have := congrArg List.length e2
      have hl := (List.getElem?_eq_some_iff.1 hx).1
      simp only [List.length_map, List.length_take, List.length_nil] at this
      omega
  · refine worker_c (cg := cg) (ctb := 75) (fz1 := (0, 2)) (fz2 := (0, 1)) (fz3 := (0, 1)) hok hu hxlt ?_ ?_ ?_ (rdl_only hA fun hl g o he => ?_)
    · exact (by rw [heap_onlyV, h3.2]; simp [Obj.chill] : (onlyV ([cb, xb, fb] ++ gl) w).heap[cb]? = some (.cells [.slice aA ags.length cg, .int .u8 (used : Int)].toArray 75 (0, 2)))
    · exact (by rw [heap_onlyV, h1.2]; simp [Obj.chill] : (onlyV ([cb, xb, fb] ++ gl) w).heap[xb]? = some (.cells [.int .u8 (x : Int)].toArray 77 (0, 1)))
    · exact (by rw [heap_onlyV, h4.2]; simp [Obj.chill] : (onlyV ([cb, xb, fb] ++ gl) w).heap[fb]? = some (.cells [.chan (some c)].toArray 158 (0, 1)))
    · obtain ⟨g', hg', e⟩ := hRd hl
      rw [e] at he
      cases he
      obtain ⟨cs, t, h6, _, h7⟩ := hglw _ hg'
      exact ⟨by simp [hg'], cs, t, _, _, h6, h7⟩
  · refine ha.hired h5.1 (fun r hr => ?_) ?_
    · simp only [List.mem_cons, List.not_mem_nil, or_false] at hr
      rcases hr with rfl | rfl | rfl | rfl
      · refine Res.held h2 fun k hk => ?_
        cases hk
        refine ⟨?_, n7⟩
        simp only [List.cons_append, List.nil_append, List.mem_cons, not_or]
        exact ⟨n5, fun e => n1 e.symm, n6, fun h => by have := hglB _ h; omega⟩
      · exact Res.lent h3 (by simp) n9
      · exact Res.lent h4 (by simp) n10
      · exact Res.gone h5
    · show [gr, cb, fb, c].Nodup
      simp [n5, n6, n7, n8, n9, n10]
end Go.Proofs.YtofkhehcnfiopaaDoor.N
namespace Go.Proofs.YtofkhehcnfiopaaDoor.N
open Go Go.RowKit Go.Proofs Go.Conc
set_option autoImplicit false
set_option linter.unusedSectionVars false
set_option maxRecDepth 4000 in
theorem reach_c {low : Nat} {ags : List Ag} {used f cg : Nat} {aA : Option Addr} {gl : List Nat} (hok : Oks ags) (hu : used < 256) (hf : f < 64) (w : World)
    (hlow : low ≤ w.heap.size) (hout : w.output = Gst.enc ⟨0, [], []⟩) (hgl : ∀ b ∈ gl, ∃ cs t, w.heap[b]? = some (.cells cs t (0, 0)) ∧ 0 < cs.size) (hRd : 0 < ags.length → ∃ g, g ∈ gl ∧ aA = some ⟨g, 0, none⟩) (hA : RdL Ag.cells 5 w aA ags) :
    @Calls Tryd.prog (mSys Tryd.prog (Kf low)) 105 #[.agg [.slice aA ags.length cg, .int .u8 (used : Int)].toArray, .int .u8 (f : Int)] w fun e w' => ∃ m, SetN m (Rch ags used f) ∧ e = .returned (.int .u64 (m : Int)) ∧ Grew w w' [] := by
  letI : Sys := mSys Tryd.prog (Kf low)
  have h64 := hok.1
  refine enter (N := 57) [(0, .agg [.slice aA ags.length cg, .int .u8 (used : Int)].toArray), (1, .int .u8 (f : Int))] Tryd.func105 rfl Tryd.ntmps105 rfl rfl ?_
  refine cod_startR hout ?_
  refine cod_seq ?_
  refine cod_region ?_
  refine lst_box rfl rfl ?_
  intro cb
  refine lst_assign rfl rfl ?_
  refine lst_nil ?_
  refine ex_then ?_
  refine cod_scope ?_
  refine cod_seq ?_
  refine cod_region ?_
  refine lst_move rfl rfl ?_
  refine lst_fn0 (vs := [_, _]) rfl rfl F.ent121 (fun a w ha => mwith_c 0 f (by omega) hf w) ?_
  refine lst_assign rfl rfl ?_
  refine lst_nil ?_
  refine ex_then ?_
  refine cod_seq ?_
  refine cod_region ?_
  refine lst_move rfl rfl ?_
  refine lst_lit (vs := [(0, _)]) rfl rfl Tryd.underlying84 F.ti77 rfl rfl rfl ?_
  intro b16
  refine lst_assign rfl rfl ?_
  refine lst_blk_row1 (.head _) ?_
  refine lst_nil ?_
  refine ex_then ?_
  refine cod_seq ?_
  refine cod_label ?_
  refine ex_then ?_
  refine cod_seq ?_
  refine cod_block ?_
  -- the rounds
  refine cod_loop' (G := Nat × List Nat × Option Addr × Nat) (fun g => RIr ags used f g.1 g.2.1 ∧ g.2.1 ≠ []) (fun g => unmet g.1) (fun g => [(2, .pointer (some ⟨cb, 0, none⟩)), (5, .int .u64 (g.1 : Int)), (6, .slice g.2.2.1 g.2.1.length g.2.2.2)]) (fun g => [.row 77 1 g.2.2.1 g.2.1.length g.2.2.2 (u8s g.2.1), .blk cb (.cells [.slice aA ags.length cg, .int .u8 (used : Int)].toArray 75 (0, 0))]) (0 ||| 1 <<< f, [f], some ⟨b16, 0, none⟩, 1) ⟨RIr.first hf, by simp⟩ sbn pkk ?_
  rintro ⟨met, now, nA, nc⟩ ⟨hI, hne⟩
  dsimp only at hI hne ⊢
  have hnow : ∀ x ∈ now, x < 64 := fun x hx => (hI.sub x hx).1
  have hn64 : now.length ≤ 64 := nodup_le 64 now hI.nodup hnow
  have hnpos : 0 < now.length := List.length_pos_iff.2 hne
  refine cod_block ?_
  refine cod_seq ?_
  refine cod_region ?_
  refine lst_know (φ := ∃ g, nA = some ⟨g, 0, none⟩) (fun a w ha => row_some (ha.own (.row 77 1 nA now.length nc (u8s now)) (by simp)) hnpos) (fun hsome => ?_)
  obtain ⟨gr, rfl⟩ := hsome
  refine lst_makeChan rfl Tryd.underlying158 F.ti160 ?_
  intro c
  refine lst_alloc rfl F.ti158 ?_
  intro fb
  refine lst_store rfl rfl F.ti158 rfl ?_
  refine lst_nil ?_
  refine ex_then ?_
  refine cod_seq ?_
  refine cod_seq ?_
  refine cod_region ?_
  refine lst_move rfl rfl ?_
  refine lst_len rfl rfl Tryd.underlying84 ?_
  refine lst_move rfl rfl ?_
  refine lst_nil ?_
  refine ex_then ?_
  refine cod_block ?_
  -- who is started
  refine cod_loopC (T := Nat × Gst) (fun g => g.1 ≤ now.length ∧ (g.1 = 0 → g.2 = ⟨0, [], []⟩) ∧ (0 < g.1 → g.2.c = c ∧ cb ∈ g.2.sl ∧ fb ∈ g.2.sl ∧ ∀ b ∈ gl, b ∈ g.2.sl) ∧ g.2.pend = (now.take g.1).map (msgs ags used) ∧ ∀ b ∈ g.2.sl, b < w.heap.size → b ∈ gl) (fun g => now.length - g.1) (fun g => Cr Tryd.prog w.heap.size 57 [] w g.2)
    (fun g => [(2, .pointer (some ⟨cb, 0, none⟩)), (5, .int .u64 (met : Int)), (6, .slice (some ⟨gr, 0, none⟩) now.length nc), (7, .pointer (some ⟨fb, 0, none⟩)), (18, .slice (some ⟨gr, 0, none⟩) now.length nc), (19, .int .i64 (now.length : Int)), (20, .int .i64 (g.1 : Int))])
    (fun g => [.row 77 1 (some ⟨gr, 0, none⟩) now.length nc (u8s now), .blk cb (.cells [.slice aA ags.length cg, .int .u8 (used : Int)].toArray 75 (0, if g.1 = 0 then 0 else 2)), .blk fb (.cells [.chan (some c)].toArray 158 (0, if g.1 = 0 then 0 else 1)), .blk c (if g.1 = 0 then .chan 0 #[] false 0 0 false else blank)]) (fun _ => rfl) (0, ⟨0, [], []⟩) ⟨Nat.zero_le _, fun _ => rfl, fun h => absurd h (by simp), rfl, fun b hb => by cases hb⟩ rfl sbn pkk ?_
  rintro ⟨k, s⟩ ⟨hk, hk0, hk1, hpend, hold⟩
  dsimp only at hk hk0 hk1 hpend hold ⊢
  refine cod_seq ?_
  refine cod_region ?_
  refine lst_int rfl rfl rfl bin_lss ?_
  refine lst_nil ?_
  refine ex_then ?_
  refine cod_seq ?_
  refine cod_cond_dec rfl (fun hc0 => ?_) (fun hc0 => ?_)
  · have hk' : k < now.length := by omega
    obtain ⟨x, hx⟩ : ∃ x, now[k]? = some x := ⟨_, List.getElem?_eq_getElem hk'⟩
    refine cod_skip ?_
    refine ex_then ?_
    refine cod_seq ?_
    refine cod_block ?_
    refine cod_seq ?_
    refine cod_region ?_
    refine lst_index_row (j := k) rfl rfl rfl Tryd.underlying84 F.ti77 rfl hk' rfl rfl ?_
    intro gr' hgr'
    cases hgr'
    refine lst_load_row (v := .int .u8 (x : Int)) rfl rfl F.one77 rfl (by rw [Nat.mul_one]; unfold u8s; rw [List.getElem?_map, hx]; rfl) ?_
    refine lst_alloc rfl F.ti77 ?_
    intro xb
    refine lst_store rfl rfl F.ti77 rfl ?_
    refine lst_know (φ := w.heap.size ≤ cb ∧ w.heap.size ≤ xb ∧ w.heap.size ≤ fb) (fun a w ha => ⟨(ha.own _ (InB.mem (b := cb))).1, (ha.own _ (InB.mem (b := xb))).1, (ha.own _ (InB.mem (b := fb))).1⟩) (fun hbs => ?_)
    refine lst_nil ?_
    refine ex_then ?_
    refine cod_region ?_
    refine lst_makeFunc (fs := []) (cs := [_, _, _]) rfl rfl rfl ?_
    refine lst_sync0 (T := Unit) (fun _ => True) (fun _ => Cr Tryd.prog w.heap.size 57 [] w ⟨c, s.sl ++ ([cb, xb, fb] ++ gl), s.pend ++ [msgs ags used x]⟩) (fun _ => [.row 77 1 (some ⟨gr, 0, none⟩) now.length nc (u8s now), .blk cb (.cells [.slice aA ags.length cg, .int .u8 (used : Int)].toArray 75 (0, 2)), .blk fb (.cells [.chan (some c)].toArray 158 (0, 1)), .blk c blank]) (fun _ => rfl) (fun a w1 ha => ?_) (fun _ _ => ?_)
    · obtain ⟨h1, h2, h3, h4, h5, h6, h7⟩ := go_c (low := low) (met := met) hok hu hf hlow hgl hRd hA hI hx hk0 hk1 hpend ha
      exact sy_go (K := Kf low) ha.outs h5 h2 h1 h3 h4 (msgs_said hok (hnow x (List.mem_of_getElem? hx)) (hI.sound x (hnow x (List.mem_of_getElem? hx)) (hI.sub x (List.mem_of_getElem? hx)).2)).1 tame_goV (run_go rfl ha) rfl h6 ⟨(), trivial, h7⟩
    refine lst_nil ?_
    refine ex_block_normal ?_
    refine ex_then ?_
    refine cod_region ?_
    refine lst_int rfl rfl rfl (fun w => bin_add w (wrap_i64' _ (by omega) (by omega))) ?_
    refine lst_move rfl rfl ?_
    refine lst_nil ?_
    refine ex_roundC (k + 1, ⟨c, s.sl ++ ([cb, xb, fb] ++ gl), s.pend ++ [msgs ags used x]⟩) rfl ⟨by (try dsimp only); omega, fun h => absurd h (by simp), fun _ => ⟨rfl, by simp, by simp, fun b hb => by simp [hb]⟩, ?_, ?_⟩ (by (try dsimp only); omega) sbn pkk
    · show s.pend ++ [msgs ags used x] = _
      rw [hpend, List.take_add_one, hx]
      simp
    · intro b hb hlt
      rcases List.mem_append.1 hb with h | h
      · exact hold b h hlt
      · simp only [List.cons_append, List.nil_append, List.mem_cons] at h
        rcases h with rfl | rfl | rfl | h
        · omega
        · omega
        · omega
        · exact h
  · obtain rfl : k = now.length := by omega
    obtain ⟨sc, ssl, spend⟩ := s
    obtain ⟨rfl, hcb, hfb, hgs⟩ := hk1 hnpos
    have hn0 : now.length ≠ 0 := by omega
    simp only [if_neg hn0]
    dsimp only at hpend hold hcb hfb hgs
    rw [List.take_length] at hpend
    subst hpend
    refine cod_exit ?_
    refine ex_then_exit ?_
    refine ex_then_exit ?_
    refine ex_block_exit ?_
    refine ex_then ?_
    refine cod_seq ?_
    refine cod_region ?_
    refine lst_assign rfl rfl ?_
    refine lst_nil ?_
    refine ex_then ?_
    refine cod_nil 77 1 ?_
    refine cod_seq ?_
    refine cod_seq ?_
    refine cod_region ?_
    refine lst_move rfl rfl ?_
    refine lst_len rfl rfl Tryd.underlying84 ?_
    refine lst_assign rfl rfl ?_
    refine lst_nil ?_
    refine ex_then ?_
    refine cod_block ?_
    -- what they tell
    refine cod_loopC (T := Nat × List Nat × Option Addr × Nat × List (List UInt8)) (fun g => RR ags used f met now g.1 g.2.1 g.2.2.2.2 ∧ g.2.2.2.2.length ≤ 64) (fun g => words g.2.2.2.2) (fun g => Cr Tryd.prog w.heap.size 57 [] w ⟨sc, ssl, g.2.2.2.2⟩)
      (fun g => [(2, .pointer (some ⟨cb, 0, none⟩)), (5, .int .u64 (g.1 : Int)), (7, .pointer (some ⟨fb, 0, none⟩)), (10, .slice g.2.2.1 g.2.1.length g.2.2.2.1), (11, .int .i64 (g.2.2.2.2.length : Int))])
      (fun g => [.row 77 1 g.2.2.1 g.2.1.length g.2.2.2.1 (u8s g.2.1), .blk cb (.cells [.slice aA ags.length cg, .int .u8 (used : Int)].toArray 75 (0, 2)), .blk fb (.cells [.chan (some sc)].toArray 158 (0, 1))]) (fun _ => rfl) (met, [], none, 0, now.map (msgs ags used)) ⟨hI.start hok, by (try dsimp only); rw [List.length_map]; exact hn64⟩ rfl (by (try dsimp only); rw [List.length_map]; repeat (first | exact Sub.nil _ | refine Sub.cons rfl ?_)) pkk ?_
    rintro ⟨met', next, xA, xc, pend⟩ ⟨hR, hpl⟩
    dsimp only at hR hpl ⊢
    have hnx : next.length ≤ 64 := nodup_le 64 next hR.nodup (fun y hy => (hR.fresh y hy).1)
    refine cod_seq ?_
    refine cod_seq ?_
    refine cod_region ?_
    refine lst_move rfl rfl ?_
    refine lst_int rfl rfl rfl bin_gtr ?_
    refine lst_nil ?_
    refine ex_then ?_
    refine cod_cond_dec rfl (fun hc1 => ?_) (fun hc1 => ?_)
    · have hpe : pend ≠ [] := by rintro rfl; simp at hc1
      refine cod_skip ?_
      refine ex_then ?_
      refine cod_block ?_
      refine cod_seq ?_
      refine cod_region ?_
      refine lst_load_fz rfl rfl F.one158 ?_
      refine lst_sync (T := Nat × UInt8 × List UInt8) (fun g => pend[g.1]? = some (g.2.1 :: g.2.2)) (fun g => Cr Tryd.prog w.heap.size 57 [] w (Gst.after (Kf low) ⟨sc, ssl, pend⟩ g.1 g.2.1 g.2.2)) (fun g => .agg (newsL g.2.1).toArray) (fun _ => [.row 77 1 xA next.length xc (u8s next), .blk cb (.cells [.slice aA ags.length cg, .int .u8 (used : Int)].toArray 75 (0, 2)), .blk fb (.cells [.chan (some sc)].toArray 158 (0, 1))]) (fun _ => rfl) (fun _ => rfl) rfl
        (fun a w1 ha => sy_recv (K := Kf low) (s := ⟨sc, ssl, pend⟩) ha.outs hpe (tame_recvOp ..) (fun w2 => run_recv rfl Tryd.underlying158 F.ti160 ha w2) (fun i b l hl => ⟨(i, b, l), hl, rfl, ha.saidR (Gst.after (Kf low) ⟨sc, ssl, pend⟩ i b l) rfl⟩)) ?_
      rintro ⟨i, b, l⟩ hl
      dsimp only at hl ⊢
      by_cases hb : b = 255
      · subst hb
        have e1 : newsL 255 = [.int .u8 0, .bool true] := by unfold newsL; rw [if_pos rfl]
        have e2 : Gst.after (Kf low) ⟨sc, ssl, pend⟩ i 255 l = ⟨sc, ssl, pend.eraseIdx i⟩ := by unfold Gst.after; rw [if_pos (show (255 : UInt8) = (Kf low).done from rfl)]
        rw [e1, e2]
        have hil : i < pend.length := (List.getElem?_eq_some_iff.1 hl).1
        have e3 : (pend.eraseIdx i).length = pend.length - 1 := by rw [List.length_eraseIdx, if_pos hil]
        have e4 : ((pend.length - 1 : Nat) : Int) = (pend.length : Int) - 1 := by omega
        refine lst_alloc rfl F.ti160 ?_
        intro b12
        refine lst_store rfl rfl F.ti160 rfl ?_
        refine lst_nil ?_
        refine ex_then ?_
        refine cod_block ?_
        refine cod_seq ?_
        refine cod_region ?_
        refine lst_field_z rfl rfl F.fi160_1 F.ti4 ?_
        refine lst_load rfl rfl F.one4 ?_
        refine lst_assign rfl rfl ?_
        refine lst_nil ?_
        refine ex_then ?_
        refine cod_cond_true rfl ?_
        refine cod_region ?_
        refine lst_move rfl rfl ?_
        refine lst_int rfl rfl rfl (fun w => bin_sub w (wrap_i64' _ (by omega) (by omega))) ?_
        refine lst_assign rfl rfl ?_
        refine lst_nil ?_
        refine ex_block_normal ?_
        refine ex_block_normal ?_
        exact ex_roundC (met', next, xA, xc, pend.eraseIdx i) rfl ⟨hR.done hok hnow hl, by (try dsimp only); omega⟩ (words_erase hl) (by (try dsimp only); rw [e3, e4]; repeat (first | exact Sub.nil _ | refine Sub.cons rfl ?_)) pkk
      · have hb64 := ((hR.one hl).2 b (by simp) hb).1
        have e1 : newsL b = [.int .u8 (b.toNat : Int), .bool false] := by unfold newsL; rw [if_neg hb]
        have e2 : Gst.after (Kf low) ⟨sc, ssl, pend⟩ i b l = ⟨sc, ssl, pend.set i l⟩ := by unfold Gst.after; rw [if_neg (show ¬ b = (Kf low).done from hb)]
        rw [e1, e2]
        refine lst_alloc rfl F.ti160 ?_
        intro b12
        refine lst_store rfl rfl F.ti160 rfl ?_
        refine lst_nil ?_
        refine ex_then ?_
        refine cod_block ?_
        refine cod_seq ?_
        refine cod_region ?_
        refine lst_field_z rfl rfl F.fi160_1 F.ti4 ?_
        refine lst_load rfl rfl F.one4 ?_
        refine lst_assign rfl rfl ?_
        refine lst_nil ?_
        refine ex_then ?_
        refine cod_cond_false rfl ?_
        refine cod_seq ?_
        refine cod_region ?_
        refine lst_move rfl rfl ?_
        refine lst_field_z rfl rfl F.fi160_0 F.ti77 ?_
        refine lst_load rfl rfl F.one77 ?_
        refine lst_fn0 (vs := [_, _]) rfl rfl F.ent104 (fun a w ha => mhas_c met' b.toNat hR.lt w) ?_
        refine lst_not rfl rfl ?_
        refine lst_assign rfl rfl ?_
        refine lst_nil ?_
        refine ex_then ?_
        refine cod_cond_bool rfl (fun hc3 => ?_) (fun hc3 => ?_)
        · have hc3' : met'.testBit b.toNat = false := by simpa using hc3
          refine cod_seq ?_
          refine cod_region ?_
          refine lst_move rfl rfl ?_
          refine lst_field_z rfl rfl F.fi160_0 F.ti77 ?_
          refine lst_load rfl rfl F.one77 ?_
          refine lst_fn0 (vs := [_, _]) rfl rfl F.ent121 (fun a w ha => mwith_c met' b.toNat hR.lt hb64 w) ?_
          refine lst_assign rfl rfl ?_
          refine lst_nil ?_
          refine ex_then ?_
          refine cod_region ?_
          refine lst_move rfl rfl ?_
          refine lst_field_z rfl rfl F.fi160_0 F.ti77 ?_
          refine lst_load rfl rfl F.one77 ?_
          refine lst_lit (vs := [(0, _)]) rfl rfl Tryd.underlying84 F.ti77 rfl rfl rfl ?_
          intro b50
          refine lst_append rfl rfl rfl Tryd.underlying84 F.ti77 rfl rfl rfl (by unfold maxLen; omega) (by omega) ?_
          intro A1 c1
          refine lst_assign rfl rfl ?_
          refine lst_nil ?_
          refine ex_block_normal ?_
          refine ex_block_normal ?_
          exact ex_roundC (met' ||| 1 <<< b.toNat, next ++ [b.toNat], A1, c1, pend.set i l) rfl ⟨hR.new hok hnow hl hb hc3', by (try dsimp only); rw [List.length_set]; exact hpl⟩ (words_set hl) (by (try dsimp only); simp only [List.length_append, List.length_singleton, List.length_set]; repeat (first | exact Sub.nil _ | refine Sub.cons rfl ?_)) (by (try dsimp only); simp only [u8s_snoc, List.length_append, List.length_singleton]; repeat (first | exact Pck.nil _ | exact Pck.refl _ | (apply Pck.cons; focus ((repeat (first | exact Rem.here _ | apply Rem.there)); done)) | refine Pck.skip _ ?_))
        · have hc3' : met'.testBit b.toNat = true := by simpa using hc3
          refine cod_skip ?_
          refine ex_block_normal ?_
          refine ex_block_normal ?_
          exact ex_roundC (met', next, xA, xc, pend.set i l) rfl ⟨hR.word hok hnow hl hb hc3', by (try dsimp only); rw [List.length_set]; exact hpl⟩ (words_set hl) (by (try dsimp only); rw [List.length_set]; repeat (first | exact Sub.nil _ | refine Sub.cons rfl ?_)) pkk
    · obtain rfl : pend = [] := by
        cases pend with
        | nil => rfl
        | cons a l => simp at hc1
      refine cod_exit ?_
      refine ex_then_exit ?_
      refine ex_then_exit ?_
      refine ex_block_exit ?_
      refine ex_then ?_
      refine cod_settle (K := Kf low) [.row 77 1 xA next.length xc (u8s next), .blk cb (.cells [.slice aA ags.length cg, .int .u8 (used : Int)].toArray 75 (0, 0))] rfl (fun a v ha => ha.settled (fun b hb hlt => by obtain ⟨cs, t, h, _⟩ := hgl b (hold b hb hlt); exact ⟨cs, t, h⟩) (fun r hr => ?_) ?_) ?_
      · simp only [List.mem_cons, List.not_mem_nil, or_false] at hr
        rcases hr with rfl | rfl
        · exact Res.kept (ha.own _ (by simp)) (fun b o e => by cases e)
        · exact Res.back (ha.own (.blk cb (.cells [.slice aA ags.length cg, .int .u8 (used : Int)].toArray 75 (0, 2))) (by simp)) hcb
      · have h1 := ha.apart.sublist (List.Sublist.filterMap Res.id (show [Res.row 77 1 xA next.length xc (u8s next), .blk cb (.cells [.slice aA ags.length cg, .int .u8 (used : Int)].toArray 75 (0, 2))].Sublist [.row 77 1 xA next.length xc (u8s next), .blk cb (.cells [.slice aA ags.length cg, .int .u8 (used : Int)].toArray 75 (0, 2)), .blk fb (.cells [.chan (some sc)].toArray 158 (0, 1))] from .cons_cons _ (.cons_cons _ (List.nil_sublist _))))
        have e : List.filterMap Res.id [Res.row 77 1 xA next.length xc (u8s next), .blk cb (.cells [.slice aA ags.length cg, .int .u8 (used : Int)].toArray 75 (0, 0))] = List.filterMap Res.id [Res.row 77 1 xA next.length xc (u8s next), .blk cb (.cells [.slice aA ags.length cg, .int .u8 (used : Int)].toArray 75 (0, 2))] := by simp [List.filterMap_cons, Res.id]
        rw [e]
        exact h1
      have hfin := hR.over hI hf
      refine cod_seq ?_
      refine cod_seq ?_
      refine cod_region ?_
      refine lst_move rfl rfl ?_
      refine lst_len rfl rfl Tryd.underlying84 ?_
      refine lst_int rfl rfl rfl bin_eql ?_
      refine lst_nil ?_
      refine ex_then ?_
      refine cod_cond_dec rfl (fun hc2 => ?_) (fun hc2 => ?_)
      · obtain rfl : next = [] := List.eq_nil_of_length_eq_zero (by omega)
        refine cod_exit ?_
        refine ex_then_exit ?_
        refine ex_block_other rfl ?_
        refine ex_then_exit ?_
        refine ex_block_exit ?_
        refine ex_then ?_
        refine cod_seq ?_
        refine cod_region ?_
        refine lst_move rfl rfl ?_
        refine lst_assign rfl rfl ?_
        refine lst_nil ?_
        refine ex_then ?_
        refine cod_ret ?_
        refine ex_scope_ret ?_
        exact ex_ret rfl (fun a w ha => res_one rfl rfl ha) (fun a w' ha => ⟨met', hfin.final hok hf, rfl, (ha.endR hout).grown (List.nil_sublist _)⟩)
      · have hnn : next ≠ [] := by rintro rfl; simp at hc2
        refine cod_skip ?_
        refine ex_then ?_
        refine cod_region ?_
        refine lst_move rfl rfl ?_
        refine lst_assign rfl rfl ?_
        refine lst_nil ?_
        refine ex_block_normal ?_
        exact ex_round' (met', next, xA, xc) ⟨hfin, hnn⟩ (hR.nearer hnn) sbn pkk
end Go.Proofs.YtofkhehcnfiopaaDoor.N
