/- Parts of the walk of the law TopCrushed: Team, Sx4, Step, Market, Market2, Goals, Found, Found2, Kit, Price, Kit2, Kit3, Both5, TellsP, Sx5, Market3, Opt, Opt2, Ch, Clr, Dist, Ned, More, Rds, ChsP, Far, Sx7, Shuf, PutS, PutL, BothP, Far2, FewP, Sx12, Sx14, Sx16, ItP, TopP, Eq, HatL, Hat2, Sx15. -/
import Derived.Test.YthkbagikmbcphaaDoorSTopCrushed00
import Derived.Deep.LoopGhost
import Derived.DeepKeys3
import Derived.OrdersHeld
import Derived.ScopeJumps
import Derived.WalkKit
import Derived.WalkLawsBesides
import Derived.LaidEql
import Derived.RowKitTokens
import Derived.Stop.Asserts
import Derived.RangeFuncSeq
import Derived.RecoverIn
import Derived.TacticsIn
namespace Go.Proofs.YthkbagikmbcphaaDoor.N
open Go Go.RowKit Go.Proofs

/-- A team: three sets of faults. -/
abbrev Tm := Nat × Nat × Nat
def tcells (t : Tm) : List Value := [.int .u8 (t.1 : Int), .int .u8 (t.2.1 : Int), .int .u8 (t.2.2 : Int)]
def Tm.ok (t : Tm) : Prop := t.1 < 256 ∧ t.2.1 < 256 ∧ t.2.2 < 256
section
variable {l : List Tm} {t : Tm} {w : World}
end
section
variable {C : Ctx} {fr : List (Nat × Value)} {hp hp' : List Res} {a : Act} {w : World} {ops : Array Oper} {Q : Exit → Act → World → Prop} {rest : List Oper}
  {d : Nat} {ty : TypeId} {pos : String} {after : Array Edge}
end
end Go.Proofs.YthkbagikmbcphaaDoor.N
namespace Go.Proofs.YthkbagikmbcphaaDoor.N
open Go Go.RowKit Go.Proofs
def ncell (n : Nat) : List Value := [.int .i64 (n : Int)]
section
variable {C : Ctx} {fr : List (Nat × Value)} {hp hp' : List Res} {a : Act} {w : World} {ops : Array Oper} {Q : Exit → Act → World → Prop} {rest : List Oper}
  {d : Nat} {ty : TypeId} {pos : String} {after : Array Edge}
theorem row_at (ha : At C fr hp a w) {α : Type} {cells : α → List Value} {size e n c g k j : Nat} {l : List α} {x : α} {u : Value} (hm : Res.row e size (some ⟨g, 0, none⟩) n c (l.flatMap cells) ∈ hp) (hs : ∀ x, (cells x).length = size) (hk : l[k]? = some x) (hu : (cells x)[j]? = some u) :
    w.cell? ⟨g, 0 + k * size + j, none⟩ = some u := by
  rw [Nat.zero_add]
  exact row_cell ha hm rfl (flatMap_get hs l k x hk j u hu)
/-- A slice's literal of no elements may grow. -/
theorem At.as_row (ha : At C fr hp a w) {b e size : Nat} (hu : Upd (.blk b (.cells ([] : List Value).toArray e (0, 0))) (.row e size (some ⟨b, 0, none⟩) 0 0 []) hp hp') : At C fr hp' a w := by
  have hb := ha.own _ hu.mem
  refine ha.turn hu (⟨rfl, rfl, rfl, Nat.le_refl _, fun _ _ _ => rfl⟩ : w.grownBy w _) ⟨by simp, .inr ⟨b, 0, #[], rfl, hb.1, hb.2, Nat.le_refl _, Nat.zero_le _, by simp, by simp⟩⟩ (fun k hk => .inl ?_)
  exact hk
theorem lst_as_row {l : List Oper} {b e : Nat} (size : Nat) (hu : Upd (.blk b (.cells ([] : List Value).toArray e (0, 0))) (.row e size (some ⟨b, 0, none⟩) 0 0 []) hp hp') (h : Lst C ops Q l fr hp') : Lst C ops Q l fr hp := fun a w ha => h a w (ha.as_row hu)
/-- What is appended lies where it is known to lie. -/
theorem lst_append_at {x y : Operand} {t e : TypeId} {A : Option Addr} {p : Addr} {n c m cb size bytes : Nat} {xs news : List Value} {z : Value} {hp' : Option Addr → Nat → List Res} (hd : Nat.blt d C.N = true)
    (hx : ev fr x = some (.slice A n c)) (hy : ev fr y = some (.slice (some p) m cb)) (ht : C.P.underlying t = some (.slice e)) (hi : TI C.P e z size bytes) (hzs : z.cells.size = size) (hs0 : Nat.blt 0 size = true)
    (hnews : ∀ a w, At C fr hp a w → ∀ j u, news[j]? = some u → w.cell? (p.add j) = some u) (hl : news.length = m * size) (ho : ∀ u ∈ news, u.oneCell' = true) [hr : InR A e size n c xs hp] [hu : ∀ A' c', UpR A e size n c xs (.row e size A' (n + m) c' (xs ++ news)) hp (hp' A' c')]
    (hplace : ∀ (w : World) (v' : Value) (w' : World), w.ownsRow C.B e size (.slice A n c) n xs → (∀ j u, news[j]? = some u → w.cell? (p.add j) = some u) → (Builtin.append_ #[t, t] ty #[.slice A n c, .slice (some p) m cb]).run C.P w = .ok v' w' → ∀ k, v'.ownBlock = some k → (Value.slice A n c).ownBlock = some k ∨ w.heap.size ≤ k)
    (h63 : n + m ≤ maxLen) (hbytes : (n + m) * bytes ≤ 140737488355328)
    (k : ∀ A' c', Lst C ops Q rest ((d, .slice A' (n + m) c') :: fr) (hp' A' c')) :
    Lst C ops Q (⟨some d, .call { callee := .builtin .append, args := #[x, y], argTypes := #[t, t] }, ty, pos, after, none⟩ :: rest) fr hp := by
  intro a w ha
  obtain ⟨i, hi1, hi2, hi3, hi4⟩ := hi
  have hown := ha.own _ hr.mem
  subst hi3; subst hi4
  obtain ⟨v', w', hrun, hown', hg, _⟩ := run_append_own (P := C.P) w C.B t ty e i z i.size i.bytes ht hi1 hi2 rfl rfl hzs (lt_of_blt hs0) _ n xs hown p m cb news hl (hnews a w ha) ho h63 hbytes ha.base
  have hpl := hplace w v' w' hown (hnews a w ha) hrun
  obtain ⟨A', c', rfl⟩ := ownsRow_shape hown'
  refine wpList_plain rfl fun K hK => ?_
  unfold Oper.wp
  have hr' : (execOp a.eval ⟨some d, .call { callee := .builtin .append, args := #[x, y], argTypes := #[t, t] }, ty, pos, after, none⟩).run C.P w = .ok (.value (.slice A' (n + m) c')) w' := by
    simp only [execOp, resolve, invoke, builtin, Sem.run_bind, Sem.run_pure, Result.andThen_ok, List.map_toArray, List.map_cons, List.map_nil, ha.eval hx, ha.eval hy, hrun]
  rw [hr']
  exact hK _ _ (k A' c' _ _ ((ha.turn (hu A' c').upd hg hown' hpl).put (lt_of_blt hd) _))
/-- A list of numbers, appended. -/
theorem lst_append_ints {x y : Operand} {t e : TypeId} {A : Option Addr} {p : Addr} {n c m cb bytes : Nat} {xs : List Value} {l : List Nat} {z : Value} {hp' : Option Addr → Nat → List Res} (hd : Nat.blt d C.N = true)
    (hx : ev fr x = some (.slice A n c)) (hy : ev fr y = some (.slice (some p) m cb)) (ht : C.P.underlying t = some (.slice e)) (hi : TI C.P e z 1 bytes) (hzs : z.cells.size = 1)
    (hnews : ∀ a w, At C fr hp a w → ∀ j u, (ints l)[j]? = some u → w.cell? (p.add j) = some u) (hl : l.length = m) [hr : InR A e 1 n c xs hp] [hu : ∀ A' c', UpR A e 1 n c xs (.row e 1 A' (n + m) c' (xs ++ ints l)) hp (hp' A' c')]
    (h63 : n + m ≤ maxLen) (hbytes : (n + m) * bytes ≤ 140737488355328)
    (k : ∀ A' c', Lst C ops Q rest ((d, .slice A' (n + m) c') :: fr) (hp' A' c')) :
    Lst C ops Q (⟨some d, .call { callee := .builtin .append, args := #[x, y], argTypes := #[t, t] }, ty, pos, after, none⟩ :: rest) fr hp := by
  have ho : ∀ u ∈ ints l, u.oneCell' = true := by
    intro u hu'
    obtain ⟨n, _, rfl⟩ := List.mem_map.1 hu'
    simp [Value.oneCell']
  have hi' := hi
  obtain ⟨i, hi1, hi2, hi3, hi4⟩ := hi'
  subst hi4
  refine lst_append_at hd hx hy ht hi hzs rfl hnews (by rw [ints_len]; omega) ho (fun w v' w' hown hn hrun => ?_) h63 hbytes k
  exact append_place ht hi1 hi2 (hi3 ▸ hown) (by rw [ints_len, hi3]; omega) hn ho h63 hbytes hrun
/-- A slice and nil. -/
theorem run_eql_nil {t e : TypeId} {P : Program} (ht : P.underlying t = some (.slice e)) (A : Option Addr) (n c : Nat) (x y : Operand) (w : World) :
    (do eqGuard .eql t x y (.slice A n c) (.slice none 0 0); binOp .eql t (.slice A n c) (.slice none 0 0) : Sem Value).run P w = .ok (.bool A.isNone) w := by
  have hg : (eqGuard .eql t x y (.slice A n c) (.slice none 0 0)).run P w = .ok () w := by simp [eqGuard]
  have hb : (binOp .eql t (.slice A n c) (.slice none 0 0)).run P w = .ok (.bool A.isNone) w := by
    show (do pure (.bool (← Op.equal t (.slice A n c) (.slice none 0 0))) : Sem Value).run P w = _
    have he : (Op.equal t (.slice A n c) (.slice none 0 0)).run P w = .ok A.isNone w := by
      show (Op.equalIn (9999 + 1) t (.slice A n c) (.slice none 0 0)).run P w = _
      unfold Op.equalIn
      simp only [Sem.run_bind, run_underlying ht, Result.andThen_ok]
      cases A <;> simp
    simp only [Sem.run_bind, he, Result.andThen_ok, Sem.run_pure]
  simp only [Sem.run_bind, hg, Result.andThen_ok, hb]
end
theorem RdL.ints_at {w : World} {p : Addr} {l : List Nat} (h : RdL ncell 1 w (some p) l) {j : Nat} {u : Value} (hu : (ints l)[j]? = some u) : w.cell? (p.add j) = some u := by
  have hj : j < l.length := by
    rcases Nat.lt_or_ge j l.length with h1 | h1
    · exact h1
    · rw [List.getElem?_eq_none (by rw [ints_len]; exact h1)] at hu; cases hu
  obtain ⟨b, o, h1, _, h3⟩ := h (by omega)
  cases h1
  have := h3 j l[j] (List.getElem?_eq_getElem hj) 0 u (by
    simp only [ints, List.getElem?_map, List.getElem?_eq_getElem hj, Option.map_some] at hu
    exact hu)
  rw [addr_add]
  simpa using this
theorem ints_flat (l : List Nat) : ints l = l.flatMap ncell := by
  induction l with
  | nil => rfl
  | cons n l ih => rw [List.flatMap_cons, ← ih]; rfl
/-- A walk through teams: who, in which order; where it led. -/
structure Wk where
  A : Option Addr
  c : Nat
  how : List Nat
  team : Tm
def Wk.cells (k : Wk) : List Value := .slice k.A k.how.length k.c :: tcells k.team
def Wk.res (k : Wk) : Res := .row 3 1 k.A k.how.length k.c (ints k.how)
end Go.Proofs.YthkbagikmbcphaaDoor.N
namespace Go.Proofs.YthkbagikmbcphaaDoor.N
open Go Go.RowKit Go.Proofs
def tget (t : Tm) : Nat → Nat
  | 0 => t.1
  | 1 => t.2.1
  | _ => t.2.2
def tput (t : Tm) (j v : Nat) : Tm :=
  match j with
  | 0 => (v, t.2.1, t.2.2)
  | 1 => (t.1, v, t.2.2)
  | _ => (t.1, t.2.1, v)
/-- The first j sets of a team, behind an agent. -/
def putT (x : Ag) (t : Tm) : Nat → Tm
  | 0 => t
  | j + 1 => tput (putT x t j) j (putN x (tget t j))
def mayT (x : Ag) (t : Tm) (n : Nat) : Bool := (List.range n).all fun j => mayN x (tget t j)
/-- One agent's step. -/
def stepT (ags : List Ag) (used n : Nat) (t : Tm) (i : Nat) : Option Tm :=
  if i < ags.length ∧ used.testBit i = true ∧ mayT (ags.getD i default) t n = true then some (putT (ags.getD i default) t n) else none
theorem stepT_none {ags : List Ag} {used n : Nat} : ∀ (t : Tm) (i : Nat), ags.length ≤ i → stepT ags used n t i = none := by
  intro t i h
  exact if_neg (fun h' => by omega)
def Tm.lo (t : Tm) : Prop := t.1 < 64 ∧ t.2.1 < 64 ∧ t.2.2 < 64
theorem Tm.lo.ok {t : Tm} (h : Tm.lo t) : Tm.ok t := ⟨by have := h.1; omega, by have := h.2.1; omega, by have := h.2.2; omega⟩
def Wk.pr (k : Wk) : List Nat × Tm := (k.how, k.team)
structure FInv (ags : List Ag) (used n : Nat) (most : Int) (t0 : Tm) (goal : Tm → Bool) (full : List Wk) (kk i : Nat) (rws : List Wk) : Prop where
  bin : BIn (stepT ags used n) ags.length most t0 goal (full.map Wk.pr) kk i
  rows : ∀ k ∈ full, k ∈ rws
  lo : ∀ k ∈ full, Tm.lo k.team
  lens : ∀ (j : Nat) (k : Wk), full[j]? = some k → k.how.length ≤ j
section
variable {ags : List Ag} {used n : Nat} {most : Int} {t0 : Tm} {goal : Tm → Bool} {full : List Wk} {kk i : Nat} {rws : List Wk} {k kn : Wk} {rest : List Wk}
theorem map_team (full : List Wk) : (full.map Wk.pr).map (·.2) = full.map Wk.team := by simp [Wk.pr]
theorem FInv.start (h0 : Tm.lo t0) (c : Nat) : FInv ags used n most t0 goal [⟨none, c, [], t0⟩] 0 0 [⟨none, c, [], t0⟩] where
  bin := BIn.start
  rows := fun k h => h
  lo := fun k h => by simp at h; subst h; exact h0
  lens := fun j k h => by
    cases j with
    | zero => simp at h; subst h; simp
    | succ j => simp at h
def tcode (t : Tm) : Nat := t.1 * 4096 + t.2.1 * 64 + t.2.2
theorem FInv.len (h : FInv ags used n most t0 goal full kk i rws) : full.length ≤ 262144 := by
  have hn := h.bin.nodup
  rw [map_team] at hn
  have : ((full.map Wk.team).map tcode).Nodup := by
    unfold List.Nodup at hn ⊢
    rw [List.pairwise_map]
    refine hn.imp_of_mem ?_
    intro a b ha hb hab e
    obtain ⟨ka, hka, rfl⟩ := List.mem_map.1 ha
    obtain ⟨kb, hkb, rfl⟩ := List.mem_map.1 hb
    have h1 := h.lo ka hka
    have h2 := h.lo kb hkb
    obtain ⟨h11, h12, h13⟩ := h1
    obtain ⟨h21, h22, h23⟩ := h2
    apply hab
    unfold tcode at e
    have e1 : ka.team.1 = kb.team.1 := by omega
    have e2 : ka.team.2.1 = kb.team.2.1 := by omega
    have e3 : ka.team.2.2 = kb.team.2.2 := by omega
    exact Prod.ext e1 (Prod.ext e2 e3)
  have hle := nodup_le 262144 _ this (fun x hx => by
    obtain ⟨t, ht, rfl⟩ := List.mem_map.1 hx
    obtain ⟨k, hk, rfl⟩ := List.mem_map.1 ht
    obtain ⟨h1, h2, h3⟩ := h.lo k hk
    unfold tcode
    omega)
  simpa using hle
theorem pr_get (hk : full[kk]? = some k) : (full.map Wk.pr)[kk]? = some (k.how, k.team) := by
  rw [List.getElem?_map, hk]; rfl
theorem FInv.found (h : FInv ags used n most t0 goal full kk 0 rws) (hk : full[kk]? = some k) (hg : goal k.team = true) : IsFirst (stepT ags used n) ags.length most t0 goal k.how ∧ run (stepT ags used n) t0 k.how = some k.team :=
  ⟨h.bin.found stepT_none (pr_get hk) hg, h.bin.leads _ (List.mem_of_getElem? (pr_get hk))⟩
theorem FInv.long (h : FInv ags used n most t0 goal full kk 0 rws) (hk : full[kk]? = some k) (hg : goal k.team = false) (hl : (k.how.length : Int) = most) : FInv ags used n most t0 goal full (kk + 1) 0 rws :=
  ⟨h.bin.next_long (pr_get hk) hg hl, h.rows, h.lo, h.lens⟩
theorem FInv.next (h : FInv ags used n most t0 goal full kk ags.length rws) (hk : full[kk]? = some k) (hg : goal k.team = false) : FInv ags used n most t0 goal full (kk + 1) 0 rws :=
  ⟨h.bin.next stepT_none (pr_get hk) hg, h.rows, h.lo, h.lens⟩
theorem FInv.skip_met (h : FInv ags used n most t0 goal full kk i rws) (hk : full[kk]? = some k) {t : Tm} (hs : stepT ags used n k.team i = some t) (hm : t ∈ full.map Wk.team) : FInv ags used n most t0 goal full kk (i + 1) rws :=
  ⟨h.bin.skip_met (pr_get hk) hs (by rw [map_team]; exact hm), h.rows, h.lo, h.lens⟩
theorem FInv.same (h : FInv ags used n most t0 goal full kk i rws) (hk : full[kk]? = some k) (hs : stepT ags used n k.team i = some k.team) : FInv ags used n most t0 goal full kk (i + 1) rws :=
  h.skip_met hk hs (List.mem_map.2 ⟨k, List.mem_of_getElem? hk, rfl⟩)
theorem FInv.more (h : FInv ags used n most t0 goal full kk i rws) (x : Wk) : FInv ags used n most t0 goal full kk i (x :: rws) :=
  ⟨h.bin, fun k hk => List.mem_cons.2 (.inr (h.rows k hk)), h.lo, h.lens⟩
end
end Go.Proofs.YthkbagikmbcphaaDoor.N
namespace Go.Proofs.YthkbagikmbcphaaDoor.N
open Go Go.RowKit Go.Proofs
/-- What it costs to clear a melt. -/
structure Pr where
  cost : Nat
  puts : Nat
  known : Bool
  deriving DecidableEq, Inhabited
def Pr.cells (p : Pr) : List Value := [.int .i64 (p.cost : Int), .int .i64 (p.puts : Int), .bool p.known]
def lessP (a b : Pr) : Bool := a.known && (!b.known || decide (a.cost < b.cost) || (decide (a.cost = b.cost) && decide (a.puts < b.puts)))
def afterP (ps : List Pr) (x : Ag) (f : Nat) : Pr := { cost := (ps.getD (putN x f) default).cost + x.cost, puts := (ps.getD (putN x f) default).puts + 1, known := (ps.getD (putN x f) default).known }
/-- One agent looked at for one melt. -/
def relax (ags : List Ag) (f : Nat) (s : List Pr × Bool) (i : Nat) : List Pr × Bool :=
  if lessP (afterP s.1 (ags.getD i default) f) (s.1.getD f default) = true then (s.1.set f (afterP s.1 (ags.getD i default) f), true) else s
def relaxF (ags : List Ag) (f : Nat) (s : List Pr × Bool) (l : List Nat) : List Pr × Bool := l.foldl (relax ags f) s
/-- A round over the first melts. -/
def roundP (ags : List Ag) (used : Nat) (ps : List Pr) : Nat → List Pr × Bool
  | 0 => (ps, false)
  | f + 1 => relaxF ags f (roundP ags used ps f) (canTo ags used f ags.length)
def initP (p : Nat) (k : Nat) : List Pr := (List.range 64).map fun n => if n < k then ⟨0, 0, decide (nn n p = 0)⟩ else ⟨0, 0, false⟩
def iterP (ags : List Ag) (used p : Nat) : Nat → List Pr
  | 0 => initP p 64
  | j + 1 => (roundP ags used (iterP ags used p j) 64).1
/-- Prices that are not too high. -/
def Bd (ps : List Pr) (m : Nat) : Prop := ps.length = 64 ∧ ∀ p ∈ ps, p.puts ≤ m ∧ p.cost ≤ 9 * m
theorem Bd.get {ps : List Pr} {m : Nat} (h : Bd ps m) (k : Nat) : (ps.getD k default).puts ≤ m ∧ (ps.getD k default).cost ≤ 9 * m := by
  rw [List.getD_eq_getElem?_getD]
  cases hk : ps[k]? with
  | none => exact ⟨Nat.zero_le _, Nat.zero_le _⟩
  | some p => exact h.2 p (List.mem_of_getElem? hk)
theorem Bd.mono {ps : List Pr} {m m' : Nat} (h : Bd ps m) (hm : m ≤ m') : Bd ps m' := ⟨h.1, fun p hp => by have := h.2 p hp; omega⟩
theorem Bd.after {ps : List Pr} {m : Nat} (h : Bd ps m) {x : Ag} (hx : x.cost ≤ 9) (f : Nat) : (afterP ps x f).puts ≤ m + 1 ∧ (afterP ps x f).cost ≤ 9 * (m + 1) := by
  have := h.get (putN x f)
  unfold afterP
  dsimp only
  omega
theorem Bd.set {ps : List Pr} {m : Nat} (h : Bd ps m) {p : Pr} (hp : p.puts ≤ m ∧ p.cost ≤ 9 * m) (f : Nat) : Bd (ps.set f p) m :=
  ⟨by rw [List.length_set]; exact h.1, fun q hq => by
    rcases List.mem_or_eq_of_mem_set hq with h1 | h1
    · exact h.2 q h1
    · subst h1; exact hp⟩
theorem Bd.init (p k : Nat) : Bd (initP p k) 0 := by
  refine ⟨by simp [initP], fun q hq => ?_⟩
  unfold initP at hq
  obtain ⟨n, _, rfl⟩ := List.mem_map.1 hq
  split <;> exact ⟨Nat.le_refl _, Nat.le_refl _⟩
theorem Bd.relax {ags : List Ag} {f m : Nat} {s : List Pr × Bool} (h : Bd s.1 m) {i : Nat} (hx : (ags.getD i default).cost ≤ 9) : Bd (relax ags f s i).1 (m + 1) := by
  unfold Go.Proofs.YthkbagikmbcphaaDoor.N.relax
  split
  · exact (h.mono (Nat.le_succ _)).set (h.after hx f) f
  · exact h.mono (Nat.le_succ _)
theorem Bd.relaxF {ags : List Ag} {f : Nat} (hok : ∀ x ∈ ags, x.ok) : ∀ (l : List Nat) (m : Nat) (s : List Pr × Bool), Bd s.1 m → Bd (Go.Proofs.YthkbagikmbcphaaDoor.N.relaxF ags f s l).1 (m + l.length) := by
  intro l
  induction l with
  | nil => intro m s h; exact h
  | cons i l ih =>
    intro m s h
    have h1 : (ags.getD i default).cost ≤ 9 := by
      rw [List.getD_eq_getElem?_getD]
      cases hk : ags[i]? with
      | none => exact Nat.zero_le _
      | some x => exact (hok x (List.mem_of_getElem? hk)).cost.2
    have := ih (m + 1) _ (h.relax (f := f) h1)
    unfold Go.Proofs.YthkbagikmbcphaaDoor.N.relaxF at this ⊢
    rw [List.foldl_cons, List.length_cons]
    exact this.mono (by omega)
end Go.Proofs.YthkbagikmbcphaaDoor.N
namespace Go.Proofs.YthkbagikmbcphaaDoor.N
open Go Go.RowKit Go.Proofs
theorem lst_know {C : Ctx} {fr : List (Nat × Value)} {hp : List Res} {ops : Array Oper} {Q : Exit → Act → World → Prop} {l : List Oper} {φ : Prop} (h : ∀ a w, At C fr hp a w → φ) (k : φ → Lst C ops Q l fr hp) : Lst C ops Q l fr hp := fun a w ha => k (h a w ha) a w ha
theorem cod_know {C : Ctx} {fr : List (Nat × Value)} {hp : List Res} {Q : Exit → Act → World → Prop} {c : Code} {φ : Prop} (h : ∀ a w, At C fr hp a w → φ) (k : φ → Cod C c Q fr hp) : Cod C c Q fr hp := fun a w ha => k (h a w ha) a w ha
theorem Bd.round {ags : List Ag} {used m : Nat} {ps : List Pr} (hok : Oks ags) (h : Bd ps m) : ∀ k, Bd (roundP ags used ps k).1 (m + 4 * k)
  | 0 => h
  | k + 1 => by
    have h1 := Bd.relaxF (f := k) hok.2 (canTo ags used k ags.length) _ _ (Bd.round (used := used) hok h k)
    have h2 := canTo_len ags used k ags.length
    have h3 := hok.1
    exact h1.mono (by omega)
theorem Bd.iter {ags : List Ag} {used p : Nat} (hok : Oks ags) : ∀ j, Bd (iterP ags used p j) (256 * j)
  | 0 => Bd.init p 64
  | j + 1 => (Bd.round (used := used) hok (Bd.iter (used := used) (p := p) hok j) 64).mono (by omega)
theorem Bd.at {ags : List Ag} {used p : Nat} (hok : Oks ags) (j k t : Nat) (ht : t ≤ 4) : Bd (Go.Proofs.YthkbagikmbcphaaDoor.N.relaxF ags k (roundP ags used (iterP ags used p j) k) ((canTo ags used k ags.length).take t)).1 (256 * j + 4 * k + 4) := by
  have h1 := Bd.relaxF (f := k) hok.2 ((canTo ags used k ags.length).take t) _ _ (Bd.round (used := used) hok (Bd.iter (used := used) (p := p) hok j) k)
  exact h1.mono (by rw [List.length_take]; omega)
theorem canTo_mem {ags : List Ag} {used f k i : Nat} (h : i ∈ canTo ags used f k) : i < k ∧ used.testBit i = true ∧ mayN (ags.getD i default) f = true := by
  unfold canTo at h
  obtain ⟨h1, h2⟩ := List.mem_filter.1 h
  have := List.mem_range.1 h1
  simp at h2
  exact ⟨this, h2⟩
theorem getD_some {ps : List Pr} {k : Nat} (hk : k < ps.length) : ps[k]? = some (ps.getD k default) := by
  rw [List.getD_eq_getElem?_getD, List.getElem?_eq_getElem hk]; rfl
end Go.Proofs.YthkbagikmbcphaaDoor.N
namespace Go.Proofs.YthkbagikmbcphaaDoor.N
open Go Go.RowKit Go.Proofs
/-- An agent tells two melts apart. -/
def tells (x : Ag) (t : Tm) : Bool := mayN x t.1 != mayN x t.2.1
def tellsI (ags : List Ag) (t : Tm) : Nat := ags.findIdx (tells · t)
end Go.Proofs.YthkbagikmbcphaaDoor.N
namespace Go.Proofs.YthkbagikmbcphaaDoor.N
open Go Go.RowKit Go.Proofs
/-- What a search finds. -/
def FoundO (ags : List Ag) (used n : Nat) (most : Int) (t0 : Tm) (goal : Tm → Bool) : Option Wk → Prop
  | some k => IsFirst (stepT ags used n) ags.length most t0 goal k.how ∧ run (stepT ags used n) t0 k.how = some k.team ∧ goal k.team = true
  | none => NoWord (stepT ags used n) most t0 goal
def wayO (o : Option Wk) : Wk := o.getD ⟨none, 0, [], (0, 0, 0)⟩
end Go.Proofs.YthkbagikmbcphaaDoor.N
namespace Go.Proofs.YthkbagikmbcphaaDoor.N
open Go Go.RowKit Go.Proofs
def tellsL (ags : List Ag) : Option Wk → List Nat
  | some k => k.how ++ [tellsI ags k.team]
  | none => []
end Go.Proofs.YthkbagikmbcphaaDoor.N
namespace Go.Proofs.YthkbagikmbcphaaDoor.N
open Go Go.RowKit Go.Proofs
/-- What a melt is behind a way; none if it is no way. -/
def followN (ags : List Ag) : Nat → List Nat → Option Nat
  | f, [] => some f
  | f, i :: l => if i < ags.length ∧ mayN (ags.getD i default) f = true then followN ags (putN (ags.getD i default) f) l else none
def followV (o : Option Nat) : Nat := o.getD 0
end Go.Proofs.YthkbagikmbcphaaDoor.N
namespace Go.Proofs.YthkbagikmbcphaaDoor.N
open Go Go.RowKit Go.Proofs
def Pr.ok (p : Pr) : Prop := p.cost ≤ 9000000000 ∧ p.puts ≤ 9000000000
end Go.Proofs.YthkbagikmbcphaaDoor.N
namespace Go.Proofs.YthkbagikmbcphaaDoor.N
open Go Go.RowKit Go.Proofs
section
variable {C : Ctx} {fr : List (Nat × Value)} {hp hp' : List Res} {a : Act} {w : World} {ops : Array Oper} {Q : Exit → Act → World → Prop} {rest : List Oper}
  {d : Nat} {ty : TypeId} {pos : String} {after : Array Edge}
/-- A slice's literal is a row. -/
theorem At.as_rowN (ha : At C fr hp a w) {b e size n : Nat} {l : List Value} (hl : l.length = n * size) (hn : n ≤ maxLen) (hu : Upd (.blk b (.cells l.toArray e (0, 0))) (.row e size (some ⟨b, 0, none⟩) n n l) hp hp') : At C fr hp' a w := by
  have hb := ha.own _ hu.mem
  refine ha.turn hu (⟨rfl, rfl, rfl, Nat.le_refl _, fun _ _ _ => rfl⟩ : w.grownBy w _) ⟨hl, .inr ⟨b, n, l.toArray, rfl, hb.1, hb.2, Nat.le_refl _, hn, by simp [hl], by simp [← hl]⟩⟩ (fun k hk => .inl ?_)
  exact hk
theorem lst_as_rowN {l : List Oper} {b e : Nat} (size n : Nat) {cs : List Value} (hl : cs.length = n * size) (hn : n ≤ maxLen) (hu : Upd (.blk b (.cells cs.toArray e (0, 0))) (.row e size (some ⟨b, 0, none⟩) n n cs) hp hp') (h : Lst C ops Q l fr hp') : Lst C ops Q l fr hp := fun a w ha => h a w (ha.as_rowN hl hn hu)
end
/-- A list of numbers, somewhere. -/
structure Sl where
  A : Option Addr
  c : Nat
  l : List Nat
def Sl.val (s : Sl) : Value := .slice s.A s.l.length s.c
def Sl.res (s : Sl) : Res := .row 3 1 s.A s.l.length s.c (ints s.l)
theorem Pck.snoc (Ms : List Sl) (s : Sl) (R : List Res) : Pck ((Ms ++ [s]).map Sl.res ++ R) (s.res :: (Ms.map Sl.res ++ R)) := by
  refine .perm ?_ (.refl _)
  rw [List.map_append, List.append_assoc]
  exact List.perm_middle.symm
/-- All lists of k numbers below n, in their order. -/
def strs (n : Nat) : Nat → List (List Nat)
  | 0 => [[]]
  | k + 1 => (strs n k).flatMap fun x => (List.range n).map fun y => x ++ [y]
end Go.Proofs.YthkbagikmbcphaaDoor.N
namespace Go.Proofs.YthkbagikmbcphaaDoor.N
open Go Go.RowKit Go.Proofs
theorem Pck.of_sub {t l : List Res} (h : t.Sublist l) : Pck t l := by
  induction h with
  | slnil => exact .nil _
  | cons x _ ih => exact .skip x ih
  | cons_cons x _ ih => exact .cons (.here _) ih
theorem Pck.pre (l R : List Res) : Pck (l ++ []) (l ++ R) := .of_sub (by rw [List.append_nil]; exact List.sublist_append_left l R)
theorem strs_mem {n : Nat} : ∀ {k : Nat} {x : List Nat}, x ∈ strs n k → x.length = k ∧ ∀ i ∈ x, i < n
  | 0, x, h => by
    simp [strs] at h
    subst h
    exact ⟨rfl, by simp⟩
  | k + 1, x, h => by
    unfold strs at h
    obtain ⟨y, hy, h2⟩ := List.mem_flatMap.1 h
    obtain ⟨z, hz, rfl⟩ := List.mem_map.1 h2
    obtain ⟨h3, h4⟩ := strs_mem hy
    refine ⟨by simp [h3], fun i hi => ?_⟩
    rcases List.mem_append.1 hi with h5 | h5
    · exact h4 i h5
    · simp at h5; subst h5; exact List.mem_range.1 hz
end Go.Proofs.YthkbagikmbcphaaDoor.N
namespace Go.Proofs.YthkbagikmbcphaaDoor.N
open Go Go.RowKit Go.Proofs
theorem Pck.swap (l R : List Res) : Pck (R ++ l) (l ++ R) := .perm List.perm_append_comm (.refl _)
theorem agd_ok {ags : List Ag} (hok : Oks ags) {i : Nat} (hi : i < ags.length) : (ags.getD i default).ok := by
  rw [List.getD_eq_getElem?_getD, List.getElem?_eq_getElem hi]
  exact hok.2 _ (List.getElem_mem hi)
/-- A list of agents that clears both melts. -/
def clears (ags : List Ag) (a b p : Nat) (v : List Nat) : Bool :=
  (followN ags a v).isSome && (followN ags b v).isSome && decide (nn (followV (followN ags a v)) p = 0) && decide (nn (followV (followN ags b v)) p = 0)
/-! Lists in their order. -/
theorem strs_all {n : Nat} : ∀ {k : Nat} {v : List Nat}, Wd n v → v.length = k → v ∈ strs n k
  | 0, v, _, h => by
    obtain rfl : v = [] := List.eq_nil_of_length_eq_zero h
    simp [strs]
  | k + 1, v, hv, h => by
    rcases snoc_cases v with rfl | ⟨u, i, rfl⟩
    · simp at h
    · obtain ⟨h1, h2⟩ := Wd.snoc.1 hv
      unfold strs
      exact List.mem_flatMap.2 ⟨u, strs_all h1 (by simpa using h), List.mem_map.2 ⟨i, List.mem_range.2 h2, rfl⟩⟩
theorem strs_sorted (n : Nat) : ∀ k, (strs n k).Pairwise (fun u v => code n u < code n v)
  | 0 => by simp [strs]
  | k + 1 => by
    unfold strs
    rw [List.pairwise_flatMap]
    refine ⟨fun x _ => ?_, ?_⟩
    · rw [List.pairwise_map]
      refine List.Pairwise.imp ?_ List.pairwise_lt_range
      intro i j hij
      rw [code_snoc, code_snoc]
      omega
    · refine List.Pairwise.imp ?_ (strs_sorted n k)
      intro u v huv x hx y hy
      obtain ⟨i, hi, rfl⟩ := List.mem_map.1 hx
      obtain ⟨j, _, rfl⟩ := List.mem_map.1 hy
      rw [code_snoc, code_snoc]
      exact code_snoc_lt huv (List.mem_range.1 hi)
theorem strs_le_code {n k i j : Nat} {u v : List Nat} (hu : (strs n k)[i]? = some u) (hv : (strs n k)[j]? = some v) (hij : i ≤ j) : code n u ≤ code n v := by
  rcases Nat.lt_or_ge i j with h | h
  · obtain ⟨h1, e1⟩ := List.getElem?_eq_some_iff.1 hu
    obtain ⟨h2, e2⟩ := List.getElem?_eq_some_iff.1 hv
    have := List.pairwise_iff_getElem.1 (strs_sorted n k) i j h1 h2 h
    rw [e1, e2] at this
    omega
  · obtain rfl : i = j := by omega
    rw [hu] at hv
    cases hv
    exact Nat.le_refl _
end Go.Proofs.YthkbagikmbcphaaDoor.N
namespace Go.Proofs.YthkbagikmbcphaaDoor.N
open Go Go.RowKit Go.Proofs
variable {ags : List Ag} {a b : Nat}
/-- A list whose last agent may be put to just one of both melts. -/
def tq (ags : List Ag) (a b : Nat) (v : List Nat) : Bool :=
  (followN ags a v.dropLast).isSome && (followN ags b v.dropLast).isSome && ((followN ags a v).isSome != (followN ags b v).isSome)
theorem tq_sym (v : List Nat) : tq ags a b v = tq ags b a v := by
  unfold tq
  cases (followN ags a v.dropLast).isSome <;> cases (followN ags b v.dropLast).isSome <;> cases (followN ags a v).isSome <;> cases (followN ags b v).isSome <;> rfl
def TellsS (ags : List Ag) (a b : Nat) : Option Wk → Prop
  | none => ∀ v, v.length ≤ 5 → tq ags a b v = false
  | some k => tq ags a b (k.how ++ [tellsI ags k.team]) = true ∧ Wd ags.length (k.how ++ [tellsI ags k.team]) ∧ (k.how ++ [tellsI ags k.team]).length ≤ 5 ∧ ∀ v, tq ags a b v = true → v.length ≤ 5 → code ags.length (k.how ++ [tellsI ags k.team]) ≤ code ags.length v
theorem TellsS.sym {o : Option Wk} (h : TellsS ags a b o) : TellsS ags b a o := by
  cases o with
  | none => exact fun v hv => by rw [tq_sym]; exact h v hv
  | some k => exact ⟨by rw [tq_sym]; exact h.1, h.2.1, h.2.2.1, fun v hv => h.2.2.2 v (by rw [tq_sym]; exact hv)⟩
theorem TellsS.at {o : Option Wk} (h : TellsS ags a b o) {k i : Nat} {v : List Nat} (hk : k ≤ 5) (hv : (strs ags.length k)[i]? = some v) (hc : tq ags a b v = true) (h0 : ∀ u, Wd ags.length u → u.length < k → tq ags a b u = false)
    (h1 : ∀ j u, j < i → (strs ags.length k)[j]? = some u → tq ags a b u = false) : o.isSome = true ∧ tellsL ags o = v := by
  have hvl := (strs_mem (List.mem_of_getElem? hv)).1
  have hvw : Wd ags.length v := (strs_mem (List.mem_of_getElem? hv)).2
  cases o with
  | none => have := h v (by omega); rw [hc] at this; cases this
  | some w =>
    refine ⟨rfl, ?_⟩
    obtain ⟨g1, g2, g3, g4⟩ := h
    have hle := g4 v hc (by omega)
    show w.how ++ [tellsI ags w.team] = v
    rcases Nat.lt_trichotomy (w.how ++ [tellsI ags w.team]).length k with hl | hl | hl
    · rw [h0 _ g2 hl] at g1; cases g1
    · obtain ⟨j, hj⟩ := List.getElem?_of_mem (strs_all g2 hl)
      rcases Nat.lt_or_ge j i with h2 | h2
      · rw [h1 j _ h2 hj] at g1; cases g1
      · exact code_inj ags.length _ _ _ rfl g2 hvw (Nat.le_antisymm hle (strs_le_code hv hj h2))
    · have := code_lt_of_len ags.length _ (w.how ++ [tellsI ags w.team]) v rfl (by omega) hvw
      omega
end Go.Proofs.YthkbagikmbcphaaDoor.N
namespace Go.Proofs.YthkbagikmbcphaaDoor.N
open Go Go.RowKit Go.Proofs
variable {C : Ctx} {fr : List (Nat × Value)} {hp : List Res} {ops : Array Oper} {Q : Exit → Act → World → Prop} {rest : List Oper} {d : Nat} {ty : TypeId} {pos : String} {after : Array Edge}
theorem RdL.take {α : Type} {cells : α → List Value} {size : Nat} {w : World} {A : Option Addr} {l : List α} (h : RdL cells size w A l) (n : Nat) : RdL cells size w A (l.take n) := fun hl => by
  rw [List.length_take] at hl
  obtain ⟨b, o, h1, h2, h3⟩ := h (by omega)
  refine ⟨b, o, h1, h2, fun k x hk j u hu => h3 k x ?_ j u hu⟩
  rw [List.getElem?_take] at hk
  split at hk
  · exact hk
  · cases hk
theorem RdL.drop {α : Type} {cells : α → List Value} {size : Nat} {w : World} {A : Option Addr} {l : List α} (h : RdL cells size w A l) {n cap : Nat} (hc : l.length ≤ cap) : RdL cells size w (if cap = n then A else A.map (·.add (n * size))) (l.drop n) := fun hl => by
  rw [List.length_drop] at hl
  obtain ⟨b, o, h1, h2, h3⟩ := h (by omega)
  rw [if_neg (by omega), h1]
  refine ⟨b, o + n * size, by rw [Option.map_some, addr_add], h2, fun k x hk j u hu => ?_⟩
  rw [List.getElem?_drop] at hk
  have := h3 (n + k) x hk j u hu
  rw [← this]
  congr 2
  rw [Nat.add_mul]
  omega
end Go.Proofs.YthkbagikmbcphaaDoor.N
namespace Go.Proofs.YthkbagikmbcphaaDoor.N
open Go Go.RowKit Go.Proofs
/-- What is known was set for some agent's sake, and it is no cheaper now by that agent. -/
def Held (ags : List Ag) (used : Nat) (ps : List Pr) : Prop := ps.length = 64 ∧ ∀ f, f < 64 → (ps.getD f default).known = true → 0 < (ps.getD f default).puts →
  ∃ i ∈ canTo ags used f ags.length, (afterP ps (ags.getD i default) f).known = true ∧ lessP (ps.getD f default) (afterP ps (ags.getD i default) f) = false
theorem getD_set {ps : List Pr} {k j : Nat} {p : Pr} (hk : k < ps.length) : (ps.set k p).getD j default = if k = j then p else ps.getD j default := by
  rw [List.getD_eq_getElem?_getD, List.getD_eq_getElem?_getD, List.getElem?_set]
  by_cases e : k = j
  · subst e; simp [hk]
  · simp [e]
theorem lessP_iff {a b : Pr} (h : lessP a b = true) : a.known = true ∧ (b.known = false ∨ a.cost < b.cost ∨ (a.cost = b.cost ∧ a.puts < b.puts)) := by
  unfold lessP at h
  simp at h
  refine ⟨h.1, ?_⟩
  rcases h.2 with (h1 | h1) | h1
  · exact .inl h1
  · exact .inr (.inl h1)
  · exact .inr (.inr h1)
theorem lessP_not {a b : Pr} (ha : a.known = true) (hb : b.known = true) (h : lessP a b = false) : b.cost < a.cost ∨ (a.cost = b.cost ∧ b.puts ≤ a.puts) := by
  unfold lessP at h
  rw [ha, hb] at h
  simp at h
  omega
theorem lessP_of {a b : Pr} (ha : a.known = true) (hb : b.known = true) (h : b.cost < a.cost ∨ (a.cost = b.cost ∧ b.puts ≤ a.puts)) : lessP a b = false := by
  unfold lessP
  rw [ha, hb]
  simp
  omega
theorem Held.relax {ags : List Ag} {used f i : Nat} {s : List Pr × Bool} (h : Held ags used s.1) (hf : f < 64) (hi : i ∈ canTo ags used f ags.length) (hc : ∀ j ∈ canTo ags used f ags.length, 1 ≤ (ags.getD j default).cost) : Held ags used (Go.Proofs.YthkbagikmbcphaaDoor.N.relax ags f s i).1 := by
  unfold Go.Proofs.YthkbagikmbcphaaDoor.N.relax
  split
  · rename_i hl
    obtain ⟨hl1, hl2⟩ := lessP_iff hl
    have hfl : f < s.1.length := by rw [h.1]; exact hf
    have hne : putN (ags.getD i default) f ≠ f := by
      intro e
      unfold afterP at hl1 hl2
      dsimp only at hl1 hl2
      rw [e] at hl1 hl2
      have := hc i hi
      rcases hl2 with h2 | h2 | h2
      · rw [hl1] at h2; cases h2
      · omega
      · omega
    refine ⟨by dsimp only; rw [List.length_set]; exact h.1, fun g hg hk hp => ?_⟩
    dsimp only at hk hp ⊢
    rw [getD_set hfl] at hk hp ⊢
    by_cases e : f = g
    · subst e
      refine ⟨i, hi, ?_⟩
      have ha : afterP (s.1.set f (afterP s.1 (ags.getD i default) f)) (ags.getD i default) f = afterP s.1 (ags.getD i default) f := by
        conv => lhs; unfold afterP
        rw [getD_set hfl, if_neg (fun e => hne e.symm)]
        rfl
      rw [ha, if_pos rfl]
      exact ⟨hl1, lessP_of hl1 hl1 (.inr ⟨rfl, Nat.le_refl _⟩)⟩
    · rw [if_neg e] at hk hp ⊢
      obtain ⟨i', hi', hk', hl'⟩ := h.2 g hg hk hp
      refine ⟨i', hi', ?_⟩
      have h3 := lessP_not hk hk' hl'
      by_cases e2 : f = putN (ags.getD i' default) g
      · have hkn : (s.1.getD f default).known = true := by
          have := hk'
          unfold afterP at this
          dsimp only at this
          rw [← e2] at this
          exact this
        have ha : afterP (s.1.set f (afterP s.1 (ags.getD i default) f)) (ags.getD i' default) g = ⟨(afterP s.1 (ags.getD i default) f).cost + (ags.getD i' default).cost, (afterP s.1 (ags.getD i default) f).puts + 1, (afterP s.1 (ags.getD i default) f).known⟩ := by
          unfold afterP
          rw [getD_set hfl, if_pos e2]
        rw [ha]
        refine ⟨hl1, lessP_of hk hl1 ?_⟩
        dsimp only
        have h4 : afterP s.1 (ags.getD i' default) g = ⟨(s.1.getD f default).cost + (ags.getD i' default).cost, (s.1.getD f default).puts + 1, (s.1.getD f default).known⟩ := by
          unfold afterP
          rw [← e2]
        rw [h4] at h3
        dsimp only at h3
        rcases hl2 with h5 | h5 | h5
        · rw [hkn] at h5; cases h5
        · omega
        · omega
      · have ha : afterP (s.1.set f (afterP s.1 (ags.getD i default) f)) (ags.getD i' default) g = afterP s.1 (ags.getD i' default) g := by
          conv => lhs; unfold afterP
          rw [getD_set hfl, if_neg e2]
          rfl
        rw [ha]
        exact ⟨hk', hl'⟩
  · exact h
theorem Held.relaxF {ags : List Ag} {used f : Nat} (hf : f < 64) (hc : ∀ x ∈ ags, 1 ≤ x.cost) : ∀ (l : List Nat) (s : List Pr × Bool), (∀ i ∈ l, i ∈ canTo ags used f ags.length) → Held ags used s.1 → Held ags used (Go.Proofs.YthkbagikmbcphaaDoor.N.relaxF ags f s l).1 := by
  intro l
  induction l with
  | nil => intro s _ h; exact h
  | cons i l ih =>
    intro s hl h
    unfold Go.Proofs.YthkbagikmbcphaaDoor.N.relaxF
    rw [List.foldl_cons]
    refine ih _ (fun j hj => hl j (by simp [hj])) (h.relax hf (hl i (by simp)) (fun j hj => ?_))
    obtain ⟨h1, _⟩ := canTo_mem hj
    rw [List.getD_eq_getElem?_getD, List.getElem?_eq_getElem h1]
    exact hc _ (List.getElem_mem h1)
theorem Held.round {ags : List Ag} {used : Nat} {ps : List Pr} (hc : ∀ x ∈ ags, 1 ≤ x.cost) (h : Held ags used ps) : ∀ k, k ≤ 64 → Held ags used (roundP ags used ps k).1
  | 0, _ => h
  | k + 1, hk => Held.relaxF (by omega) hc _ _ (fun _ h => h) (Held.round hc h k (by omega))
theorem Held.init (ags : List Ag) (used p : Nat) : Held ags used (initP p 64) := by
  refine ⟨by simp [initP], fun f hf _ hp => ?_⟩
  exfalso
  rw [List.getD_eq_getElem?_getD] at hp
  simp [initP, hf] at hp
theorem Held.iter {ags : List Ag} {used p : Nat} (hc : ∀ x ∈ ags, 1 ≤ x.cost) : ∀ j, Held ags used (iterP ags used p j)
  | 0 => Held.init ags used p
  | j + 1 => Held.round hc (Held.iter hc j) 64 (Nat.le_refl _)
end Go.Proofs.YthkbagikmbcphaaDoor.N
namespace Go.Proofs.YthkbagikmbcphaaDoor.N
open Go Go.RowKit Go.Proofs
/-! The cheapest ways: prices that rounds come to are the least ones. -/
def lexle (c k c' k' : Nat) : Prop := c < c' ∨ (c = c' ∧ k ≤ k')
theorem lexle.trans {a b c d e f : Nat} (h : lexle a b c d) (h' : lexle c d e f) : lexle a b e f := by
  unfold lexle at *
  omega
theorem lexle.refl (a b : Nat) : lexle a b a b := Or.inr ⟨rfl, Nat.le_refl _⟩
theorem lexle.add {c k c' k' : Nat} (h : lexle c k c' k') (x : Nat) : lexle (c + x) (k + 1) (c' + x) (k' + 1) := by
  unfold lexle at *
  omega
theorem lexle.sub {c k c' k' x : Nat} (h : lexle (c + x) (k + 1) (c' + x) (k' + 1)) : lexle c k c' k' := by
  unfold lexle at *
  omega
theorem lexle.anti {c k c' k' : Nat} (h : lexle c k c' k') (h' : lexle c' k' c k) : c = c' ∧ k = k' := by
  unfold lexle at *
  omega
/-- What some way that clears a melt costs, and how many agents it has. -/
inductive Wy (ags : List Ag) (used p : Nat) : Nat → Nat → Nat → Prop
  | done {f : Nat} : nn f p = 0 → Wy ags used p f 0 0
  | step {f i c k : Nat} : i ∈ canTo ags used f ags.length → Wy ags used p (putN (ags.getD i default) f) c k → Wy ags used p f (c + (ags.getD i default).cost) (k + 1)
def Has (ps : List Pr) (f c k : Nat) : Prop := (ps.getD f default).known = true ∧ lexle (ps.getD f default).cost (ps.getD f default).puts c k
def Snd (ags : List Ag) (used p : Nat) (ps : List Pr) : Prop := ∀ f, f < 64 → (ps.getD f default).known = true → Wy ags used p f (ps.getD f default).cost (ps.getD f default).puts
def Le (ps qs : List Pr) : Prop := ∀ f, (ps.getD f default).known = true → Has qs f (ps.getD f default).cost (ps.getD f default).puts
theorem Le.refl (ps : List Pr) : Le ps ps := fun _ h => ⟨h, lexle.refl _ _⟩
theorem Has.le {ps qs : List Pr} {f c k : Nat} (h : Has ps f c k) (hl : Le ps qs) : Has qs f c k := by
  obtain ⟨h1, h2⟩ := h
  obtain ⟨h3, h4⟩ := hl f h1
  exact ⟨h3, h4.trans h2⟩
theorem Le.trans {ps qs rs : List Pr} (h : Le ps qs) (h' : Le qs rs) : Le ps rs := fun f hf => (h f hf).le h'
theorem lessP_true {a b : Pr} (h : lessP a b = true) : a.known = true ∧ (b.known = true → lexle a.cost a.puts b.cost b.puts ∧ ¬ lexle b.cost b.puts a.cost a.puts) := by
  unfold lessP at h
  simp at h
  refine ⟨h.1, fun hb => ?_⟩
  have h2 := h.2
  rw [hb] at h2
  simp at h2
  unfold lexle
  omega
theorem getP_set {ps : List Pr} {f g : Nat} {x : Pr} (hf : f < ps.length) : (ps.set f x).getD g default = if f = g then x else ps.getD g default := by
  rw [List.getD_eq_getElem?_getD, List.getElem?_set, List.getD_eq_getElem?_getD]
  by_cases e : f = g
  · subst e
    rw [if_pos rfl, if_pos rfl, if_pos hf]; rfl
  · rw [if_neg e, if_neg e]
variable {ags : List Ag} {used p : Nat}
theorem relax_len {f i : Nat} {s : List Pr × Bool} : (relax ags f s i).1.length = s.1.length := by
  unfold relax
  split
  · simp
  · rfl
theorem relaxF_len {f : Nat} : ∀ (l : List Nat) (s : List Pr × Bool), (relaxF ags f s l).1.length = s.1.length
  | [], _ => rfl
  | i :: l, s => by
    have := relaxF_len (f := f) l (relax ags f s i)
    unfold relaxF at this ⊢
    rw [List.foldl_cons, this, relax_len]
theorem roundP_len {ps : List Pr} : ∀ k, (roundP ags used ps k).1.length = ps.length
  | 0 => rfl
  | k + 1 => by
    unfold roundP
    rw [relaxF_len, roundP_len k]
theorem initP_len (p k : Nat) : (initP p k).length = 64 := by simp [initP]
theorem iterP_len : ∀ j, (iterP ags used p j).length = 64
  | 0 => initP_len p 64
  | j + 1 => by
    unfold iterP
    rw [roundP_len, iterP_len j]
/-! No price rises. -/
/-! Each price is that of a way. -/
theorem Snd.relax {f i : Nat} {s : List Pr × Bool} (hok : Oks ags) (h : Snd ags used p s.1) (hl : s.1.length = 64) (hf : f < 64) (hi : i ∈ canTo ags used f ags.length) : Snd ags used p (relax ags f s i).1 := by
  unfold Go.Proofs.YthkbagikmbcphaaDoor.N.relax
  split
  · rename_i hlt
    obtain ⟨h1, _⟩ := lessP_true hlt
    intro g hg hk
    rw [getP_set (by omega)] at hk ⊢
    by_cases e : f = g
    · subst e
      rw [if_pos rfl] at hk ⊢
      have ha : (ags.getD i default).ok := by
        have := (canTo_mem hi).1
        rw [List.getD_eq_getElem?_getD, List.getElem?_eq_getElem this]
        exact hok.2 _ (List.getElem_mem this)
      exact Wy.step hi (h _ (putN_lt ha hf) h1)
    · rw [if_neg e] at hk ⊢
      exact h g hg hk
  · exact h
theorem Snd.relaxF {f : Nat} (hok : Oks ags) (hf : f < 64) : ∀ (l : List Nat) (s : List Pr × Bool), (∀ i ∈ l, i ∈ canTo ags used f ags.length) → s.1.length = 64 → Snd ags used p s.1 → Snd ags used p (relaxF ags f s l).1
  | [], s, _, _, h => h
  | i :: l, s, hm, hl, h => by
    have h1 := Snd.relaxF hok hf l (Go.Proofs.YthkbagikmbcphaaDoor.N.relax ags f s i) (fun j hj => hm j (List.mem_cons_of_mem _ hj)) (by rw [relax_len, hl]) (h.relax hok hl hf (hm i List.mem_cons_self))
    unfold Go.Proofs.YthkbagikmbcphaaDoor.N.relaxF at h1 ⊢
    rw [List.foldl_cons]
    exact h1
theorem Snd.round {ps : List Pr} (hok : Oks ags) (hl : ps.length = 64) (h : Snd ags used p ps) : ∀ k, k ≤ 64 → Snd ags used p (roundP ags used ps k).1
  | 0, _ => h
  | k + 1, hk => by
    unfold roundP
    exact Snd.relaxF hok (by omega) _ _ (fun _ hi => hi) (by rw [roundP_len, hl]) (Snd.round hok hl h k (by omega))
theorem initP_getD {f : Nat} (hf : f < 64) : (initP p 64).getD f default = ⟨0, 0, decide (nn f p = 0)⟩ := by
  unfold initP
  simp [List.getD_eq_getElem?_getD, hf]
theorem Snd.iter (hok : Oks ags) : ∀ j, Snd ags used p (iterP ags used p j)
  | 0 => by
    intro f hf hk
    unfold iterP at hk ⊢
    rw [initP_getD hf] at hk ⊢
    exact Wy.done (by simpa using hk)
  | j + 1 => by
    unfold iterP
    exact (Snd.iter hok j).round hok (iterP_len j) 64 (Nat.le_refl _)
/-! What a round comes to. -/
/-! The least price, and that its way is short. -/
theorem least {q : Nat → Prop} : ∀ n, q n → ∃ m, q m ∧ ∀ k, q k → m ≤ k := by
  intro n
  induction n using Nat.strongRecOn with
  | ind n ih =>
    intro hn
    by_cases h : ∃ m, m < n ∧ q m
    · obtain ⟨m, h1, h2⟩ := h
      exact ih m h1 h2
    · exact ⟨n, hn, fun k hk => Nat.le_of_not_lt fun hlt => h ⟨k, hlt, hk⟩⟩
def Opt (ags : List Ag) (used p f c k : Nat) : Prop := Wy ags used p f c k ∧ ∀ c' k', Wy ags used p f c' k' → lexle c k c' k'
theorem Opt.ex {f c k : Nat} (h : Wy ags used p f c k) : ∃ c' k', Opt ags used p f c' k' := by
  obtain ⟨c0, ⟨k0, h0⟩, h1⟩ := least (q := fun c => ∃ k, Wy ags used p f c k) c ⟨k, h⟩
  obtain ⟨k1, h2, h3⟩ := least (q := fun k => Wy ags used p f c0 k) k0 h0
  refine ⟨c0, k1, h2, fun c' k' h' => ?_⟩
  have := h1 c' ⟨k', h'⟩
  rcases Nat.lt_or_eq_of_le this with h4 | h4
  · exact Or.inl h4
  · subst h4
    exact Or.inr ⟨rfl, h3 k' h'⟩
theorem Opt.next (hok : Oks ags) {f c k : Nat} (hf : f < 64) (h : Opt ags used p f c (k + 1)) : ∃ i c', i ∈ canTo ags used f ags.length ∧ c = c' + (ags.getD i default).cost ∧ putN (ags.getD i default) f < 64 ∧ Opt ags used p (putN (ags.getD i default) f) c' k := by
  obtain ⟨h1, h2⟩ := h
  cases h1 with
  | @step _ i c' _ hi hw =>
    have ha : (ags.getD i default).ok := by
      have := (canTo_mem hi).1
      rw [List.getD_eq_getElem?_getD, List.getElem?_eq_getElem this]
      exact hok.2 _ (List.getElem_mem this)
    exact ⟨i, c', hi, rfl, putN_lt ha hf, hw, fun c'' k'' h'' => (h2 _ _ (Wy.step hi h'')).sub⟩
theorem Opt.uniq {f c k c' k' : Nat} (h : Opt ags used p f c k) (h' : Opt ags used p f c' k') : c = c' ∧ k = k' := lexle.anti (h.2 _ _ h'.1) (h'.2 _ _ h.1)
theorem countP_lt {α : Type} {a b : α → Bool} {l : List α} (hab : ∀ x, a x = true → b x = true) : (∃ x ∈ l, b x = true ∧ a x = false) → l.countP a < l.countP b := by
  induction l with
  | nil => rintro ⟨x, h, _⟩; cases h
  | cons y l ih =>
    rintro ⟨x, hx, h1, h2⟩
    have hle : l.countP a ≤ l.countP b := List.countP_mono_left (fun z _ => hab z)
    rw [List.countP_cons, List.countP_cons]
    rcases List.mem_cons.1 hx with e | e
    · subst e
      rw [h1, h2]
      simp
      omega
    · have := ih ⟨x, e, h1, h2⟩
      by_cases ha : a y = true
      · rw [ha, hab y ha]; simp; exact this
      · have : (if a y = true then 1 else 0) = 0 := if_neg ha
        rw [this]
        omega
open Classical in
theorem Opt.level (hok : Oks ags) : ∀ (k f c : Nat), f < 64 → Opt ags used p f c k → k + 1 ≤ (List.range 64).countP (fun g => decide (∃ c k', k' ≤ k ∧ Opt ags used p g c k'))
  | 0, f, c, hf, h => by
    have : 0 < (List.range 64).countP (fun g => decide (∃ c k', k' ≤ 0 ∧ Opt ags used p g c k')) :=
      List.countP_pos_iff.2 ⟨f, List.mem_range.2 hf, by simp only [decide_eq_true_eq]; exact ⟨c, 0, Nat.le_refl _, h⟩⟩
    omega
  | k + 1, f, c, hf, h => by
    obtain ⟨i, c', _, _, hg, ho⟩ := h.next hok hf
    have h1 := Opt.level hok k _ _ hg ho
    have h2 : (List.range 64).countP (fun g => decide (∃ c k', k' ≤ k ∧ Opt ags used p g c k')) < (List.range 64).countP (fun g => decide (∃ c k', k' ≤ k + 1 ∧ Opt ags used p g c k')) := by
      refine countP_lt (fun x hx => ?_) ⟨f, List.mem_range.2 hf, ?_, ?_⟩
      · simp only [decide_eq_true_eq] at hx ⊢
        obtain ⟨c, k', h1, h2⟩ := hx
        exact ⟨c, k', by omega, h2⟩
      · simp only [decide_eq_true_eq]
        exact ⟨c, k + 1, Nat.le_refl _, h⟩
      · simp only [decide_eq_false_iff_not]
        rintro ⟨c2, k2, h3, h4⟩
        have := (h4.uniq h).2
        omega
    omega
theorem Opt.short (hok : Oks ags) {k f c : Nat} (hf : f < 64) (h : Opt ags used p f c k) : k ≤ 63 := by
  have h1 := Opt.level hok k f c hf h
  have h2 := List.countP_le_length (l := List.range 64) (p := fun g => @decide (∃ c k', k' ≤ k ∧ Opt ags used p g c k') (Classical.propDecidable _))
  rw [List.length_range] at h2
  omega
/-! A round without change. -/
end Go.Proofs.YthkbagikmbcphaaDoor.N
namespace Go.Proofs.YthkbagikmbcphaaDoor.N
open Go Go.RowKit Go.Proofs
variable {ags : List Ag} {p : Nat}
theorem can_all {f i : Nat} : i ∈ canTo ags (usedAll ags.length) f ags.length ↔ i < ags.length ∧ mayN (ags.getD i default) f = true := by
  constructor
  · intro h
    obtain ⟨h1, _, h3⟩ := canTo_mem h
    exact ⟨h1, h3⟩
  · rintro ⟨h1, h2⟩
    unfold canTo
    refine List.mem_filter.2 ⟨List.mem_range.2 h1, ?_⟩
    rw [usedAll_bit, h2]
    simpa using h1
def costN (ags : List Ag) (l : List Nat) : Nat := (l.map fun i => (ags.getD i default).cost).sum
/-- What Cheapest says. -/
structure ChS (ags : List Ag) (p f : Nat) (W : List Nat) (c E : Nat) : Prop where
  yes : E = 0 → Opt ags (usedAll ags.length) p f c W.length ∧ (∃ e, followN ags f W = some e ∧ nn e p = 0) ∧ costN ags W = c ∧ Wd ags.length W ∧ W.length ≤ 63
  no : E ≠ 0 → E = 11 ∧ c = 0 ∧ W = [] ∧ ∀ c k, ¬ Wy ags (usedAll ags.length) p f c k
theorem ChS.clear {f c E : Nat} {W : List Nat} (h : ChS ags p f W c E) (h0 : nn f p = 0) : E = 0 ∧ c = 0 ∧ W = [] := by
  have hw : Wy ags (usedAll ags.length) p f 0 0 := Wy.done h0
  by_cases hE : E = 0
  · have := (h.yes hE).1.2 _ _ hw
    unfold lexle at this
    refine ⟨hE, by omega, List.length_eq_zero_iff.1 (by omega)⟩
  · exact absurd hw ((h.no hE).2.2.2 0 0)
/-- Whatever is put first, it costs no less. -/
theorem ChS.step {f c E i c' E' : Nat} {W W' : List Nat} (h : ChS ags p f W c E) (hi : i < ags.length) (hm : mayN (ags.getD i default) f = true) (h' : ChS ags p (putN (ags.getD i default) f) W' c' E') (h0 : E' = 0) : E = 0 ∧ c ≤ c' + (ags.getD i default).cost := by
  have hw := Wy.step (can_all.2 ⟨hi, hm⟩) (h'.yes h0).1.1
  by_cases hE : E = 0
  · have := (h.yes hE).1.2 _ _ hw
    unfold lexle at this
    exact ⟨hE, by omega⟩
  · exact absurd hw ((h.no hE).2.2.2 _ _)
/-- With some agent put first, it costs just as much. -/
theorem ChS.some {f c : Nat} {W : List Nat} (hok : Oks ags) (h : ChS ags p f W c 0) (hf : f < 64) (h0 : nn f p ≠ 0) : ∃ i n m, i < ags.length ∧ mayN (ags.getD i default) f = true ∧ Opt ags (usedAll ags.length) p (putN (ags.getD i default) f) n m ∧ n + (ags.getD i default).cost = c := by
  have ho := (h.yes rfl).1
  cases hl : W.length with
  | zero =>
    rw [hl] at ho
    have hw := ho.1
    cases hw with
    | done h1 => exact absurd h1 h0
  | succ k =>
    rw [hl] at ho
    obtain ⟨i, c', hi, hc, _, hog⟩ := ho.next hok hf
    obtain ⟨h1, h2⟩ := can_all.1 hi
    exact ⟨i, c', k, h1, h2, hog, hc.symm⟩
end Go.Proofs.YthkbagikmbcphaaDoor.N
namespace Go.Proofs.YthkbagikmbcphaaDoor.N
open Go Go.RowKit Go.Proofs
/-- Whether one of the first agents, put first, makes it cost just as much. -/
def Eqv (ags : List Ag) (p m c i : Nat) (b : Bool) : Prop := b = true ↔ ∃ j, j < i ∧ mayN (ags.getD j default) m = true ∧ ∃ n k, Opt ags (usedAll ags.length) p (putN (ags.getD j default) m) n k ∧ n + (ags.getD j default).cost = c
theorem Eqv.zero {ags : List Ag} {p m c : Nat} : Eqv ags p m c 0 false := ⟨fun h => (by cases h), fun ⟨j, h, _⟩ => absurd h (by omega)⟩
theorem Eqv.skip {ags : List Ag} {p m c i : Nat} {b : Bool} (h : Eqv ags p m c i b) (hn : mayN (ags.getD i default) m = true → ∀ n k, ¬ Opt ags (usedAll ags.length) p (putN (ags.getD i default) m) n k) : Eqv ags p m c (i + 1) b := by
  refine ⟨fun hb => ?_, fun ⟨j, h1, h2, n, k, h3, h4⟩ => ?_⟩
  · obtain ⟨j, h1, h2⟩ := h.1 hb
    exact ⟨j, by omega, h2⟩
  · rcases Nat.lt_or_ge j i with h5 | h5
    · exact h.2 ⟨j, h5, h2, n, k, h3, h4⟩
    · obtain rfl : j = i := by omega
      exact absurd h3 (hn h2 n k)
end Go.Proofs.YthkbagikmbcphaaDoor.N
namespace Go.Proofs.YthkbagikmbcphaaDoor.N
open Go Go.RowKit Go.Proofs
/-! Whether a melt can be cleared, by agents of which some are used. -/
def Us (ags : List Ag) (used : Nat) (x : Ag) : Prop := ∃ i, i < ags.length ∧ used.testBit i = true ∧ ags.getD i default = x
def Clr (ags : List Ag) (used p f : Nat) : Prop := ∃ c k, Wy ags used p f c k
theorem can_mem {ags : List Ag} {used f i : Nat} : i ∈ canTo ags used f ags.length ↔ i < ags.length ∧ used.testBit i = true ∧ mayN (ags.getD i default) f = true := by
  constructor
  · exact canTo_mem
  · rintro ⟨h1, h2, h3⟩
    unfold canTo
    refine List.mem_filter.2 ⟨List.mem_range.2 h1, ?_⟩
    rw [h2, h3]; rfl
theorem Wy.mono {ags ags' : List Ag} {used used' p p' : Nat} (hu : ∀ x, Us ags used x → Us ags' used' x) (hp : ∀ f, nn f p = 0 → nn f p' = 0) : ∀ {f c k : Nat}, Wy ags used p f c k → Wy ags' used' p' f c k := by
  intro f c k h
  induction h with
  | done h => exact .done (hp _ h)
  | @step f i c k hi _ ih =>
    obtain ⟨h1, h2, h3⟩ := can_mem.1 hi
    obtain ⟨j, g1, g2, g3⟩ := hu _ ⟨i, h1, h2, rfl⟩
    rw [← g3] at ih h3 ⊢
    exact .step (can_mem.2 ⟨g1, g2, h3⟩) ih
theorem Clr.mono {ags ags' : List Ag} {used used' p p' : Nat} (hu : ∀ x, Us ags used x → Us ags' used' x) (hp : ∀ f, nn f p = 0 → nn f p' = 0) {f : Nat} (h : Clr ags used p f) : Clr ags' used' p' f := by
  obtain ⟨c, k, h⟩ := h
  exact ⟨c, k, h.mono hu hp⟩
theorem us_all {ags : List Ag} {x : Ag} : Us ags (usedAll ags.length) x ↔ x ∈ ags := by
  constructor
  · rintro ⟨i, h1, _, rfl⟩
    rw [List.getD_eq_getElem?_getD, List.getElem?_eq_getElem h1]
    exact List.getElem_mem h1
  · intro h
    obtain ⟨i, hi, rfl⟩ := List.getElem_of_mem h
    exact ⟨i, hi, by rw [usedAll_bit]; simpa using hi, by rw [List.getD_eq_getElem?_getD, List.getElem?_eq_getElem hi]; rfl⟩
/-- One melt's steps are those of a team of one. -/
theorem step_one {ags : List Ag} {used f i a b : Nat} : stepT ags used 1 (f, a, b) i = if i ∈ canTo ags used f ags.length then some (putN (ags.getD i default) f, a, b) else none := by
  unfold stepT
  have hm : mayT (ags.getD i default) (f, a, b) 1 = mayN (ags.getD i default) f := by simp [mayT, List.range_succ, tget]
  rw [hm]
  by_cases h : i < ags.length ∧ used.testBit i = true ∧ mayN (ags.getD i default) f = true
  · rw [if_pos h, if_pos (can_mem.2 h)]
    rfl
  · rw [if_neg h, if_neg (fun x => h (can_mem.1 x))]
theorem run_wy {ags : List Ag} {used p : Nat} : ∀ (v : List Nat) (f a b : Nat) (t : Tm), run (stepT ags used 1) (f, a, b) v = some t → nn t.1 p = 0 → ∃ c, Wy ags used p f c v.length
  | [], f, a, b, t, h, hc => by
    cases h
    exact ⟨0, .done hc⟩
  | i :: v, f, a, b, t, h, hc => by
    have h' : (stepT ags used 1 (f, a, b) i).bind (fun s => run (stepT ags used 1) s v) = some t := h
    rw [step_one] at h'
    split at h'
    · rename_i hi
      obtain ⟨c, hw⟩ := run_wy v _ a b t h' hc
      exact ⟨_, .step hi hw⟩
    · cases h'
theorem wy_run {ags : List Ag} {used p : Nat} {f c k : Nat} (h : Wy ags used p f c k) (a b : Nat) : ∃ v t, run (stepT ags used 1) (f, a, b) v = some t ∧ nn t.1 p = 0 ∧ v.length = k := by
  induction h with
  | @done f h => exact ⟨[], (f, a, b), rfl, h, rfl⟩
  | @step f i c k hi _ ih =>
    obtain ⟨v, t, h1, h2, h3⟩ := ih
    refine ⟨i :: v, t, ?_, h2, by rw [List.length_cons, h3]⟩
    show (stepT ags used 1 (f, a, b) i).bind (fun s => run (stepT ags used 1) s v) = some t
    rw [step_one, if_pos hi]
    exact h1
/-- What Shortest finds: fewest agents, if any. -/
theorem short_spec {ags : List Ag} {used p f : Nat} {o : Option Wk} (ho : FoundO ags used 1 (-1) (f, 0, 0) (fun t => decide (nn t.1 p = 0)) o) :
    (o.isSome = true ↔ Clr ags used p f) ∧ ((∃ c, Wy ags used p f c (wayO o).how.length) ∨ o = none) ∧ (o = none ∨ ∀ c k, Wy ags used p f c k → (wayO o).how.length ≤ k) := by
  cases o with
  | none =>
    refine ⟨⟨fun h => Bool.noConfusion h, ?_⟩, .inr rfl, .inl rfl⟩
    rintro ⟨c, k, h⟩
    obtain ⟨v, t, h1, h2, _⟩ := wy_run h 0 0
    have := ho v t h1 (.inl (by decide))
    simp [h2] at this
  | some w =>
    obtain ⟨h1, h2, h3⟩ := ho
    obtain ⟨c, hw⟩ := run_wy w.how f 0 0 w.team h2 (of_decide_eq_true h3)
    refine ⟨⟨fun _ => ⟨c, _, hw⟩, fun _ => rfl⟩, .inl ⟨c, hw⟩, .inr fun c' k' h' => ?_⟩
    obtain ⟨v, t, g1, g2, g3⟩ := wy_run h' 0 0
    have hle := h1.2.2 v t g1 (decide_eq_true g2) (.inl (by decide))
    show w.how.length ≤ k'
    rcases Nat.lt_or_ge k' w.how.length with h | h
    · have hv := run_wd _ stepT_none _ _ _ g1
      have := code_lt_of_len ags.length w.how.length w.how v rfl (by omega) hv
      omega
    · exact h
/-- A set of melts as a number. -/
def SetN (n : Nat) (q : Nat → Prop) : Prop := n < 18446744073709551616 ∧ ∀ f, f < 64 → (n.testBit f = true ↔ q f)
theorem SetN.eq {n m : Nat} {q : Nat → Prop} (h : SetN n q) (h' : SetN m q) : n = m := by
  refine Nat.eq_of_testBit_eq fun f => ?_
  rcases Nat.lt_or_ge f 64 with hf | hf
  · have h1 := h.2 f hf
    have h2 := h'.2 f hf
    cases e1 : n.testBit f <;> cases e2 : m.testBit f <;> simp_all
  · have hp : (2 : Nat) ^ 64 ≤ 2 ^ f := Nat.pow_le_pow_right (by omega) hf
    have h1 : n < 2 ^ f := Nat.lt_of_lt_of_le h.1 hp
    have h2 : m < 2 ^ f := Nat.lt_of_lt_of_le h'.1 hp
    rw [Nat.testBit_lt_two_pow h1, Nat.testBit_lt_two_pow h2]
end Go.Proofs.YthkbagikmbcphaaDoor.N
namespace Go.Proofs.YthkbagikmbcphaaDoor.N
open Go Go.RowKit Go.Proofs
/-! How many agents the shortest ways have: what rounds that go on in place come to. -/
def farN : Nat := 1048576
variable {ags : List Ag} {used p : Nat}
structure RI (ags : List Ag) (used p r m i : Nat) (L : List Nat) : Prop where
  len : L.length = 64
  le : ∀ f, f < 64 → L.getD f 0 ≤ farN
  snd : ∀ f, f < 64 → L.getD f 0 < farN → ∃ c, Wy ags used p f c (L.getD f 0)
  cmp : ∀ f, f < 64 → ∀ c k, Wy ags used p f c k → (k ≤ r ∨ (k ≤ r + 1 ∧ f < m)) → L.getD f 0 ≤ k
  cur : ∀ j, j < i → j ∈ canTo ags used m ags.length → ∀ c k, Wy ags used p (putN (ags.getD j default) m) c k → k ≤ r → L.getD m 0 ≤ k + 1
/-- What the rounds begin with. -/
def initN (p k : Nat) : List Nat := (List.range 64).map fun f => if f < k then (if nn f p = 0 then 0 else farN) else 0
theorem initN_len (p k : Nat) : (initN p k).length = 64 := by simp [initN]
theorem getN_set {L : List Nat} {f g x : Nat} (hf : f < L.length) : (L.set f x).getD g 0 = if f = g then x else L.getD g 0 := by
  rw [List.getD_eq_getElem?_getD, List.getElem?_set, List.getD_eq_getElem?_getD]
  by_cases e : f = g
  · subst e
    rw [if_pos rfl, if_pos rfl, if_pos hf]; rfl
  · rw [if_neg e, if_neg e]
theorem initN_getD {p f : Nat} (hf : f < 64) : (initN p 64).getD f 0 = if nn f p = 0 then 0 else farN := by
  simp [initN, List.getD_eq_getElem?_getD, hf]
theorem RI.start : RI ags used p 0 0 0 (initN p 64) where
  len := initN_len p 64
  le f hf := by rw [initN_getD hf]; split <;> simp [farN]
  snd f hf h := by
    rw [initN_getD hf] at h ⊢
    by_cases h0 : nn f p = 0
    · rw [if_pos h0]; exact ⟨0, .done h0⟩
    · rw [if_neg h0] at h; exact absurd h (Nat.lt_irrefl _)
  cmp f hf c k h hk := by
    have hk0 : k = 0 := by omega
    subst hk0
    rw [initN_getD hf]
    cases h with
    | done h0 => rw [if_pos h0]; exact Nat.le_refl _
  cur j hj := absurd hj (Nat.not_lt_zero _)
theorem RI.skip {r m i : Nat} {L : List Nat} (h : RI ags used p r m i L) (hi : i ∉ canTo ags used m ags.length) : RI ags used p r m (i + 1) L :=
  { h with
    cur := fun j hj hc => by
      rcases Nat.lt_succ_iff_lt_or_eq.1 hj with h1 | rfl
      · exact h.cur j h1 hc
      · exact absurd hc hi }
theorem RI.put {r m i : Nat} {L : List Nat} (hok : Oks ags) (h : RI ags used p r m i L) (hm : m < 64) (hi : i ∈ canTo ags used m ags.length) :
    RI ags used p r m (i + 1) (L.set m (min (L.getD m 0) (1 + L.getD (putN (ags.getD i default) m) 0))) := by
  have hil := (can_mem.1 hi).1
  have hxo : (ags.getD i default).ok := hok.2 _ (by rw [List.getD_eq_getElem?_getD, List.getElem?_eq_getElem hil]; exact List.getElem_mem hil)
  have hg : putN (ags.getD i default) m < 64 := putN_lt hxo hm
  have hml : m < L.length := by rw [h.len]; exact hm
  have dec : ∀ f, (L.set m (min (L.getD m 0) (1 + L.getD (putN (ags.getD i default) m) 0))).getD f 0 ≤ L.getD f 0 := fun f => by
    rw [getN_set hml]
    by_cases e : m = f
    · subst e; rw [if_pos rfl]; exact Nat.min_le_left _ _
    · rw [if_neg e]; exact Nat.le_refl _
  refine ⟨by rw [List.length_set]; exact h.len, fun f hf => Nat.le_trans (dec f) (h.le f hf), fun f hf hlt => ?_, fun f hf c k hw hk => Nat.le_trans (dec f) (h.cmp f hf c k hw hk), fun j hj hc c k hw hk => ?_⟩
  · rw [getN_set hml] at hlt ⊢
    by_cases e : m = f
    · subst e
      rw [if_pos rfl] at hlt ⊢
      rcases Nat.le_total (L.getD m 0) (1 + L.getD (putN (ags.getD i default) m) 0) with h1 | h1
      · rw [Nat.min_eq_left h1] at hlt ⊢
        exact h.snd m hm hlt
      · rw [Nat.min_eq_right h1] at hlt ⊢
        obtain ⟨c, hc⟩ := h.snd _ hg (by omega)
        rw [Nat.add_comm]
        exact ⟨_, .step hi hc⟩
    · rw [if_neg e] at hlt ⊢
      exact h.snd f hf hlt
  · rcases Nat.lt_succ_iff_lt_or_eq.1 hj with h1 | rfl
    · exact Nat.le_trans (dec m) (h.cur j h1 hc c k hw hk)
    · rw [getN_set hml, if_pos rfl]
      have := h.cmp _ hg c k hw (.inl hk)
      omega
theorem RI.next {r m : Nat} {L : List Nat} (h : RI ags used p r m ags.length L) (hm : m < 64) : RI ags used p r (m + 1) 0 L :=
  { h with
    cmp := fun f hf c k hw hk => by
      by_cases h0 : k ≤ r ∨ (k ≤ r + 1 ∧ f < m)
      · exact h.cmp f hf c k hw h0
      · have hfm : f = m := by omega
        subst hfm
        cases hw with
        | done h1 => exact h.cmp f hf 0 0 (.done h1) (.inl (Nat.zero_le _))
        | step hi hw' => exact h.cur _ (can_mem.1 hi).1 hi _ _ hw' (by omega)
    cur := fun j hj => absurd hj (Nat.not_lt_zero _) }
theorem RI.round {r : Nat} {L : List Nat} (h : RI ags used p r 64 0 L) : RI ags used p (r + 1) 0 0 L :=
  { h with
    cmp := fun f hf c k hw hk => h.cmp f hf c k hw (by omega)
    cur := fun j hj => absurd hj (Nat.not_lt_zero _) }
/-- What the reference's numbers say of each melt. -/
structure Dst (ags : List Ag) (used p : Nat) (L : List Nat) : Prop where
  len : L.length = 64
  far : ∀ f, f < 64 → (L.getD f 0 = farN ↔ ¬ Clr ags used p f)
  way : ∀ f, f < 64 → L.getD f 0 ≠ farN → L.getD f 0 ≤ 63 ∧ (∃ c, Wy ags used p f c (L.getD f 0)) ∧ ∀ c k, Wy ags used p f c k → L.getD f 0 ≤ k
theorem RI.dst {L : List Nat} (hok : Oks ags) (h : RI ags used p 64 0 0 L) : Dst ags used p L := by
  have short : ∀ f, f < 64 → Clr ags used p f → L.getD f 0 ≤ 63 ∧ ∀ c k, Wy ags used p f c k → L.getD f 0 ≤ k := fun f hf ⟨c, k, hw⟩ => by
    obtain ⟨c', k', ho⟩ := Opt.ex hw
    have h63 := Opt.short hok hf ho
    have h1 := h.cmp f hf _ _ ho.1 (.inl (by omega))
    refine ⟨by omega, fun c2 k2 hw2 => ?_⟩
    by_cases h2 : k2 ≤ 64
    · exact h.cmp f hf c2 k2 hw2 (.inl h2)
    · omega
  have far_ : ∀ f, f < 64 → (L.getD f 0 = farN ↔ ¬ Clr ags used p f) := fun f hf => by
    constructor
    · intro e hc
      have := (short f hf hc).1
      rw [e] at this
      simp [farN] at this
    · intro hc
      have h1 := h.le f hf
      by_cases e : L.getD f 0 = farN
      · exact e
      · obtain ⟨c, hw⟩ := h.snd f hf (by omega)
        exact absurd ⟨c, _, hw⟩ hc
  refine ⟨h.len, far_, fun f hf hne => ?_⟩
  obtain ⟨c, hw⟩ := h.snd f hf (by have := h.le f hf; omega)
  have := short f hf ⟨c, _, hw⟩
  exact ⟨this.1, ⟨c, hw⟩, this.2⟩
theorem RI.same {r m i f : Nat} {L : List Nat} (h : RI ags used p r m i L) (hf : f < 64) : L.set f (min (L.getD f 0) farN) = L := by
  rw [Nat.min_eq_left (h.le f hf)]
  apply List.ext_getElem?
  intro g
  rw [List.getElem?_set]
  by_cases e : f = g
  · subst e
    have : f < L.length := by rw [h.len]; exact hf
    rw [if_pos rfl, if_pos this, List.getD_eq_getElem?_getD, List.getElem?_eq_getElem this]; rfl
  · rw [if_neg e]
end Go.Proofs.YthkbagikmbcphaaDoor.N
namespace Go.Proofs.YthkbagikmbcphaaDoor.N
open Go Go.RowKit Go.Proofs
/-- What Shortest says. -/
structure ShS (ags : List Ag) (p f : Nat) (W : List Nat) (E : Nat) : Prop where
  yes : E = 0 → Clr ags (usedAll ags.length) p f ∧ (∃ c, Wy ags (usedAll ags.length) p f c W.length) ∧ ∀ c k, Wy ags (usedAll ags.length) p f c k → W.length ≤ k
  no : E ≠ 0 → E = 11 ∧ ¬ Clr ags (usedAll ags.length) p f ∧ W = []
theorem ShS.zero {ags : List Ag} {p f E : Nat} {W : List Nat} (h : ShS ags p f W E) (hc : Clr ags (usedAll ags.length) p f) : E = 0 := by
  by_cases hE : E = 0
  · exact hE
  · exact absurd hc (h.no hE).2.1
theorem ShS.iff {ags : List Ag} {p f E : Nat} {W : List Nat} (h : ShS ags p f W E) : E = 0 ↔ Clr ags (usedAll ags.length) p f := ⟨fun hE => (h.yes hE).1, h.zero⟩
end Go.Proofs.YthkbagikmbcphaaDoor.N
namespace Go.Proofs.YthkbagikmbcphaaDoor.N
open Go Go.RowKit Go.Proofs
theorem ChS.mono {ags ms : List Ag} {p q f c c' E' : Nat} {W W' : List Nat} (hu : ∀ x ∈ ags, x ∈ ms) (hp : ∀ f, nn f p = 0 → nn f q = 0) (h : ChS ags p f W c 0) (h' : ChS ms q f W' c' E') : E' = 0 ∧ c' ≤ c := by
  have hw := (h.yes rfl).1.1.mono (ags' := ms) (used' := usedAll ms.length) (fun x hx => us_all.2 (hu x (us_all.1 hx))) hp
  by_cases hE : E' = 0
  · have := (h'.yes hE).1.2 _ _ hw
    unfold lexle at this
    exact ⟨hE, by omega⟩
  · exact absurd hw ((h'.no hE).2.2.2 _ _)
end Go.Proofs.YthkbagikmbcphaaDoor.N
namespace Go.Proofs.YthkbagikmbcphaaDoor.N
open Go Go.RowKit Go.Proofs
/-- A slice that reads as a list wherever some things are held. -/
def Rds {α : Type} (cells : α → List Value) (size : Nat) (C : Ctx) (T : List Res) (A : Option Addr) (l : List α) : Prop :=
  ∀ (C' : Ctx) (fr : List (Nat × Value)) (hp : List Res) (a : Act) (w : World), At C' fr hp a w → C'.P = C.P → C'.B = C.B → C'.w0 = C.w0 → (∀ r ∈ T, r ∈ hp) → RdL cells size w A l
theorem Rds.row {α : Type} {cells : α → List Value} {size : Nat} {C : Ctx} {T : List Res} {A : Option Addr} {l : List α} {e c : Nat} (hs : ∀ x, (cells x).length = size) (h : Res.row e size A l.length c (l.flatMap cells) ∈ T) : Rds cells size C T A l :=
  fun _ _ _ _ _ ha _ _ _ hm => row_reads ha hs (hm _ h) rfl
theorem Rds.blk {α : Type} {cells : α → List Value} {size : Nat} {C : Ctx} {T : List Res} {b ct : Nat} {l : List α} (hs : ∀ x, (cells x).length = size) (h : Res.blk b (.cells (l.flatMap cells).toArray ct (0, 0)) ∈ T) : Rds cells size C T (some ⟨b, 0, none⟩) l := by
  intro C' fr hp a w ha _ _ _ hm _
  refine ⟨b, 0, rfl, (Res.lt (ha.own _ (hm _ h)) b rfl).2, fun k x hk j u hu => ?_⟩
  rw [Nat.zero_add]
  exact cell_of_blk (ha.mem_blk (hm _ h)) (flatMap_get hs l k x hk j u hu)
theorem Rds.old {α : Type} {cells : α → List Value} {size : Nat} {C : Ctx} {T : List Res} {A : Option Addr} {l : List α} (h : RdL cells size C.w0 A l) (hB : C.w0.heap.size = C.B) : Rds cells size C T A l := by
  intro C' fr hp a w ha _ h2 h3 _ hl
  obtain ⟨b, o, e1, e2, e3⟩ := h hl
  have hbB : b < C'.B := by rw [h2, ← hB]; exact e2
  refine ⟨b, o, e1, ?_, fun k x hk j u hu => ?_⟩
  · have h4 := ha.below.size
    rw [h3] at h4
    omega
  · exact ha.old (by rw [h3]; exact e3 k x hk j u hu) hbB
/-- What becomes of a melt along a way; else the error. -/
def alongE (ags : List Ag) : Nat → List Int → Except Nat (List Nat)
  | _, [] => .ok []
  | f, n :: l => if inB n 0 ((ags.length : Int) - 1) = false then .error 3 else if mayN (ags.getD n.toNat default) f = false then .error 12 else (alongE ags (putN (ags.getD n.toNat default) f) l).map (putN (ags.getD n.toNat default) f :: ·)
/-- The outs so far, and what is still to come. -/
def goesOn (outs : List Nat) (r : Except Nat (List Nat)) : Except Nat (List Nat) := r.map (outs ++ ·)
theorem goesOn_nil (r : Except Nat (List Nat)) : goesOn [] r = r := by cases r <;> rfl
theorem alongE_step {ags : List Ag} {f k : Nat} {n : Int} {way : List Int} (hn : way[k]? = some n) : alongE ags f (way.drop k) = if inB n 0 ((ags.length : Int) - 1) = false then .error 3 else if mayN (ags.getD n.toNat default) f = false then .error 12 else (alongE ags (putN (ags.getD n.toNat default) f) (way.drop (k + 1))).map (putN (ags.getD n.toNat default) f :: ·) := by
  obtain ⟨hk, he⟩ := List.getElem?_eq_some_iff.1 hn
  rw [List.drop_eq_getElem_cons hk, he]
  rfl
theorem goesOn_step (outs : List Nat) (x : Nat) (r : Except Nat (List Nat)) : goesOn outs (r.map (x :: ·)) = goesOn (outs ++ [x]) r := by
  cases r with
  | error c => rfl
  | ok l =>
    show Except.ok (outs ++ (x :: l)) = Except.ok ((outs ++ [x]) ++ l)
    rw [List.append_assoc]; rfl
end Go.Proofs.YthkbagikmbcphaaDoor.N
namespace Go.Proofs.YthkbagikmbcphaaDoor.N
open Go Go.RowKit Go.Proofs
/-! All ascending lists of k numbers, in their order. -/
def chsL (n : Nat) : Nat → Nat → List (List Nat)
  | 0, _ => [[]]
  | k + 1, f => (List.range' f (n - f)).flatMap fun i => (chsL n k (i + 1)).map (i :: ·)
end Go.Proofs.YthkbagikmbcphaaDoor.N
namespace Go.Proofs.YthkbagikmbcphaaDoor.N
open Go Go.RowKit Go.Proofs
def upd (os : Nat → Option Wk) (k : Nat) (o : Option Wk) : Nat → Option Wk := fun f => if f = k then o else os f
end Go.Proofs.YthkbagikmbcphaaDoor.N
namespace Go.Proofs.YthkbagikmbcphaaDoor.N
open Go Go.RowKit Go.Proofs
variable {C : Ctx} {fr : List (Nat × Value)} {hp : List Res} {ops : Array Oper} {Q : Exit → Act → World → Prop} {rest : List Oper} {d : Nat} {ty : TypeId} {pos : String} {after : Array Edge}
theorem flatMap_len {α : Type} {cells : α → List Value} {size : Nat} (hs : ∀ x, (cells x).length = size) (l : List α) : (l.flatMap cells).length = l.length * size := by
  induction l with
  | nil => simp
  | cons x l ih => rw [List.flatMap_cons, List.length_append, hs, ih, List.length_cons, Nat.succ_mul]; omega
end Go.Proofs.YthkbagikmbcphaaDoor.N
namespace Go.Proofs.YthkbagikmbcphaaDoor.N
open Go Go.RowKit Go.Proofs
/-- No number twice. -/
def Inj (n : Nat) (l : List Nat) : Prop := l.length = n ∧ (∀ (a x : Nat), l[a]? = some x → x < n) ∧ ∀ (a b x : Nat), l[a]? = some x → l[b]? = some x → a = b
theorem Inj.range (n : Nat) : Inj n (List.range n) := by
  refine ⟨List.length_range, fun a x h => ?_, fun a b x h h' => ?_⟩
  · have := List.mem_range.1 (List.mem_of_getElem? h)
    exact this
  · obtain ⟨h1, e1⟩ := List.getElem?_eq_some_iff.1 h
    obtain ⟨h2, e2⟩ := List.getElem?_eq_some_iff.1 h'
    simp at e1 e2
    omega
theorem Inj.swap {n : Nat} {l : List Nat} (h : Inj n l) {i j x y : Nat} (hx : l[i]? = some x) (hy : l[j]? = some y) : Inj n ((l.set i y).set j x) := by
  obtain ⟨h1, h2, h3⟩ := h
  obtain ⟨hi, _⟩ := List.getElem?_eq_some_iff.1 hx
  obtain ⟨hj, _⟩ := List.getElem?_eq_some_iff.1 hy
  have key : ∀ (a z : Nat), ((l.set i y).set j x)[a]? = some z → l[if a = j then i else if a = i then j else a]? = some z := by
    intro a z hz
    rw [List.getElem?_set, List.length_set] at hz
    by_cases e1 : j = a
    · subst e1
      rw [if_pos rfl, if_pos hj] at hz
      rw [if_pos rfl, hx]
      exact hz
    · rw [if_neg e1, List.getElem?_set] at hz
      rw [if_neg (fun e => e1 e.symm)]
      by_cases e2 : i = a
      · subst e2
        rw [if_pos rfl, if_pos hi] at hz
        rw [if_pos rfl, hy]
        exact hz
      · rw [if_neg e2] at hz
        rw [if_neg (fun e => e2 e.symm)]
        exact hz
  refine ⟨by simp [h1], fun a z hz => h2 _ z (key a z hz), fun a b z ha hb => ?_⟩
  have := h3 _ _ z (key a z ha) (key b z hb)
  clear key h2 h3 ha hb hx hy
  revert this
  repeat' split
  all_goals omega
/-! Agents under other numbers. -/
theorem set_mem {l : List Ag} {o : Nat} {x y : Ag} (h : y ∈ l.set o x) : y ∈ l ∨ y = x := List.mem_or_eq_of_mem_set h
def Same (al bs : List Ag) : Prop := ∀ x, x ∈ al ↔ x ∈ bs
theorem Same.sym {al bs : List Ag} (h : Same al bs) : Same bs al := fun x => (h x).symm
theorem Same.clr {al bs : List Ag} (h : Same al bs) {p f : Nat} : Clr al (usedAll al.length) p f ↔ Clr bs (usedAll bs.length) p f :=
  ⟨Clr.mono (fun x hx => us_all.2 ((h x).1 (us_all.1 hx))) (fun _ h => h), Clr.mono (fun x hx => us_all.2 ((h x).2 (us_all.1 hx))) (fun _ h => h)⟩
theorem Same.wy {al bs : List Ag} (h : Same al bs) {p f c k : Nat} (hw : Wy al (usedAll al.length) p f c k) : Wy bs (usedAll bs.length) p f c k := hw.mono (fun x hx => us_all.2 ((h x).1 (us_all.1 hx))) (fun _ h => h)
theorem Same.short {al bs : List Ag} (h : Same al bs) {p f E E' : Nat} {W W' : List Nat} (h1 : ShS al p f W E) (h2 : ShS bs p f W' E') : E = E' ∧ W.length = W'.length := by
  by_cases hc : Clr al (usedAll al.length) p f
  · have e1 := h1.zero hc
    have e2 := h2.zero (h.clr.1 hc)
    obtain ⟨_, ⟨c1, w1⟩, m1⟩ := h1.yes e1
    obtain ⟨_, ⟨c2, w2⟩, m2⟩ := h2.yes e2
    exact ⟨by omega, Nat.le_antisymm (m1 _ _ (h.sym.wy w2)) (m2 _ _ (h.wy w1))⟩
  · have e1 := h1.no (fun e => hc (h1.iff.1 e))
    have e2 := h2.no (fun e => hc (h.clr.2 (h2.iff.1 e)))
    rw [e1.1, e2.1, e1.2.2, e2.2.2]
    exact ⟨rfl, rfl⟩
theorem Same.found {al bs : List Ag} (h : Same al bs) {p f : Nat} {o o' : Option Wk} (h1 : FoundO al (usedAll al.length) 1 (-1) (f, 0, 0) (fun t => decide (nn t.1 p = 0)) o) (h2 : FoundO bs (usedAll bs.length) 1 (-1) (f, 0, 0) (fun t => decide (nn t.1 p = 0)) o') : o.isSome = o'.isSome ∧ (wayO o).how.length = (wayO o').how.length := by
  obtain ⟨a1, a2, a3⟩ := short_spec h1
  obtain ⟨b1, b2, b3⟩ := short_spec h2
  have hi : o.isSome = true ↔ o'.isSome = true := a1.trans (h.clr.trans b1.symm)
  cases o with
  | none =>
    cases o' with
    | none => exact ⟨rfl, rfl⟩
    | some k => exact absurd (hi.2 rfl) (by simp)
  | some k =>
    cases o' with
    | none => exact absurd (hi.1 rfl) (by simp)
    | some k' =>
      refine ⟨rfl, ?_⟩
      obtain ⟨c1, w1⟩ := a2.resolve_right (by simp)
      obtain ⟨c2, w2⟩ := b2.resolve_right (by simp)
      exact Nat.le_antisymm ((a3.resolve_left (by simp)) _ _ (h.sym.wy w2)) ((b3.resolve_left (by simp)) _ _ (h.wy w1))
/-- What is known while agents get other numbers. -/
structure Ren (al os : List Ag) (l : List Nat) (i : Nat) : Prop where
  len : os.length = al.length
  sub : ∀ x ∈ os, x ∈ al
  done : ∀ (j q : Nat), j < i → l[j]? = some q → os[q]? = al[j]?
theorem Ren.zero (al : List Ag) (l : List Nat) : Ren al al l 0 := ⟨rfl, fun _ h => h, fun _ _ h => absurd h (by omega)⟩
theorem Ren.step {al os : List Ag} {l : List Nat} {i q : Nat} {x : Ag} (h : Ren al os l i) (hl : Inj al.length l) (hq : l[i]? = some q) (hx : al[i]? = some x) : Ren al (os.set q x) l (i + 1) := by
  have hql := hl.2.1 _ _ hq
  refine ⟨by rw [List.length_set]; exact h.len, fun y hy => ?_, fun j r hj hr => ?_⟩
  · rcases set_mem hy with h1 | h1
    · exact h.sub y h1
    · rw [h1]; exact List.mem_of_getElem? hx
  · rw [List.getElem?_set]
    by_cases e : q = r
    · subst e
      obtain rfl := hl.2.2 _ _ _ hq hr
      rw [if_pos rfl, if_pos (by rw [h.len]; exact hql), hx]
    · rw [if_neg e]
      have : j ≠ i := fun e' => by subst e'; rw [hq] at hr; exact e (Option.some.inj hr)
      exact h.done j r (by omega) hr
theorem Ren.same {al os : List Ag} {l : List Nat} (h : Ren al os l al.length) (hl : Inj al.length l) : Same al os := by
  intro x
  constructor
  · intro hx
    obtain ⟨j, hj, rfl⟩ := List.getElem_of_mem hx
    have hjl : j < l.length := by rw [hl.1]; exact hj
    have := h.done j _ hj (List.getElem?_eq_getElem hjl)
    rw [List.getElem?_eq_getElem hj] at this
    exact List.mem_of_getElem? this
  · exact h.sub x
end Go.Proofs.YthkbagikmbcphaaDoor.N
namespace Go.Proofs.YthkbagikmbcphaaDoor.N
open Go Go.RowKit Go.Proofs
/-- What Put says. -/
def PutS (ags : List Ag) (f : Nat) (way : List Int) (outs : List Nat) (E : Nat) : Prop :=
  (way.length ≤ 20 ∧ alongE ags f way = .ok outs ∧ E = 0 ∧ outs.length = way.length) ∨ (way.length ≤ 20 ∧ alongE ags f way = .error E ∧ (E = 3 ∨ E = 12) ∧ outs = []) ∨ (20 < way.length ∧ E = 6 ∧ outs = [])
theorem PutS.len {ags : List Ag} {f E : Nat} {way : List Int} {outs : List Nat} (h : PutS ags f way outs E) : outs.length ≤ 20 := by
  rcases h with ⟨h1, _, _, h4⟩ | ⟨_, _, _, rfl⟩ | ⟨_, _, rfl⟩
  · omega
  · simp
  · simp
end Go.Proofs.YthkbagikmbcphaaDoor.N
namespace Go.Proofs.YthkbagikmbcphaaDoor.N
open Go Go.RowKit Go.Proofs
def castL (l : List Nat) : List Int := l.map fun (n : Nat) => (n : Int)
def lastN (m : Nat) (l : List Nat) : Nat := l.getLast?.getD m
theorem lastN_snoc (m : Nat) (l : List Nat) (x : Nat) : lastN m (l ++ [x]) = x := by
  unfold lastN
  simp
theorem castL_get {l : List Nat} {i x : Nat} (h : l[i]? = some x) : (castL l)[i]? = some (x : Int) := by
  unfold castL
  rw [List.getElem?_map, h]; rfl
/-- The law's own way through the list. -/
structure Wlk (ags : List Ag) (m : Nat) (W : List Nat) (i now due : Nat) : Prop where
  lt : now < 64
  go : due = 0 → ∃ pre, pre.length = i ∧ lastN m pre = now ∧ alongE ags m (castL W) = goesOn pre (alongE ags now ((castL W).drop i))
  bad : due ≠ 0 → (due = 3 ∨ due = 12) ∧ alongE ags m (castL W) = .error due
theorem Wlk.zero {ags : List Ag} {m : Nat} {W : List Nat} (hm : m < 64) : Wlk ags m W 0 m 0 := ⟨hm, fun _ => ⟨[], rfl, rfl, by rw [goesOn_nil]; rfl⟩, fun h => absurd rfl h⟩
theorem Wlk.next {ags : List Ag} {m now i x : Nat} {W : List Nat} (hok : Oks ags) (h : Wlk ags m W i now 0) (hx : W[i]? = some x) (hb : x < ags.length) (hm : mayN (ags.getD x default) now = true) : Wlk ags m W (i + 1) (putN (ags.getD x default) now) 0 := by
  obtain ⟨pre, h1, h2, h3⟩ := h.go rfl
  rw [alongE_step (castL_get hx), if_neg (by rw [Bool.not_eq_false, inB_true]; omega), Int.toNat_natCast, if_neg (by rw [hm]; simp), goesOn_step] at h3
  exact ⟨putN_lt (agd_ok hok hb) h.lt, fun _ => ⟨_, by rw [List.length_append, h1]; rfl, lastN_snoc _ _ _, h3⟩, fun e => absurd rfl e⟩
theorem PutS.ok {ags : List Ag} {f E : Nat} {way : List Int} {outs o : List Nat} (h : PutS ags f way outs E) (hl : way.length ≤ 20) (ho : alongE ags f way = .ok o) : E = 0 ∧ outs = o := by
  rcases h with ⟨_, g1, g2, _⟩ | ⟨_, g1, _⟩ | ⟨g1, _⟩
  · rw [ho] at g1
    exact ⟨g2, (Except.ok.inj g1).symm⟩
  · rw [ho] at g1; cases g1
  · omega
theorem PutS.long {ags : List Ag} {f E : Nat} {way : List Int} {outs : List Nat} (h : PutS ags f way outs E) (hl : 20 < way.length) : E = 6 ∧ outs = [] := by
  rcases h with ⟨g, _⟩ | ⟨g, _⟩ | ⟨_, g⟩
  · omega
  · omega
  · exact g
end Go.Proofs.YthkbagikmbcphaaDoor.N
namespace Go.Proofs.YthkbagikmbcphaaDoor.N
open Go Go.RowKit Go.Proofs
/-! The first list, the shorter ones first, that does something. -/
def FS (n : Nat) (P : List Nat → Prop) (K : Nat) : Option (List Nat) → Prop
  | some v => P v ∧ Wd n v ∧ v.length ≤ K ∧ ∀ u, Wd n u → u.length ≤ K → P u → code n v ≤ code n u
  | none => ∀ u, Wd n u → u.length ≤ K → ¬ P u
/-- What a walk through all lists has seen. -/
structure SeenS (n : Nat) (P : List Nat → Prop) (k i : Nat) : Prop where
  less : ∀ u, Wd n u → u.length < k → ¬ P u
  now : ∀ j u, j < i → (strs n k)[j]? = some u → ¬ P u
theorem SeenS.start {n : Nat} {P : List Nat → Prop} : SeenS n P 0 0 := ⟨fun _ _ h => absurd h (Nat.not_lt_zero _), fun _ _ h => absurd h (Nat.not_lt_zero _)⟩
theorem SeenS.next {n k i : Nat} {P : List Nat → Prop} (h : SeenS n P k i) {v : List Nat} (hv : (strs n k)[i]? = some v) (hp : ¬ P v) : SeenS n P k (i + 1) :=
  ⟨h.less, fun j u hj hu => by
    rcases Nat.lt_succ_iff_lt_or_eq.1 hj with h1 | rfl
    · exact h.now j u h1 hu
    · rw [hv] at hu
      cases hu
      exact hp⟩
theorem SeenS.round {n k i : Nat} {P : List Nat → Prop} (h : SeenS n P k i) (hi : (strs n k).length ≤ i) : SeenS n P (k + 1) 0 :=
  ⟨fun u hu hl => by
    rcases Nat.lt_succ_iff_lt_or_eq.1 hl with h1 | h1
    · exact h.less u hu h1
    · obtain ⟨j, hj⟩ := List.getElem?_of_mem (strs_all hu h1)
      exact h.now j u (Nat.lt_of_lt_of_le (List.getElem?_eq_some_iff.1 hj).1 hi) hj, fun _ _ h => absurd h (Nat.not_lt_zero _)⟩
theorem SeenS.found {n k i K : Nat} {P : List Nat → Prop} (h : SeenS n P k i) (hk : k ≤ K) {v : List Nat} (hv : (strs n k)[i]? = some v) (hp : P v) : FS n P K (some v) := by
  obtain ⟨hvl, hvw⟩ := strs_mem (List.mem_of_getElem? hv)
  refine ⟨hp, hvw, by omega, fun u hu _ hpu => ?_⟩
  rcases Nat.lt_trichotomy u.length k with hl | hl | hl
  · exact absurd hpu (h.less u hu hl)
  · obtain ⟨j, hj⟩ := List.getElem?_of_mem (strs_all hu hl)
    rcases Nat.lt_or_ge j i with h2 | h2
    · exact absurd hpu (h.now j u h2 hj)
    · exact strs_le_code hv hj h2
  · exact Nat.le_of_lt (code_lt_of_len n u.length u v rfl (by omega) hvw)
/-! Teams. -/
end Go.Proofs.YthkbagikmbcphaaDoor.N
namespace Go.Proofs.YthkbagikmbcphaaDoor.N
open Go Go.RowKit Go.Proofs
/-! The melt that takes longest. -/
theorem Dst.zero {ags : List Ag} {used p : Nat} {L : List Nat} (h : Dst ags used p L) : L.getD 0 0 = 0 := by
  have h0 : nn 0 p = 0 := by unfold nn; simp
  have hc : Clr ags used p 0 := ⟨0, 0, .done h0⟩
  have hne : L.getD 0 0 ≠ farN := fun e => (h.far 0 (by omega)).1 e hc
  have := (h.way 0 (by omega) hne).2.2 0 0 (.done h0)
  omega
end Go.Proofs.YthkbagikmbcphaaDoor.N
namespace Go.Proofs.YthkbagikmbcphaaDoor.N
open Go Go.RowKit Go.Proofs
structure SeenC (n : Nat) (P : List Nat → Prop) (k i : Nat) : Prop where
  less : ∀ j u, j < k → u ∈ chsL n j 0 → ¬ P u
  now : ∀ j u, j < i → (chsL n k 0)[j]? = some u → ¬ P u
theorem SeenC.start {n : Nat} {P : List Nat → Prop} : SeenC n P 0 0 := ⟨fun _ _ h => absurd h (Nat.not_lt_zero _), fun _ _ h => absurd h (Nat.not_lt_zero _)⟩
theorem SeenC.next {n k i : Nat} {P : List Nat → Prop} (h : SeenC n P k i) {v : List Nat} (hv : (chsL n k 0)[i]? = some v) (hp : ¬ P v) : SeenC n P k (i + 1) :=
  ⟨h.less, fun j u hj hu => by
    rcases Nat.lt_succ_iff_lt_or_eq.1 hj with h1 | rfl
    · exact h.now j u h1 hu
    · rw [hv] at hu
      cases hu
      exact hp⟩
theorem SeenC.round {n k i : Nat} {P : List Nat → Prop} (h : SeenC n P k i) (hi : (chsL n k 0).length ≤ i) : SeenC n P (k + 1) 0 :=
  ⟨fun j u hj hu => by
    rcases Nat.lt_succ_iff_lt_or_eq.1 hj with h1 | rfl
    · exact h.less j u h1 hu
    · obtain ⟨x, hx⟩ := List.getElem?_of_mem hu
      exact h.now x u (Nat.lt_of_lt_of_le (List.getElem?_eq_some_iff.1 hx).1 hi) hx, fun _ _ h => absurd h (Nat.not_lt_zero _)⟩
end Go.Proofs.YthkbagikmbcphaaDoor.N
namespace Go.Proofs.YthkbagikmbcphaaDoor.N
open Go Go.RowKit Go.Proofs
section
variable {C : Ctx} {fr : List (Nat × Value)} {hp : List Res} {a : Act} {w : World} {ops : Array Oper} {Q : Exit → Act → World → Prop} {rest : List Oper}
  {d : Nat} {ty : TypeId} {pos : String} {after : Array Edge}
theorem ints_zeros : ∀ n : Nat, ints (List.replicate n 0) = List.replicate n (.int .i64 0)
  | 0 => rfl
  | n + 1 => by rw [List.replicate_succ, List.replicate_succ, ← ints_zeros n]; rfl
theorem madeCells_ints (n : Nat) : madeCells (Value.int .i64 0).cells n = (ints (List.replicate n 0)).toArray := by
  rw [ints_zeros]
  unfold madeCells
  apply Array.toList_inj.1
  apply List.ext_getElem?
  intro i
  by_cases hi : i < n
  · simp [Value.cells, hi, Nat.mod_one]
  · simp [Value.cells, hi]
/-- A slice of numbers that is made. -/
theorem lst_make_ints {t e : TypeId} {x y : Operand} {n : Nat} (hd : Nat.blt d C.N = true) (hx : ev fr x = some (.int .i64 (n : Int))) (hy : ev fr y = some (.int .i64 (n : Int))) (ht : C.P.underlying t = some (.slice e)) (hz : TI C.P e (.int .i64 0) 1 8) (hn : n ≤ 1000000)
    (k : ∀ b, Lst C ops Q rest ((d, .slice (some ⟨b, 0, none⟩) n n) :: fr) (.row e 1 (some ⟨b, 0, none⟩) n n (ints (List.replicate n 0)) :: hp)) : Lst C ops Q (⟨some d, .makeSlice t x y, ty, pos, after, none⟩ :: rest) fr hp := by
  intro a w ha
  obtain ⟨i, hi, hz0, hs, hb⟩ := hz
  refine wpList_plain rfl fun K hK => ?_
  unfold Oper.wp
  have hm : (Instr.makeSlice t (.int .i64 (n : Int)) (.int .i64 (n : Int))).run C.P w = .ok (.slice (some ⟨w.heap.size, 0, none⟩) n n) (w.alloc (.cells (ints (List.replicate n 0)).toArray e)) := by
    have h := run_makeSlice (P := C.P) w t e i (.int .i64 0) ht hi hz0 .i64 .i64 (n : Int) (n : Int) (by omega) (Int.le_refl _) (by rw [hs]; simp; omega) (by rw [hb]; omega) (by omega)
    simp only [Int.toNat_natCast, hs, Nat.mul_one] at h
    rw [h, madeCells_ints]
  have hr : (execOp a.eval ⟨some d, .makeSlice t x y, ty, pos, after, none⟩).run C.P w = .ok (.value (.slice (some ⟨w.heap.size, 0, none⟩) n n)) (w.alloc (.cells (ints (List.replicate n 0)).toArray e)) := by
    simp only [execOp, ha.eval hx, ha.eval hy, Sem.run_bind, hm, Result.andThen_ok, Sem.run_pure]
  rw [hr]
  refine hK _ _ (k w.heap.size _ _ (At.put ?_ (lt_of_blt hd) _))
  have h1 := ha.alloc (.cells (ints (List.replicate n 0)).toArray e)
  have hlen : (ints (List.replicate n 0)).length = n := by rw [ints_zeros, List.length_replicate]
  refine ⟨h1.size, h1.defs, h1.slots, h1.below, h1.base, fun r hr => ?_, ?_⟩
  · rcases List.mem_cons.1 hr with rfl | hr
    · have h2 := h1.own _ (List.mem_cons_self ..)
      exact ⟨by rw [hlen, Nat.mul_one], .inr ⟨_, n, _, rfl, h2.1, h2.2, Nat.le_refl _, by unfold maxLen; omega, by rw [List.size_toArray, hlen, Nat.mul_one], by rw [Nat.mul_one]; exact List.take_of_length_le (by show (ints (List.replicate n 0)).length ≤ n; rw [hlen]; exact Nat.le_refl _)⟩⟩
    · exact h1.own r (List.mem_cons_of_mem _ hr)
  · exact h1.apart
end
end Go.Proofs.YthkbagikmbcphaaDoor.N
namespace Go.Proofs.YthkbagikmbcphaaDoor.N
open Go Go.RowKit Go.Proofs

/-! A range over a function. -/
section
variable {C : Ctx} {fr : List (Nat × Value)} {hp hp' : List Res} {a : Act} {w : World} {ops : Array Oper} {Q : Exit → Act → World → Prop} {rest : List Oper}
  {d : Nat} {ty : TypeId} {pos : String} {after : Array Edge} {r : Nat}

/-- A piece of code in a round's frame. -/
def CodR (C : Ctx) (r : Nat) (c : Code) (Q : Exit → Act → World → Prop) (fr : List (Nat × Value)) (hp : List Res) : Prop :=
  ∀ a w, At C fr hp a w → c.wpIn (Fence.wide.inRound r) 0 C.P Q a w
theorem callsIn_round {n : Nat} {P : Program} {f : FuncId} {args : Array Value} {w : World} {R : Ending → World → Prop} (h : Calls P f args w R) : CallsIn (Fence.wide.inRound r) n P f args w R :=
  (callsIn_wide.2 h : CallsIn Fence.wide n P f args w R)
theorem rowsIn_wide {F : Fence} (hF : ∀ m m' P, Steps P m m' → StepsIn (Machine.fenced P F) P m m') {n : Nat} {P : Program} {row : String} {args : Array Value} {w : World} {R : Value → World → Prop} (h : Rows P row args w R) : RowsIn F n P row args w R :=
  fun c cs _ => let ⟨v, w', h1, h2⟩ := h c cs; ⟨v, w', h1, hF _ _ _ h2⟩
theorem steps_round {r : Nat} (m m' : Machine) (P : Program) (h : Steps P m m') : StepsIn (Machine.fenced P (Fence.wide.inRound r)) P m m' := (stepsIn_wide.2 h : StepsIn (Machine.fenced P Fence.wide) P m m')
theorem listR {P : Program} {ops : Array Oper} {Q : Exit → Act → World → Prop} (hQ : ∀ a w, Q .outgrown a w → False) : ∀ (l : List Oper), (l.all fun o => match o.op with | .defer _ => false | _ => true) = true → ∀ (a : Act) (w : World), wpList P ops Q l a w → wpListIn (Fence.wide.inRound r) 0 P ops Q l a w
  | [], _, a, w, h => h
  | o :: l, hl, a, w, h => by
    simp only [List.all_cons, Bool.and_eq_true] at hl
    have ih := listR (P := P) (ops := ops) (Q := Q) hQ l hl.2
    have hno : ∀ c, o.op ≠ .defer c := by
      intro c hc
      have := hl.1
      rw [hc] at this
      cases this
    simp only [wpList, wpListIn] at h ⊢
    split at h
    · rename_i hw
      rw [if_pos hw]
      rcases h with h | ⟨_, a', w', h⟩
      · refine ⟨fun _ _ => trivial, ?_⟩
        rw [show (Fence.wide.inRound r).round = some r from rfl, Oper.semAt_some r _ _ hno]
        unfold Oper.wp at h
        generalize (execOp a.eval o).run P w = x at h ⊢
        match x, h with
        | .ok (.value v) w', h => exact ih _ _ h
        | .ok .skip w', h => exact ih _ _ h
        | .ok (.defer d) w', h => exact ih _ _ h
        | .ok (.enter f args) w', h =>
          refine ⟨fun hd => by simp [Fence.wide] at hd, (callsIn_round h).mono ?_⟩
          intro e w'' he
          cases e with
          | returned v => exact ih _ _ he
          | panicked ch => exact he
          | outgrown => exact he
        | .ok (.row row args) w', h => exact ⟨fun hd => by simp [Fence.wide] at hd, (rowsIn_wide steps_round h).mono fun v w'' he => ih _ _ he⟩
        | .halt (.panic v) w', h => exact h
      · exact (hQ a' w' h).elim
    · rename_i hw
      rw [if_neg hw]
      exact ⟨fun _ _ => trivial, ih _ _ h⟩
theorem codR_region {id : Nat} {l : List Oper} (hQ : ∀ a w, Q .outgrown a w → False) (hl : (l.all fun o => match o.op with | .defer _ => false | _ => true) = true) (h : Lst C l.toArray Q l fr hp) : CodR C r (.region id l.toArray false) Q fr hp :=
  fun a w ha => wpIn_region_lit (listR hQ l hl a w (h a w ha))
theorem codR_seq {x y : Code} (h : CodR C r x (Exit.then (y.wpIn (Fence.wide.inRound r) 0 C.P Q) Q) fr hp) : CodR C r (x.seq y) Q fr hp := fun a w ha => wpIn_seq (h a w ha)
theorem exR_then {y : Code} (h : CodR C r y Q fr hp) : Ex C (Exit.then (y.wpIn (Fence.wide.inRound r) 0 C.P Q) Q) .normal fr hp := h
theorem codR_block {i : Nat} {c : Code} (h : CodR C r c (Exit.inBlock i Q) fr hp) : CodR C r (.block i c) Q fr hp := fun a w ha => wpIn_block (h a w ha)
theorem enter_marks {P : Program} {f : FuncId} {fn : Func} {c : Code} {vs : List Value} {w : World} {R : Ending → World → Prop} {N : Nat} (fr : List (Nat × Value))
    (hf : P.funcs[f]? = some fn) (hb : fn.body = some c) (hN : fn.ntmps = N) (hle : Nat.ble vs.length N = true) (hfr : idx 0 vs = fr)
    (h : Cod ⟨P, w.heap.size, w, N, []⟩ c (bodyPostM Fence.wide 0 P fn R) fr []) : Calls P f vs.toArray w R := by
  refine callsIn_wide.1 (callsIn_of_wp_marks hf hb trivial (wpIn_wide.2 (h _ _ ⟨?_, rfl, ?_, Below.refl _ _, Nat.le_refl _, (fun r hr => by cases hr), List.nodup_nil⟩)) : CallsIn Fence.wide 0 P f vs.toArray w R)
  · have : vs.length ≤ N := by simpa [Nat.ble_eq] using hle
    simp [hN]; omega
  · intro t v ht
    rw [← hfr] at ht
    obtain ⟨j, rfl, hj⟩ := look_idx vs 0 t v ht
    have hjl : j < vs.length := by
      rcases Nat.lt_or_ge j vs.length with h1 | h1
      · exact h1
      · rw [List.getElem?_eq_none h1] at hj; cases hj
    simp only [Nat.zero_add, Array.getD_eq_getD_getElem?]
    rw [Array.getElem?_append_left (by simpa using hjl)]
    simp [hj]
end
end Go.Proofs.YthkbagikmbcphaaDoor.N
namespace Go.Proofs.YthkbagikmbcphaaDoor.N
open Go Go.RowKit Go.Proofs
section
variable {C : Ctx} {fr : List (Nat × Value)} {hp hp' : List Res} {a : Act} {w : World} {ops : Array Oper} {Q : Exit → Act → World → Prop} {rest : List Oper}
  {d : Nat} {ty : TypeId} {pos : String} {after : Array Edge}
variable {r : Nat}
/-! More of rounds. -/
theorem opsR {P : Program} {ops : Array Oper} {Q : Exit → Act → World → Prop} (hQ : ∀ a w, Q .outgrown a w → False) (hops : ∀ (i : Nat) (o : Oper), ops[i]? = some o → ∀ c, o.op ≠ .defer c) : ∀ (l : List Nat) (a : Act) (w : World), wpOps P ops Q l a w → wpOpsIn (Fence.wide.inRound r) 0 P ops Q l a w
  | [], a, w, h => h
  | i :: l, a, w, h => by
    have ih := opsR (P := P) (ops := ops) (Q := Q) hQ hops l
    simp only [wpOps, wpOpsIn] at h ⊢
    cases ho : ops[i]? with
    | none => rw [ho] at h; exact ih _ _ h
    | some o =>
      rw [ho] at h
      dsimp only at h ⊢
      have hno := hops i o ho
      split at h
      · rename_i hw
        rw [if_pos hw]
        rcases h with h | ⟨_, a', w', h⟩
        · refine ⟨fun _ _ => trivial, ?_⟩
          rw [show (Fence.wide.inRound r).round = some r from rfl, Oper.semAt_some r _ _ hno]
          unfold Oper.wp at h
          generalize (execOp a.eval o).run P w = x at h ⊢
          match x, h with
          | .ok (.value v) w', h => exact ih _ _ h
          | .ok .skip w', h => exact ih _ _ h
          | .ok (.defer d) w', h => exact ih _ _ h
          | .ok (.enter f args) w', h =>
            refine ⟨fun hd => by simp [Fence.wide] at hd, (callsIn_round h).mono ?_⟩
            intro e w'' he
            cases e with
            | returned v => exact ih _ _ he
            | panicked ch => exact he
            | outgrown => exact he
          | .ok (.row row args) w', h => exact ⟨fun hd => by simp [Fence.wide] at hd, (rowsIn_wide steps_round h).mono fun v w'' he => ih _ _ he⟩
          | .halt (.panic v) w', h => exact h
        · exact (hQ a' w' h).elim
      · rename_i hw
        rw [if_neg hw]
        exact ⟨fun _ _ => trivial, ih _ _ h⟩
theorem cell_lt {w : World} {p : Addr} {v : Value} (h : w.cell? p = some v) : p.block < w.heap.size := by
  unfold World.cell? at h
  rcases Nat.lt_or_ge p.block w.heap.size with h1 | h1
  · exact h1
  · rw [Array.getElem?_eq_none h1] at h
    cases h
theorem yieldAt_mono {P : Program} {args : Array Value} {W : World} {R R' : Ending → World → Prop} (h : YieldAt Fence.wide 0 P r args W R) (hr : ∀ e w', R e w' → R' e w') : YieldAt Fence.wide 0 P r args W R' := by
  obtain ⟨fn, tmps, assign, body, h1, h2⟩ := h
  exact ⟨fn, tmps, assign, body, h1, h2.mono hr⟩
end
end Go.Proofs.YthkbagikmbcphaaDoor.N
namespace Go.Proofs.YthkbagikmbcphaaDoor.N
open Go Go.RowKit Go.Proofs
/-- A list that stands for a set of numbers below n. -/
def SetOk (n : Nat) (v : List Nat) : Prop := v.Pairwise (· < ·) ∧ ∀ i ∈ v, i < n
theorem SetOk.snoc {n i : Nat} {v : List Nat} (h : SetOk n v) (hi : i < n) (hv : ∀ j ∈ v, j < i) : SetOk n (v ++ [i]) := by
  refine ⟨List.pairwise_append.2 ⟨h.1, List.pairwise_singleton .., fun a ha b hb => ?_⟩, fun j hj => ?_⟩
  · rw [List.mem_singleton.1 hb]; exact hv a ha
  · rcases List.mem_append.1 hj with h1 | h1
    · exact h.2 j h1
    · rw [List.mem_singleton.1 h1]; exact hi
/-- Whatever lay from H on lies as it lay. -/
def KeepUp (H : Nat) (w w' : World) : Prop := True ∧ ∀ b, H ≤ b → b < w.heap.size → w'.heap[b]? = w.heap[b]?
theorem KeepUp.below {H : Nat} {w w1 w2 : World} (hs : w.heap.size ≤ w1.heap.size) (hb : Below w.heap.size w w1) (h : KeepUp H w1 w2) : KeepUp H w w2 :=
  ⟨trivial, fun b h1 h2 => (h.2 b h1 (by omega)).trans (hb.block b h2)⟩
theorem KeepUp.after {H : Nat} {w w1 w2 : World} (h : KeepUp H w w1) (hb : Below w1.heap.size w1 w2) : KeepUp H w w2 :=
  ⟨trivial, fun b h1 h2 => (hb.block b (by
    have h3 := h.2 b h1 h2
    rw [Array.getElem?_eq_getElem h2] at h3
    exact (Array.getElem?_eq_some_iff.1 h3).1)).trans (h.2 b h1 h2)⟩
abbrev fromV (yb nb fb : Nat) : Value := .func (.func 126) ([] : List Value).toArray [.pointer (some ⟨yb, 0, none⟩), .pointer (some ⟨nb, 0, none⟩), .pointer (some ⟨fb, 0, none⟩)].toArray
abbrev yieldV (r : Nat) : Value := .func (.yield r) #[] #[]
/-- The iterator's own variables. -/
structure ItS (n r H yb nb fb : Nat) (W1 w : World) : Prop where
  old : Below H W1 w
  size : H ≤ w.heap.size
  hy : H ≤ yb
  hf : H ≤ fb
  y : w.cell? ⟨yb, 0, none⟩ = some (yieldV r)
  n : w.cell? ⟨nb, 0, none⟩ = some (.int .i64 (n : Int))
  f : w.cell? ⟨fb, 0, none⟩ = some (fromV yb nb fb)
theorem ItS.later {n r H yb nb fb : Nat} {W1 w w' : World} (h : ItS n r H yb nb fb W1 w) (hb : Below w.heap.size w w') : ItS n r H yb nb fb W1 w' := by
  have hc : ∀ p v, w.cell? p = some v → w'.cell? p = some v := fun p v hv => (hb.cell (cell_lt hv)).trans hv
  exact ⟨h.old.trans (hb.mono h.size), Nat.le_trans h.size hb.size, h.hy, h.hf, hc _ _ h.y, hc _ _ h.n, hc _ _ h.f⟩
end Go.Proofs.YthkbagikmbcphaaDoor.N
namespace Go.Proofs.YthkbagikmbcphaaDoor.N
open Go Go.RowKit Go.Proofs
section
variable {C : Ctx} {fr : List (Nat × Value)} {hp : List Res} {pos : String} {after : Array Edge} {ty : TypeId}
theorem yld_shr {dst : Option Tmp} {x y : Operand} {t t' : TypeId} {kd ke : IntKind} {m n r : Int} (hx : ev fr x = some (.int kd m)) (hy : ev fr y = some (.int ke n)) (h0 : 0 ≤ n)
    (hr : m.fdiv (2 ^ (min n.toNat kd.bits)) = r) : Yld C ⟨dst, .binOp .shr t x y t', ty, pos, after, none⟩ fr hp (.int kd r) := by
  refine ⟨rfl, fun a w ha => ?_⟩
  simp [execOp, ha.eval hx, ha.eval hy, eqGuard, binOp, Op.shift, Int.not_lt.2 h0, hr]
theorem yld_builtin {dst : Option Tmp} {bi : Builtin} {args : Array Operand} {ts : Array TypeId} {vs : List Value} {v : Value} (hx : args.toList.map (ev fr) = vs.map some)
    (hr : ∀ (cs : Array Bool) (w : World), (builtin bi ts ty cs vs.toArray).run C.P w = .ok (.value v) w) : Yld C ⟨dst, .call { callee := .builtin bi, args := args, argTypes := ts }, ty, pos, after, none⟩ fr hp v := by
  refine ⟨rfl, fun a w ha => ?_⟩
  have := ev_args ha hx
  simp only [execOp, resolve, this, Sem.run_bind, Sem.run_pure, Result.andThen_ok, invoke]
  exact hr _ w
theorem yld_min {dst : Option Tmp} {x y : Operand} {ts : Array TypeId} {kd : IntKind} {m n : Int} (hx : ev fr x = some (.int kd m)) (hy : ev fr y = some (.int kd n)) :
    Yld C ⟨dst, .call { callee := .builtin .min, args := #[x, y], argTypes := ts }, ty, pos, after, none⟩ fr hp (.int kd (if n < m then n else m)) :=
  yld_builtin (vs := [.int kd m, .int kd n]) (by simp [hx, hy]) (fun cs w => by simp [builtin, Builtin.min_, Builtin.min2])
theorem yld_max {dst : Option Tmp} {x y : Operand} {ts : Array TypeId} {kd : IntKind} {m n : Int} (hx : ev fr x = some (.int kd m)) (hy : ev fr y = some (.int kd n)) :
    Yld C ⟨dst, .call { callee := .builtin .max, args := #[x, y], argTypes := ts }, ty, pos, after, none⟩ fr hp (.int kd (if m < n then n else m)) :=
  yld_builtin (vs := [.int kd m, .int kd n]) (by simp [hx, hy]) (fun cs w => by simp [builtin, Builtin.max_, Builtin.max2])
end
theorem cod_perm {C : Ctx} {fr : List (Nat × Value)} {hp hp' : List Res} {Q : Exit → Act → World → Prop} {c : Code} (h : hp.Perm hp') (k : Cod C c Q fr hp') : Cod C c Q fr hp := fun a w ha => k a w (ha.permed h)
theorem At.perm {C : Ctx} {fr : List (Nat × Value)} {hp hp' : List Res} {a : Act} {w : World} (ha : At C fr hp a w) (h : hp.Perm hp') : At C fr hp' a w := ha.permed h
def sumN (l : List Nat) : Nat := l.foldl (· + ·) 0
theorem sumN_fold : ∀ (l : List Nat) (n : Nat), l.foldl (· + ·) n = n + sumN l
  | [], n => rfl
  | x :: l, n => by
    show l.foldl (· + ·) (n + x) = n + l.foldl (· + ·) (0 + x)
    rw [sumN_fold l (n + x), sumN_fold l (0 + x)]
    omega
theorem sumN_cons (x : Nat) (l : List Nat) : sumN (x :: l) = x + sumN l := by
  show l.foldl (· + ·) (0 + x) = _
  rw [sumN_fold]; omega
theorem sumN_append (l m : List Nat) : sumN (l ++ m) = sumN l + sumN m := by
  unfold sumN
  rw [List.foldl_append, sumN_fold]
  rfl
theorem sumN_take (l : List Nat) (k : Nat) : sumN (l.take k) ≤ sumN l := by
  have h := List.take_append_drop k l
  have h2 := sumN_append (l.take k) (l.drop k)
  rw [h] at h2
  omega
end Go.Proofs.YthkbagikmbcphaaDoor.N
namespace Go.Proofs.YthkbagikmbcphaaDoor.N
open Go Go.RowKit Go.Proofs
theorem RdL.cast {w : World} {A : Option Addr} {l : List Nat} (h : RdL ncell 1 w A l) : RdL icell 1 w A (l.map fun (n : Nat) => (n : Int)) := fun hl => by
  obtain ⟨b, o, h1, h2, h3⟩ := h (by simpa using hl)
  refine ⟨b, o, h1, h2, fun k x hk j u hu => ?_⟩
  rw [List.getElem?_map] at hk
  obtain ⟨n, hn, rfl⟩ := Option.map_eq_some_iff.1 hk
  exact h3 k n hn j u hu
theorem eq_ints_ne {l m : List Int} {k : Nat} {x y : Int} (hx : l[k]? = some x) (hy : m[k]? = some y) (h : x ≠ y) : l ≠ m := fun e => by
  subst e
  rw [hx] at hy
  exact h (Option.some.inj hy)
theorem eq_ints_end {l m : List Int} {k : Nat} (h1 : k ≤ l.length) (_h2 : k ≤ m.length) (ht : l.take k = m.take k) (hk : ¬ (k < l.length ∧ k < m.length)) : decide ((l.length : Int) = (m.length : Int)) = decide (l = m) := by
  by_cases e : l.length = m.length
  · have hk1 : k = l.length := by omega
    have : l = m := by
      rw [List.take_of_length_le (by omega), List.take_of_length_le (by omega)] at ht
      exact ht
    simp [this]
  · have : l ≠ m := fun h => e (by rw [h])
    simp [this]
    omega
theorem take_eq_succ {l m : List Int} {k : Nat} {x : Int} (ht : l.take k = m.take k) (hx : l[k]? = some x) (hy : m[k]? = some x) : l.take (k + 1) = m.take (k + 1) := by
  rw [List.take_add_one, List.take_add_one, ht, hx, hy]
end Go.Proofs.YthkbagikmbcphaaDoor.N
namespace Go.Proofs.YthkbagikmbcphaaDoor.N
open Go Go.RowKit Go.Proofs
theorem u64_some (z : Int) : ∃ m : Nat, m < 18446744073709551616 ∧ IntKind.u64.wrap z = (m : Int) := by
  refine ⟨(IntKind.u64.wrap z).toNat, ?_, ?_⟩
  · simp [IntKind.wrap, IntKind.signed, IntKind.bits]
    omega
  · simp [IntKind.wrap, IntKind.signed, IntKind.bits]
    omega
theorem xor64 {a b : Nat} (ha : a < 18446744073709551616) (hb : b < 18446744073709551616) : a ^^^ b < 18446744073709551616 := Nat.xor_lt_two_pow (n := 64) ha hb
theorem shr64 {a : Nat} (k : Nat) (ha : a < 18446744073709551616) : a >>> k < 18446744073709551616 := Nat.lt_of_le_of_lt (by rw [Nat.shiftRight_eq_div_pow]; exact Nat.div_le_self _ _) ha
theorem wrap_u64_succ {m : Nat} (h : m < 18446744073709551615) : IntKind.u64.wrap ((m : Int) + 1) = ((m + 1 : Nat) : Int) := by
  have := wrap_u64 (m + 1) (by omega)
  simpa using this
theorem tmod_nat (x m : Nat) : (x : Int).tmod ((m : Nat) : Int) = ((x % m : Nat) : Int) := (Int.ofNat_tmod x m).symm
end Go.Proofs.YthkbagikmbcphaaDoor.N
namespace Go.Proofs.YthkbagikmbcphaaDoor.N
open Go Go.RowKit Go.Proofs
/-- A block pulled to the front. -/
class Pul (b : Nat) (o : outParam Obj) (hp : List Res) (T : outParam (List Res)) : Prop where
  perm : hp.Perm (.blk b o :: T)
instance Pul.tail (b : Nat) (o : Obj) (x : Res) (l T : List Res) [h : Pul b o l T] : Pul b o (x :: l) (x :: T) := ⟨(h.perm.cons x).trans (.swap _ _ _)⟩
instance Pul.head (b : Nat) (o : Obj) (l : List Res) : Pul b o (.blk b o :: l) l := ⟨.refl _⟩
section
variable {C : Ctx} {fr : List (Nat × Value)} {hp hp' : List Res} {a : Act} {w : World} {ops : Array Oper} {Q : Exit → Act → World → Prop} {rest : List Oper}
  {d : Nat} {ty : TypeId} {pos : String} {after : Array Edge}
theorem lst_call_pul {X : Type} (b : Nat) {o : Obj} (o' : X → Obj) {T : List Res} {f : FuncId} {vs : List Value} {args : Array Operand} {ts : Array TypeId} (p : X → Prop) (val : X → Value) [hq : Pul b o hp T] (hd : Nat.blt d C.N = true)
    (hargs : args.toList.map (ev fr) = vs.map some) (hf : Enters C.P f)
    (hc : ∀ a w, At C fr (.blk b o :: T) a w → Calls C.P f vs.toArray w fun e w' => ∃ y, p y ∧ e = .returned (val y) ∧ At C fr (.blk b (o' y) :: T) a w')
    (k : ∀ y, p y → Lst C ops Q rest ((d, val y) :: fr) (.blk b (o' y) :: T)) : Lst C ops Q (⟨some d, .call { callee := .value (.func f), args := args, argTypes := ts }, ty, pos, after, none⟩ :: rest) fr hp := by
  refine lst_call (first := []) (cap := []) (p := p) (val := val) (rs := fun y => .blk b (o' y) :: T) hd rfl hargs hf (fun a w ha => ?_) k
  simp only [List.nil_append, List.append_nil]
  exact hc a w (ha.permed hq.perm)
end
/-- The hat. -/
def hatO (nA : Option Addr) (n nc tk st : Nat) : Obj := .cells [.slice nA n nc, .int .i64 (tk : Int), .int .u64 (st : Int)].toArray 52 (0, 0)
end Go.Proofs.YthkbagikmbcphaaDoor.N
namespace Go.Proofs.YthkbagikmbcphaaDoor.N
open Go Go.RowKit Go.Proofs
section
variable {C : Ctx} {fr : List (Nat × Value)} {hp hp' hpT : List Res} {a : Act} {w : World} {ops : Array Oper} {Q : Exit → Act → World → Prop} {rest : List Oper}
  {d : Nat} {ty : TypeId} {pos : String} {after : Array Edge} {r : Nat} {S : World → Prop} {fuel : Nat} {listed listed' : Array Bool}

/-- The same slots, on ground of its own. -/
abbrev Ctx.here (C : Ctx) (w : World) : Ctx := ⟨C.P, w.heap.size, w, C.N, C.ds⟩
/-! A call that comes back in one of two ways. -/
/-! Drawn regions under a condition of one's own. -/
/-! A region in which yield is called. -/
def LstW (C : Ctx) (ops : Array Oper) (Q : Exit → Act → World → Prop) (l : List Oper) (fr : List (Nat × Value)) (hp : List Res) : Prop := ∀ a w, At C fr hp a w → wpListIn Fence.wide 0 C.P ops Q l a w
theorem lstW_nil (k : Ex C Q .normal fr hp) : LstW C ops Q [] fr hp := fun a w ha => wpListIn_nil (k a w ha)
theorem lstW_yld {o : Oper} {v : Value} (hdst : o.dst = some d) (hd : Nat.blt d C.N = true) (y : Yld C o fr hp v) (k : LstW C ops Q rest ((d, v) :: fr) hp) : LstW C ops Q (o :: rest) fr hp := by
  intro a w ha
  refine wpListIn_plain y.1 fun K hK => ?_
  refine ⟨fun _ _ => trivial, ?_⟩
  rw [show Fence.wide.round = none from rfl, Oper.semAt_none, y.2 a w ha]
  show K (a.put o.dst v) w
  rw [hdst]
  exact hK _ _ (k _ _ (ha.put (lt_of_blt hd) _))
theorem lstW_yield {x : Operand} {vs : List Value} {args : Array Operand} {ts : Array TypeId} {M : World → Prop} (pT : Prop) (hd : Nat.blt d C.N = true)
    (hx : ev fr x = some (.func (.yield r) #[] #[])) (hargs : args.toList.map (ev fr) = vs.map some)
    (hc : ∀ a w, At C fr hp a w → YieldAt Fence.wide 0 C.P r vs.toArray w fun e w' => (e = .returned (.bool true) ∧ pT ∧ At C fr hpT a w') ∨ (e = .returned (.bool false) ∧ M w'))
    (kT : pT → LstW C ops Q rest ((d, .bool true) :: fr) hpT) (kF : ∀ w', M w' → LstW (C.here w') ops Q rest ((d, .bool false) :: fr) []) :
    LstW C ops Q (⟨some d, .call { callee := .value x, args := args, argTypes := ts }, ty, pos, after, none⟩ :: rest) fr hp := by
  intro a w ha
  refine wpListIn_plain rfl fun K hK => ?_
  refine ⟨fun _ _ => trivial, ?_⟩
  obtain ⟨fn, tmps, assign, body, hy, hR⟩ := hc a w ha
  have hr : (execOp a.eval ⟨some d, .call { callee := .value x, args := args, argTypes := ts }, ty, pos, after, none⟩).run C.P w = .ok (.round r fn tmps assign body) w := by
    simp only [execOp, resolve, ev_args ha hargs, ha.eval hx, Deferred.ofValue, Sem.run_bind, Sem.run_pure, Result.andThen_ok, invoke, List.append_toArray]
    simpa using hy
  rw [show Fence.wide.round = none from rfl, Oper.semAt_none, hr]
  refine ⟨fun hd => by simp [Fence.wide] at hd, hR.mono ?_⟩
  rintro e w' (⟨rfl, h1, h2⟩ | ⟨rfl, h2⟩)
  · exact hK _ _ (kT h1 _ _ (h2.put (lt_of_blt hd) _))
  · have h3 : At (C.here w') fr [] a w' := ⟨ha.size, ha.defs, ha.slots, Below.refl _ _, Nat.le_refl _, (fun r hr => by cases hr), List.nodup_nil⟩
    exact hK _ _ (kF w' h2 _ _ (h3.put (lt_of_blt hd) _))

/-! The statement. -/
/-- The record of a loop that has begun. -/
abbrev recOf (fn : FuncId) (a : Act) (ps : Array Tmp) (assign body : Code) (D : Nat) (st : LoopState) (pe : Option Code) : Loop := { state := st, pending := pe, fn, tmps := a.tmps, params := ps, assign, body, defers := D }
theorem cod_range {g : Operand} {ps : Array Tmp} {assign body : Code} {gf : FuncId} {lb : List Value} (hg : ev fr g = some (.func (.func gf) #[] lb.toArray)) (he : Enters C.P gf)
    (h : ∀ a w, At C fr hp a w → ∀ fn, Calls C.P gf (#[.func (.yield (w.heap.size + 1)) #[] #[]] ++ lb.toArray) ((w.alloc (.deferred (some []))).alloc (.loop (recOf fn a ps assign body w.heap.size .ready none))) fun e w3 =>
      (∃ v, e = .returned v) ∧ ∃ st pe, st ≠ .busy ∧ w3.heap[w.heap.size + 1]? = some (.loop (recOf fn a ps assign body w.heap.size st pe)) ∧
        (pe = none ∧ Q .normal { a with defers := { target := .collected w.heap.size, args := #[] } :: a.defers } (w3.putObj (w.heap.size + 1) (.loop (recOf fn a ps assign body w.heap.size .exhausted pe))) ∨
         pe = some .ret ∧ Q .ret { a with defers := { target := .collected w.heap.size, args := #[] } :: a.defers } (w3.putObj (w.heap.size + 1) (.loop (recOf fn a ps assign body w.heap.size .exhausted pe))))) :
    Cod C (.rangeFunc g ps assign body) Q fr hp := by
  intro a w ha
  refine wpIn_wide.1 (wpIn_rangeFunc ?_ : Code.wpIn Fence.wide 0 C.P _ Q a w)
  intro fn _
  obtain ⟨W1, hW1⟩ : ∃ W1, W1 = (w.alloc (.deferred (some []))).alloc (.loop (recOf fn a ps assign body w.heap.size .ready none)) := ⟨_, rfl⟩
  refine ⟨w.heap.size + 1, [{ target := .collected w.heap.size, args := #[] }], W1, { target := .fn (.func gf) lb.toArray, args := #[.func (.yield (w.heap.size + 1)) #[] #[]] }, W1, gf,
    #[.func (.yield (w.heap.size + 1)) #[] #[]] ++ lb.toArray, W1, ?_, ?_, fun _ _ => trivial, ?_, fun hd => by simp [Fence.wide] at hd, ?_⟩
  · rw [hW1]; exact run_enterLoop_outer fn a.tmps ps assign body
  · simp only [resolve, ha.eval hg]
    simp [go_sem]
  · simp only [invoke]
    have e : (callFunc gf (#[.func (.yield (w.heap.size + 1)) #[] #[]] ++ lb.toArray)).run C.P W1 = .ok (.enter gf (#[.func (.yield (w.heap.size + 1)) #[] #[]] ++ lb.toArray)) W1 := he _ _
    simpa using e
  · rw [hW1]
    refine callsIn_wide.2 ((h a w ha fn).mono ?_)
    rintro e w3 ⟨⟨v, rfl⟩, st, pe, hst, hl, hq⟩
    refine ⟨pe, _, run_endLoop hl hst, ?_⟩
    rcases hq with ⟨rfl, hq⟩ | ⟨rfl, hq⟩
    · exact hq
    · exact wpIn_ret hq
end
end Go.Proofs.YthkbagikmbcphaaDoor.N
