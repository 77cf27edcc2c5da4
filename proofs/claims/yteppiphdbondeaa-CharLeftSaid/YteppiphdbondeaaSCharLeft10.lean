/- Parts of the walk of the law CharLeft: Sx7, ChA, ChG, T29, T30, ChU, ChY, T31, T32, T33, ChAA, T34, ChD, ChAB, ChAC, T36, ChRow, RowC, RowC2. -/
import Derived.Test.YteppiphdbondeaaSCharLeft09
import Derived.Test.YteppiphdbondeaaSCharLeft05
import Derived.DeepKeys3
import Derived.Test.YteppiphdbondeaaSCharLeft08
import Derived.Test.YteppiphdbondeaaProg
import Derived.Test.YteppiphdbondeaaSCharLeft03
import Derived.Test.YteppiphdbondeaaRows
import Derived.ChangeSame
import Derived.ChangeVars
import Derived.JoinedOf
import Derived.RowKit
import Derived.RowKitTokens
import Derived.WitnessAt
import Derived.Stop.Joined
import Derived.ProofKit
import Derived.SizedLaws
import Derived.OpenShut
import Derived.Conc.Holds
namespace Go.Proofs.Yteppiphdbondeaa.N
open Go Go.RowKit Go.Proofs
set_option linter.unusedSectionVars false
variable [I : Sys]
variable {C : Ctx} {fr : List (Nat × Value)} {hp : List Res} {ops : Array Oper} {Q : Exit -> Act -> World -> Prop} {rest : List Oper} {d : Nat} {ty : TypeId} {pos : String} {after : Array Edge}
theorem zCx {α : Type} {cells : α -> List Value} {size : Nat} (hs : ∀ x, (cells x).length = size) (l : List α) : (l.flatMap cells).length = l.length * size := by
 induction l with
 | nil => simp
 | cons x l ih => rw [List.flatMap_cons, List.length_append, hs, ih, List.length_cons, Nat.succ_mul]; omega
theorem RdL.cells_at {α : Type} {cells : α -> List Value} {size : Nat} (hs : ∀ x, (cells x).length = size) (h0 : 0 < size) {w : World} {p : Addr} {l : List α} (h : RdL cells size w (some p) l) {j : Nat} {u : Value} (hu : (l.flatMap cells)[j]? = some u) : w.cell? (p.add j) = some u := by
 have hj : j < l.length * size := by
  rw [<- zCx hs]
  rcases Nat.lt_or_ge j (l.flatMap cells).length with h1 | h1
  ·exact h1
  ·rw [List.getElem?_eq_none h1] at hu; cases hu
 have hk : j / size < l.length := Nat.div_lt_of_lt_mul (by rw [Nat.mul_comm]; exact hj)
 obtain ⟨b, o, h1, _, h3⟩ := h (Nat.lt_of_le_of_lt (Nat.zero_le _) hk)
 cases h1
 have hd := Nat.div_add_mod j size
 rw [Nat.mul_comm] at hd
 have hm : j % size < size := Nat.mod_lt _ h0
 have hx : l[j / size]? = some l[j / size] := List.getElem?_eq_getElem hk
 have hjs : j % size < (cells l[j / size]).length := by rw [hs]; exact hm
 have hc : (cells l[j / size])[j % size]? = some (cells l[j / size])[j % size] := List.getElem?_eq_getElem hjs
 have h4 := zC0 hs l _ _ hx _ _ hc
 rw [hd, hu] at h4
 have h5 := h3 _ _ hx _ _ hc
 rw [xB]
 rw [Nat.add_assoc, hd] at h5
 rw [h5]
 exact h4.symm
theorem zCc {α : Type} {cells : α -> List Value} {x y : Operand} {t e : TypeId} {A : Option Addr} {p : Addr} {n c m cb size bytes : Nat} {xs : List Value} {l : List α} {z : Value} {hp' : Option Addr -> Nat -> List Res} (hd : Nat.blt d C.N = true)
  (hx : ev fr x = some (.slice A n c)) (hy : ev fr y = some (.slice (some p) m cb)) (ht : C.P.underlying t = some (.slice e)) (hi : TI C.P e z size bytes) (hzs : z.cells.size = size) (hs0 : Nat.blt 0 size = true) (hs : ∀ x, (cells x).length = size) (ho1 : ∀ x, ∀ u ∈ cells x, u.oneCell' = true)
  (hnews : ∀ a w, At C fr hp a w -> RdL cells size w (some p) l) (hl : l.length = m) [hr : InR A e size n c xs hp] [hu : ∀ A' c', UpR A e size n c xs (.row e size A' (n + m) c' (xs ++ l.flatMap cells)) hp (hp' A' c')]
  (h63 : n + m <= maxLen) (hbytes : (n + m) * bytes <= 140737488355328)
  (k : ∀ A' c', Lst C ops Q rest ((d, .slice A' (n + m) c') :: fr) (hp' A' c')) :
  Lst C ops Q (⟨some d, .call { callee := .builtin .append, args := #[x, y], argTypes := #[t, t] }, ty, pos, after, none⟩ :: rest) fr hp := by
 have ho : ∀ u ∈ l.flatMap cells, u.oneCell' = true := by
  intro u hu'
  obtain ⟨x, _, hx⟩ := List.mem_flatMap.1 hu'
  exact ho1 x u hx
 have hi' := hi
 obtain ⟨i, hi1, hi2, hi3, hi4⟩ := hi'
 have h0 := jX hs0
 subst hi4
 refine zEr hd hx hy ht hi hzs hs0 (fun a w ha j u hu => (hnews a w ha).cells_at hs h0 hu) (by rw [zCx hs, hl]) ho (fun w v' w' hown hn hrun => ?_) h63 hbytes k
 exact zCf ht hi1 hi2 (hi3 ▸ hown) (by rw [zCx hs, hi3, hl]) hn ho h63 hbytes hrun
end Go.Proofs.Yteppiphdbondeaa.N
namespace Go.Proofs.Yteppiphdbondeaa.N
open Go Go.RowKit Go.Proofs
set_option linter.unusedSectionVars false
theorem zFk {a b c d e f : Nat} (h1 : cless a b c d = false) (h2 : cless c d e f = false) : cless a b e f = false := by
 unfold cless at *
 simp only [decide_eq_false_iff_not, not_or, not_and] at *
 omega
theorem zD5 (a b : Nat) : cless a b a b = false := by
 unfold cless
 simp
theorem zW4 {a b c d : Nat} (h : cless a b c d = true) : cless c d a b = false := by
 unfold cless at *
 simp only [decide_eq_true_eq, decide_eq_false_iff_not, not_or, not_and] at *
 omega
theorem zWn {a b c d x y : Nat} : cless (a + x) (b + y) (c + x) (d + y) = cless a b c d := by
 unfold cless
 rw [decide_eq_decide]
 omega
theorem zI6 (o x : Oc) : (lst2 o x).is = (o.is || x.is) := by
 unfold lst2 oless
 cases ho : o.is <;> cases hx : x.is <;> simp [ho, hx] <;> split <;> simp_all
theorem zPu (o x : Oc) : lst2 o x = o ∨ lst2 o x = x ∧ x.is = true := by
 unfold lst2
 split
 ·rename_i h
  unfold oless at h
  exact .inr ⟨rfl, by simp at h; exact h.1⟩
 ·exact .inl rfl
theorem zT8 {o x : Oc} (h : o.is = true) : cless o.f o.w (lst2 o x).f (lst2 o x).w = false := by
 unfold lst2
 split
 ·rename_i h2
  unfold oless at h2
  simp [h] at h2
  exact zW4 h2.2
 ·exact zD5 ..
theorem zUb {o x : Oc} (h : x.is = true) : cless x.f x.w (lst2 o x).f (lst2 o x).w = false := by
 unfold lst2
 split
 ·exact zD5 ..
 ·rename_i h2
  unfold oless at h2
  simp [h] at h2
  exact h2.2
theorem zIy (g : List Nat -> Oc) : ∀ (ls : List (List Nat)) (o : Oc), (ls.foldl (fun o l => lst2 o (g l)) o).is = (o.is || ls.any fun l => (g l).is)
 | [], o => by simp
 | l :: ls, o => by rw [List.foldl_cons, zIy g ls, zI6, List.any_cons, Bool.or_assoc]
theorem zJ2 (g : List Nat -> Oc) : ∀ (ls : List (List Nat)) (o : Oc), ls.foldl (fun o l => lst2 o (g l)) o = o ∨ ∃ l ∈ ls, (g l).is = true ∧ ls.foldl (fun o l => lst2 o (g l)) o = g l
 | [], o => .inl rfl
 | l :: ls, o => by
  rw [List.foldl_cons]
  rcases zJ2 g ls (lst2 o (g l)) with h | ⟨x, hx, h1, h2⟩
  ·rw [h]
   rcases zPu o (g l) with h | ⟨h, h3⟩
   ·exact .inl h
   ·exact .inr ⟨l, by simp, h3, h⟩
  ·exact .inr ⟨x, by simp [hx], h1, h2⟩
theorem zLk (g : List Nat -> Oc) : ∀ (ls : List (List Nat)) (o : Oc), o.is = true -> cless o.f o.w (ls.foldl (fun o l => lst2 o (g l)) o).f (ls.foldl (fun o l => lst2 o (g l)) o).w = false
 | [], o, _ => zD5 ..
 | l :: ls, o, h => zFk (zT8 h) (zLk g ls (lst2 o (g l)) (by rw [zI6, h]; rfl))
theorem zLu (g : List Nat -> Oc) : ∀ (ls : List (List Nat)) (o : Oc) (l : List Nat), l ∈ ls -> (g l).is = true -> cless (g l).f (g l).w (ls.foldl (fun o l => lst2 o (g l)) o).f (ls.foldl (fun o l => lst2 o (g l)) o).w = false
 | l :: ls, o, x, hx, h => by
  rw [List.foldl_cons]
  rcases List.mem_cons.1 hx with rfl | hx
  ·exact zFk (zUb h) (zLk g ls _ (by rw [zI6, h]; simp))
  ·exact zLu g ls _ x hx h
section
variable (alw : Nat -> List Nat -> Bool) (las : Mor -> Bool) (fs : List Flt) (kiln : Nat) (days : List Nat)
inductive Pth : Nat -> Mor -> List (List Nat) -> Nat -> Nat -> Prop
 | last {m : Mor} : las m = true -> Pth 0 m [] 0 0
 | day {n : Nat} {m m1 : Mor} {acts : List Nat} {p : List (List Nat)} {f w : Nat} : acts ∈ exts [] fs.length -> alw (days.length - (n + 1)) acts = true -> dayE fs kiln m acts (days.getD (days.length - (n + 1)) 0) = (0, m1) -> Pth n m1 p f w -> Pth (n + 1) m (acts :: p) (f + spF acts) (w + spW acts)
end
section
variable {alw : Nat -> List Nat -> Bool} {las : Mor -> Bool} {fs : List Flt} {kiln : Nat} {days : List Nat}
theorem zU4 {rec : Mor -> Oc} {d : Nat} {m : Mor} {l : List Nat} (h : (stpO alw fs kiln days rec d m l).is = true) :
  alw d l = true ∧ ∃ m1, dayE fs kiln m l (days.getD d 0) = (0, m1) ∧ (rec m1).is = true ∧ stpO alw fs kiln days rec d m l = ⟨(rec m1).f + spF l, (rec m1).w + spW l, true⟩ := by
 unfold stpO at h ⊢
 split at h
 ·cases h
 ·rename_i h1
  split at h
  ·cases h
  ·rename_i h2
   rw [if_neg h1, if_neg h2]
   refine ⟨by simpa using h1, _, Prod.ext (by simpa using h2) rfl, h, ?_⟩
   dsimp only at h
   rw [h]
theorem zUt {rec : Mor -> Oc} {d : Nat} {m m1 : Mor} {l : List Nat} (h1 : alw d l = true) (h2 : dayE fs kiln m l (days.getD d 0) = (0, m1)) : stpO alw fs kiln days rec d m l = ⟨(rec m1).f + spF l, (rec m1).w + spW l, (rec m1).is⟩ := by
 unfold stpO
 rw [if_neg (by simp [h1]), if_neg (by rw [h2]; simp), h2]
theorem zGv : ∀ (n : Nat) (m : Mor), (bstO alw las fs kiln days n m).is = true -> ∃ p, Pth alw las fs kiln days n m p (bstO alw las fs kiln days n m).f (bstO alw las fs kiln days n m).w
 | 0, m, h => ⟨[], .last h⟩
 | n + 1, m, h => by
  rcases zJ2 (fun l => stpO alw fs kiln days (bstO alw las fs kiln days n) (days.length - (n + 1)) m l) (exts [] fs.length) noOc with e | ⟨l, hl, h1, e⟩
  ·have e' : bstO alw las fs kiln days (n + 1) m = noOc := e
   rw [e'] at h
   cases h
  ·have e' : bstO alw las fs kiln days (n + 1) m = stpO alw fs kiln days (bstO alw las fs kiln days n) (days.length - (n + 1)) m l := e
   obtain ⟨h2, m1, h3, h4, h5⟩ := zU4 h1
   rw [e', h5]
   obtain ⟨p, hp⟩ := zGv n m1 h4
   exact ⟨l :: p, .day hl h2 h3 hp⟩
theorem zJs {n : Nat} {m : Mor} {p : List (List Nat)} {f w : Nat} (h : Pth alw las fs kiln days n m p f w) : (bstO alw las fs kiln days n m).is = true ∧ cless f w (bstO alw las fs kiln days n m).f (bstO alw las fs kiln days n m).w = false := by
 induction h with
 | last h => exact ⟨h, zD5 ..⟩
 | @day n m m1 acts p f w h1 h2 h3 h4 ih =>
  obtain ⟨i1, i2⟩ := ih
  have e := zUt (rec := bstO alw las fs kiln days n) h2 h3
  have his : (stpO alw fs kiln days (bstO alw las fs kiln days n) (days.length - (n + 1)) m acts).is = true := by rw [e]; exact i1
  constructor
  ·show ((exts [] fs.length).foldl (fun o l => lst2 o (stpO alw fs kiln days (bstO alw las fs kiln days n) (days.length - (n + 1)) m l)) noOc).is = true
   rw [zIy, List.any_eq_true.2 ⟨acts, h1, his⟩, Bool.or_true]
  ·refine zFk ?_ (zLu (fun l => stpO alw fs kiln days (bstO alw las fs kiln days n) (days.length - (n + 1)) m l) (exts [] fs.length) noOc acts h1 his)
   rw [e]
   dsimp only
   rw [zWn]
   exact i2
def Wy (fs : List Flt) (kiln : Nat) : List Nat -> Mor -> Mor -> Prop
 | [], m, x => x = m
 | d :: ds, m, x => ∃ acts ∈ exts [] fs.length, ∃ m1, dayE fs kiln m acts d = (0, m1) ∧ Wy fs kiln ds m1 x
theorem zOy : ∀ (ds : List Nat) (S : Mor -> Prop) (x : Mor), ds.foldl (stp fs kiln) S x ↔ ∃ m, S m ∧ Wy fs kiln ds m x
 | [], S, x => ⟨fun h => ⟨x, h, rfl⟩, by rintro ⟨m, h, rfl⟩; exact h⟩
 | d :: ds, S, x => by
  rw [List.foldl_cons, zOy ds]
  constructor
  ·rintro ⟨m1, ⟨m, hm, acts, ha, h1⟩, h2⟩
   exact ⟨m, hm, acts, ha, m1, h1, h2⟩
  ·rintro ⟨m, hm, acts, ha, m1, h1, h2⟩
   exact ⟨m1, ⟨m, hm, acts, ha, h1⟩, h2⟩
theorem zZr {x : Mor} : Rch fs kiln days x ↔ Wy fs kiln days (start fs) x := by
 unfold Rch
 rw [zOy]
 constructor
 ·rintro ⟨m, rfl, h⟩; exact h
 ·intro h; exact ⟨_, rfl, h⟩
theorem zJt {n : Nat} (h : n + 1 <= days.length) : days.drop (days.length - (n + 1)) = days.getD (days.length - (n + 1)) 0 :: days.drop (days.length - n) := by
 rw [List.drop_eq_getElem_cons om, List.getD_eq_getElem?_getD, List.getElem?_eq_getElem om, show days.length - (n + 1) + 1 = days.length - n from by omega]
 rfl
theorem zLs : ∀ (n : Nat), n <= days.length -> ∀ (m : Mor), (∃ p f w, Pth (fun _ _ => true) las fs kiln days n m p f w) ↔ ∃ x, Wy fs kiln (days.drop (days.length - n)) m x ∧ las x = true
 | 0, _, m => by
  rw [Nat.sub_zero, List.drop_length]
  constructor
  ·rintro ⟨p, f, w, h⟩
   cases h
   rename_i h
   exact ⟨m, rfl, h⟩
  ·rintro ⟨x, rfl, h⟩
   exact ⟨_, _, _, .last h⟩
 | n + 1, hn, m => by
  rw [zJt hn]
  constructor
  ·rintro ⟨p, f, w, h⟩
   cases h
   rename_i m1 acts p f w h1 h2 h4 h3
   obtain ⟨x, hx, hl⟩ := (zLs n om m1).1 ⟨_, _, _, h4⟩
   exact ⟨x, ⟨acts, h1, m1, h3, hx⟩, hl⟩
  ·rintro ⟨x, ⟨acts, h1, m1, h3, hx⟩, hl⟩
   obtain ⟨p, f, w, h4⟩ := (zLs n om m1).2 ⟨x, hx, hl⟩
   exact ⟨_, _, _, .day h1 rfl h3 h4⟩
theorem zPh : (bstO (fun _ _ => true) las fs kiln days days.length (start fs)).is = true ↔ ∃ x, Rch fs kiln days x ∧ las x = true := by
 have h := zLs (las := las) (fs := fs) (kiln := kiln) (days := days) days.length (Nat.le_refl _) (start fs)
 rw [Nat.sub_self, List.drop_zero] at h
 constructor
 ·intro hb
  obtain ⟨p, hp⟩ := zGv _ _ hb
  obtain ⟨x, h1, h2⟩ := h.1 ⟨_, _, _, hp⟩
  exact ⟨x, zZr.2 h1, h2⟩
 ·rintro ⟨x, h1, h2⟩
  obtain ⟨p, f, w, hp⟩ := h.2 ⟨x, zZr.1 h1, h2⟩
  exact (zJs hp).1
theorem zWg : (bstA fs kiln days).is = true ↔ ∃ x, Rch fs kiln days x := by
 unfold bstA
 rw [zPh]
 simp
end
theorem Grew.less {w w' : World} {rs : List Res} (h : Grew w w' rs) : Grew w w' [] := ⟨h.1, fun _ h => by simp at h, by simp⟩
theorem zUq (x : Flt) : x.cells.length = 4 := rfl
theorem zWt (x : Flt) : ∀ u ∈ x.cells, u.oneCell' = true := by
 intro u hu
 simp [Flt.cells] at hu
 rcases hu with h | h | h | h <;> subst h <;> simp [Value.oneCell']
theorem zY5 (x : Nat) : ∀ u ∈ ncell x, u.oneCell' = true := by
 intro u hu
 simp [ncell] at hu
 subst hu
 simp [Value.oneCell']
def oF (o : Oc) : Nat := if o.is then o.f else 0
def oE (o : Oc) : Nat := if o.is then 0 else 11
section
variable [I : Sys] {C : Ctx} {fr : List (Nat × Value)} {hp : List Res} {a : Act} {w : World}
theorem zRn (ha : At C fr hp a w) {A : Option Addr} {fs : List Flt} {n c : Nat} {xs : List Value} (hr : Res.row 49 4 A n c xs ∈ hp) : Lendy w A fs ∨ n = 0 := by
 have h := ha.own _ hr
 rcases h.2 with ⟨_, h2⟩ | ⟨g, cap, cur, hv, h1, h2, h3, _, h5, _⟩
 ·exact .inr h2
 ·rcases Nat.eq_zero_or_pos n with h0 | h0
  ·exact .inr h0
  ·injection hv with e1 _ _
   exact .inl fun _ => ⟨g, 0, none, _, _, e1, h2, by omega⟩
theorem zSm (ha : At C fr hp a w) {A : Option Addr} {fs : List Flt} {n c : Nat} {xs : List Value} (hn : 0 < n) [hr : InR A 49 4 n c xs hp] : Lendy w A fs := (zRn ha hr.mem).resolve_right (by omega)
theorem zWd (ha : At C fr hp a w) {A : Option Addr} {e size n c : Nat} {xs : List Value} [hr : InR A e size n c xs hp] : n <= c := by
 rcases (ha.own _ hr.mem).2 with ⟨h1, h2⟩ | ⟨g, cap, cur, hv, h1, h2, h3, _, h5, _⟩
 ·omega
 ·injection hv with _ _ e3
  omega
theorem wB (ha : At C fr hp a w) {A : Option Addr} {c n : Nat} {l : List Nat} [hr : InR A 3 1 n c (ints l) hp] (hn : n = l.length) : RdL ncell 1 w A l :=
 qY ha (cells := ncell) (size := 1) (e := 3) (c := c) (n := n) (l := l) (fun _ => rfl) (by rw [<- zJk]; exact hr.mem) hn
theorem wC (ha : At C fr hp a w) {A : Option Addr} {c n : Nat} {l : List Flt} [hr : InR A 49 4 n c (l.flatMap Flt.cells) hp] (hn : n = l.length) : RdL Flt.cells 4 w A l :=
 qY ha (cells := Flt.cells) (size := 4) (e := 49) (c := c) (n := n) (l := l) (fun _ => rfl) hr.mem hn
theorem zTe {l : List Oper} {ops : Array Oper} {Q : Exit -> Act -> World -> Prop} (A : Option Addr) {e size n c : Nat} {xs : List Value} [hr : InR A e size n c xs hp] (k : n <= c -> Lst C ops Q l fr hp) : Lst C ops Q l fr hp := fun a w ha => k (zWd (A := A) ha) a w ha
theorem zCm {fA dA : Option Addr} {fc dc kiln : Nat} {fs : List Flt} {days : List Nat} (hc : ChV fs kiln days) (w : World) (hF : RdL Flt.cells 4 w fA fs) (hD : RdL ncell 1 w dA days) :
  Calls Try.prog 15 #[.agg (CA fA fs.length fc kiln dA days.length dc).toArray] w fun e w' => ∃ (oA : Option Addr) (on oc : Nat), e = .returned (.tuple #[.slice oA on oc, .int .i64 ((oF (bstA fs kiln days) : Nat) : Int), .int .i64 ((oE (bstA fs kiln days) : Nat) : Int)]) ∧ Grew w w' [] := by
 refine (zMw hc w hF hD).mono ?_
 rintro e w' ⟨oA, oc, mr, hcase, hg⟩
 rcases hcase with ⟨h1, _, h3⟩ | ⟨h1, _, h3⟩
 ·exact ⟨oA, mr.length, oc, by rw [h3]; simp [oF, oE, h1], hg.less⟩
 ·exact ⟨none, 0, 0, by rw [h3]; simp [oF, oE, h1], hg.less⟩
end
end Go.Proofs.Yteppiphdbondeaa.N
namespace Go.Proofs.Yteppiphdbondeaa.N
open Go Go.RowKit Go.Proofs
set_option linter.unusedSectionVars false
variable [I : Sys]
theorem F.ent57 : Enters Try.prog 57 := jE Try.func57 rfl (by kernel_rfl)
theorem zQe {α : Type} {cells : α -> List Value} (hs : ∀ x, (cells x).length = 1) (ho : ∀ x, ∀ u ∈ cells x, u.oneCell' = true) (p : Addr) (c : Nat) (l : List α) (hl : l.length <= 400000) (w : World) (hA : RdL cells 1 w (some p) l) : Calls Try.prog 57 #[.slice (some p) l.length c] w fun e w' => ∃ A' c', e = .returned (.slice A' l.length c') ∧ Grew w w' [.row 3 1 A' l.length c' (l.flatMap cells)] := by
 refine enter (N := 6) [(0, .slice (some p) l.length c)] Try.func57 rfl Try.ntmps57 rfl rfl ?_
 refine zD (zB (zE rfl rfl (zA (zC (zD (zB (zG6 rfl Try.underlying22 F.ti3 ?_)))))))
 intro b3
 refine zD0 1 (.head _) ?_
 refine zF rfl rfl (zCc (cells := cells) rfl rfl rfl Try.underlying22 F.ti3 rfl rfl hs ho (fun a w ha => hA.later ha.below) rfl (by unfold maxLen; omega) om ?_)
 intro A1 c1
 refine zE rfl rfl (zA (zC (zW ?_)))
 simp only [Nat.zero_add, List.nil_append]
 exact jF rfl (fun a w ha => jQ rfl rfl ha) (fun a w ha => ⟨A1, c1, rfl, ha.grown sbl⟩)

theorem zRc {α β : Type} {cf : α -> List Value} {cd : β -> List Value} (hs4 : ∀ x, (cf x).length = 4) (ho4 : ∀ x, ∀ u ∈ cf x, u.oneCell' = true) (hs1 : ∀ x, (cd x).length = 1) (ho1 : ∀ x, ∀ u ∈ cd x, u.oneCell' = true) (fp dp : Addr) (fc dc : Nat) (kz : Int) (fs : List α) (days : List β) (hfl : fs.length <= 400000) (hdl : days.length <= 400000) (w : World) (hF : RdL cf 4 w (some fp) fs) (hD : RdL cd 1 w (some dp) days) : Calls Try.prog 24 #[.agg [.slice (some fp) fs.length fc, .int .i64 kz, .slice (some dp) days.length dc].toArray] w fun e w' => ∃ A c D dc', e = .returned (.agg [.slice A fs.length c, .int .i64 kz, .slice D days.length dc'].toArray) ∧ Grew w w' [.row 49 4 A fs.length c (fs.flatMap cf), .row 3 1 D days.length dc' (days.flatMap cd)] := by
 refine enter (N := 13) [(0, .agg [.slice (some fp) fs.length fc, .int .i64 kz, .slice (some dp) days.length dc].toArray)] Try.func24 rfl Try.ntmps24 rfl rfl ?_
 refine zD (zB (jR rfl rfl ?_))
 intro b1
 refine zV rfl F.ti27 ?_
 intro b2
 refine zA (zC (zD (kF [.b b2] F.follows 11 rfl [false, false, false, false, false, false, false, false, false, false, false] rfl ?_)))
 refine zG 1 rfl rfl rfl (zY rfl F.fi27_0 F.ti25) ?_
 refine zG 2 rfl rfl rfl (jV rfl F.one25) ?_
 refine zG 4 rfl rfl rfl (zY rfl F.fi27_1 F.ti3) ?_
 refine zG 5 rfl rfl rfl (jV rfl F.one3) ?_
 refine zG 6 rfl rfl rfl (zY rfl F.fi27_2 F.ti22) ?_
 refine zG 7 rfl rfl rfl (jV rfl F.one22) ?_
 refine an1 0 rfl ?_
 refine zG6 rfl Try.underlying25 F.ti49 ?_
 intro b3
 refine zD0 4 (.head _) ?_
 refine zA (anb (an1 3 rfl ?_))
 refine zCc (cells := cf) rfl rfl rfl Try.underlying25 F.ti49 rfl rfl hs4 ho4 (fun a w ha => hF.later ha.below) rfl (by unfold maxLen; omega) om ?_
 intro A2 c2
 simp only [Nat.zero_add, List.nil_append]
 refine zA (anb (an1 8 rfl ?_))
 refine kP (X := Option Addr × Nat) (vs := [_]) (p := fun _ => True) (val := fun y => .slice y.1 days.length y.2) (rs := fun y => [.row 3 1 y.1 days.length y.2 (days.flatMap cd)]) rfl rfl F.ent57 (fun a w ha => (zQe hs1 ho1 dp dc days hdl w (hD.later ha.below)).mono (fun e w' h => by obtain ⟨A', c', h1, h2⟩ := h; exact ⟨(A', c'), trivial, h1, h2⟩)) ?_
 rintro ⟨A3, c3⟩ -
 dsimp only [List.cons_append, List.nil_append]
 refine zA (anb (zG 9 rfl rfl rfl (xL (vs := [(0, _), (1, _), (2, _)]) (l' := [_, _, _]) rfl F.ti27 F.pl27 (.cons rfl rfl (.cons rfl rfl (.cons rfl rfl (.nil _)))) rfl) ?_))
 refine an1 10 rfl ?_
 refine zI rfl rfl F.ti27 rfl ?_
 refine zA (anb (adn (zC (zW ?_))))
 exact jF rfl (fun a w ha => by exact qV (ha := ha) rfl rfl F.agg27 F.ti27 rfl) (fun a w ha => ⟨A2, c2, A3, c3, rfl, (ha.pck pkk).grown (List.Sublist.refl _)⟩)

theorem zJd {fA dA : Option Addr} {fc dc kiln : Nat} {fs : List Flt} {days : List Nat} (hf1 : 1 <= fs.length) (hf3 : fs.length <= 1000) (hd1 : 1 <= days.length) (hd4 : days.length <= 1000) (w : World) (hF : RdL Flt.cells 4 w fA fs) (hD : RdL ncell 1 w dA days) :
  Calls Try.prog 24 #[.agg (CA fA fs.length fc kiln dA days.length dc).toArray] w fun e w' => ∃ A c D dc', e = .returned (.agg [.slice A fs.length c, .int .i64 (kiln : Int), .slice D days.length dc'].toArray) ∧ Grew w w' [.row 49 4 A fs.length c (fs.flatMap Flt.cells), .row 3 1 D days.length dc' (ints days)] := by
 obtain ⟨fb, fo, rfl, _, _⟩ := hF om
 obtain ⟨db, d_o, rfl, _, _⟩ := hD om
 have h := zRc zUq zWt (fun _ => rfl) zY5 ⟨fb, fo, none⟩ ⟨db, d_o, none⟩ fc dc (kiln : Int) fs days om om w hF hD
 rw [<- zJk] at h
 exact h

theorem zUn {fA dA : Option Addr} {fc dc kiln : Nat} {fs : List Flt} {days : List Nat} (hc : ChV fs kiln days) (w : World) (hF : RdL Flt.cells 4 w fA fs) (hD : RdL ncell 1 w dA days) : Calls Try.prog 25 #[.agg (CA fA fs.length fc kiln dA days.length dc).toArray] w fun e w' => e = .returned (.tuple #[.bool (bstA fs kiln days).is, .bool true]) ∧ Grew w w' [] := by
 refine enter (N := 21) [(0, .agg (CA fA fs.length fc kiln dA days.length dc).toArray)] Try.func25 rfl Try.ntmps25 rfl rfl ?_
 refine zD (zB (jR rfl rfl ?_))
 intro b1
 refine zE rfl rfl (zE rfl rfl (zA (zC (zD ?_))))
 rcases his : (bstA fs kiln days).is with _ | _
 ·refine zB (jA rfl rfl F.agg27 F.ti27 ?_)
  refine kP (X := Option Addr × Nat × Nat) (vs := [_]) (p := fun _ => True) (val := fun g => .tuple #[.slice g.1 g.2.1 g.2.2, .int .i64 ((oF (bstA fs kiln days) : Nat) : Int), .int .i64 ((oE (bstA fs kiln days) : Nat) : Int)]) (rs := fun g => []) rfl rfl F.ent15 (fun a w ha => (zCm hc w (hF.later ha.below) (hD.later ha.below)).mono (fun e w' h => by obtain ⟨oA, on, oc, h1, h2⟩ := h; exact ⟨(oA, on, oc), trivial, h1, h2⟩)) ?_
  rintro ⟨oA, on, oc⟩ -
  dsimp only [List.nil_append]
  rw [show oE (bstA fs kiln days) = 11 from by simp [oE, his]]
  refine zF rfl rfl (zO rfl rfl rfl (zO rfl rfl rfl (zO rfl rfl rfl (zE rfl rfl (zE rfl rfl (zE rfl rfl (zA (zC (zD (zB (zF rfl rfl (zJ rfl rfl rfl jO ?_))))))))))))
  refine zF rfl rfl (zJ rfl rfl rfl jO ?_)
  refine zF rfl rfl (zK rfl rfl (zF rfl rfl (zK rfl rfl (zJ rfl rfl rfl jO ?_))))
  refine jG rfl rfl rfl (zE rfl rfl (zE rfl rfl (zA (zC (zW ?_)))))
  exact jF rfl (fun a w ha => qW rfl rfl rfl ha) (fun a w ha => ⟨by rfl, ha.grown nsl⟩)
 ·refine zB (jA rfl rfl F.agg27 F.ti27 ?_)
  refine kP (X := Option Addr × Nat × Nat) (vs := [_]) (p := fun _ => True) (val := fun g => .tuple #[.slice g.1 g.2.1 g.2.2, .int .i64 ((oF (bstA fs kiln days) : Nat) : Int), .int .i64 ((oE (bstA fs kiln days) : Nat) : Int)]) (rs := fun g => []) rfl rfl F.ent15 (fun a w ha => (zCm hc w (hF.later ha.below) (hD.later ha.below)).mono (fun e w' h => by obtain ⟨oA, on, oc, h1, h2⟩ := h; exact ⟨(oA, on, oc), trivial, h1, h2⟩)) ?_
  rintro ⟨oA, on, oc⟩ -
  dsimp only [List.nil_append]
  rw [show oE (bstA fs kiln days) = 0 from by simp [oE, his]]
  refine zF rfl rfl (zO rfl rfl rfl (zO rfl rfl rfl (zO rfl rfl rfl (zE rfl rfl (zE rfl rfl (zE rfl rfl (zA (zC (zD (zB (zF rfl rfl (zJ rfl rfl rfl jO ?_))))))))))))
  refine zF rfl rfl (zJ rfl rfl rfl jO ?_)
  refine zF rfl rfl (zU rfl rfl rfl (zU rfl rfl rfl (jD rfl rfl rfl (zE rfl rfl (zE rfl rfl (zA (zC (zW ?_))))))))
  exact jF rfl (fun a w ha => qW rfl rfl rfl ha) (fun a w ha => ⟨by rfl, ha.grown nsl⟩)

theorem F.ent13 : Enters Try.prog 13 := jE Try.func13 rfl (by kernel_rfl)
theorem F.ent20 : Enters Try.prog 20 := jE Try.func20 rfl (by kernel_rfl)
theorem F.ent24 : Enters Try.prog 24 := jE Try.func24 rfl (by kernel_rfl)
theorem F.ent25 : Enters Try.prog 25 := jE Try.func25 rfl (by kernel_rfl)
end Go.Proofs.Yteppiphdbondeaa.N
namespace Go.Proofs.Yteppiphdbondeaa.N
open Go Go.RowKit Go.Proofs
set_option linter.unusedSectionVars false
section
variable [I : Sys] {C : Ctx} {fr : List (Nat × Value)} {hp hp' : List Res} {a : Act} {w : World} {ops : Array Oper} {Q : Exit -> Act -> World -> Prop} {rest : List Oper} {d : Nat} {ty : TypeId} {pos : String} {after : Array Edge}
theorem zQk {x : Operand} {f : FuncId} {first cap vs : List Value} {args : Array Operand} {ts : Array TypeId} {v : Value} (hd : Nat.blt d C.N = true)
  (hx : ev fr x = some (.func (.func f) first.toArray cap.toArray)) (hargs : args.toList.map (ev fr) = vs.map some) (hf : Enters C.P f)
  (hc : ∀ a w, At C fr hp a w -> Calls C.P f (first ++ vs ++ cap).toArray w fun e w' => e = .returned v ∧ Grew w w' [])
  (k : Lst C ops Q rest ((d, v) :: fr) hp) : Lst C ops Q (⟨some d, .call { callee := .value x, args := args, argTypes := ts }, ty, pos, after, none⟩ :: rest) fr hp :=
 qN (X := Unit) (p := fun _ => True) (val := fun _ => v) (rs := fun _ => hp) hd hx hargs hf (fun a w ha => (hc a w ha).mono fun _ _ ⟨h1, h2⟩ => ⟨(), trivial, h1, ha.more h2⟩) (fun _ _ => k)
end
section
variable {α : Type} {P : Program} {kt : TypeId} (K : KT P kt α)
variable [I : Sys] {C : Ctx} {fr : List (Nat × Value)} {hp : List Res} {ops : Array Oper} {Q : Exit -> Act -> World -> Prop} {rest : List Oper} {d : Nat} {ty : TypeId} {pos : String} {after : Array Edge}
theorem zMa {x : Operand} {b i n : Nat} {seen : Array Nat} {r : List (Nat × α × Value)} {hpf : Obj -> List Res} (hd : Nat.blt d C.N = true) (hx : ev fr x = some (.pointer (some ⟨i, 0, none⟩))) (hb : Res.blk b (K.rem r n) ∈ hp) (hG : K.Good r n)
  (hu : ∀ o, Upd (.blk i (.mapIter (some b) n seen n)) (.blk i o) hp (hpf o))
  (k0 : (∀ e ∈ r, e.1 ∈ seen) -> Lst C ops Q rest ((d, .tuple #[.bool false]) :: fr) hp)
  (k1 : ∀ e ∈ r, e.1 ∉ seen -> Lst C ops Q rest ((d, .tuple #[.bool true, K.kv e.2.1, e.2.2]) :: fr) (hpf (.mapIter (some b) n (seen.push e.1) n))) : Lst C ops Q (⟨some d, .next x false, ty, pos, after, none⟩ :: rest) fr hp := by
 refine xD rfl fun a w ha => ?_
 refine ⟨kD _ (by rw [ha.eval hx]; exact zH3 _ _), ?_⟩
 have hi := ha.own _ (hu (.map #[] 0)).mem
 have hold : ∀ x ∈ ((r.map K.ent).toArray).toList, x.born < n := by
  intro x hx
  simp only [List.mem_map] at hx
  obtain ⟨e, he, rfl⟩ := hx
  exact hG.less e he
 have hmem : ∀ x, x ∈ Go.leftOf (r.map K.ent).toArray seen ↔ ∃ e ∈ r, e.1 ∉ seen ∧ x = K.ent e := by
  intro x
  unfold Go.leftOf
  rw [Array.mem_filter]
  simp only [List.mem_toArray, List.mem_map]
  constructor
  ·rintro ⟨⟨e, he, rfl⟩, h⟩
   exact ⟨e, he, by simpa [KT.ent] using h, rfl⟩
  ·rintro ⟨e, he, h, rfl⟩
   exact ⟨⟨e, he, rfl⟩, by simpa [KT.ent] using h⟩
 rcases run_next_at (P := C.P) w ty i b n n seen (r.map K.ent).toArray n hi.2 (ha.mem_blk hb) hold (Nat.le_refl _) with ⟨h1, h2⟩ | ⟨e, he, w1, hw1, h2⟩
 ·have hr : (execOp a.eval ⟨some d, .next x false, ty, pos, after, none⟩).run C.P w = .ok (.value (.tuple #[.bool false])) w := by
   simp only [execOp, ha.eval hx, Sem.run_bind, h2]
   rfl
  rw [hr]
  refine k0 (fun e he => ?_) _ _ (ha.put (jX hd) _)
  by_cases hs : e.1 ∈ seen
  ·exact hs
  ·have := (hmem (K.ent e)).2 ⟨e, he, hs, rfl⟩
   rw [Array.eq_empty_of_size_eq_zero h1] at this
   simp at this
 ·obtain ⟨e', her, hne, rfl⟩ := (hmem e).1 (by simpa using he)
  have hr : (execOp a.eval ⟨some d, .next x false, ty, pos, after, none⟩).run C.P w = .ok (.value (.tuple #[.bool true, K.kv e'.2.1, e'.2.2])) (ChangeMaps.setBlock w1 i (.mapIter (some b) n (seen.push e'.1) n)) := by
   simp only [execOp, ha.eval hx, Sem.run_bind, h2]
   rfl
  rw [hr]
  have ha1 : At C fr hp a w1 := by
   rcases hw1 with rfl | rfl
   ·exact ha
   ·exact ha.drew
  have hi1 := ha1.own _ (hu (.map #[] 0)).mem
  have hlt : i < w1.heap.size := (Array.getElem?_eq_some_iff.1 hi1.2).1
  have ha2 : At C fr (hpf (.mapIter (some b) n (seen.push e'.1) n)) a (ChangeMaps.setBlock w1 i (.mapIter (some b) n (seen.push e'.1) n)) := by
   refine ha1.turn (hu _) ⟨rfl, rfl, rfl, by simp [ChangeMaps.setBlock], fun k _ hk => ?_⟩ ⟨hi1.1, ?_⟩ (fun k hk => .inl hk)
   ·simp only [ChangeMaps.setBlock, Array.getElem?_setIfInBounds]
    rw [if_neg (fun e => hk (by rw [e]; rfl))]
   ·simp [ChangeMaps.setBlock, hlt]
  exact k1 e' her hne _ _ (ha2.put (jX hd) _)
end
def sumM (m : Mor) : Nat := m.s.getD 0 0 + m.s.getD 1 0 + m.s.getD 2 0
structure MsI (l : List Mor) (r : List (Nat × Mor × Value)) (seen : Array Nat) (best : Int) : Prop where
 got : best = -1 ∧ seen = #[] ∨ ∃ m ∈ l, best = (sumM m : Int)
 le : ∀ e ∈ r, e.1 ∈ seen -> (sumM e.2.1 : Int) <= best
def leftN (r : List (Nat × Mor × Value)) (seen : Array Nat) : Nat := r.countP fun e => !seen.contains e.1
theorem zSz {r : List (Nat × Mor × Value)} {seen : Array Nat} {e : Nat × Mor × Value} (he : e ∈ r) (hn : e.1 ∉ seen) : leftN r (seen.push e.1) < leftN r seen := by
 unfold leftN
 induction r with
 | nil => cases he
 | cons x r ih =>
  simp only [List.countP_cons]
  have hle : ∀ (r : List (Nat × Mor × Value)), r.countP (fun y => !(seen.push e.1).contains y.1) <= r.countP (fun y => !seen.contains y.1) := fun r => List.countP_mono_left (fun y _ h => by simp at h ⊢; exact h.1)
  rcases List.mem_cons.1 he with rfl | he
  ·have h1 : (!(seen.push e.1).contains e.1) = false := by simp
   have h2 : (!seen.contains e.1) = true := by simpa using hn
   rw [h1, h2]
   have h5 := hle r
   simp only [Bool.false_eq_true, if_false, if_true]
   omega
  ·have := ih he
   have h3 : ((if (!(seen.push e.1).contains x.1) = true then 1 else 0 : Nat)) <= (if (!seen.contains x.1) = true then 1 else 0) := by
    by_cases h4 : (!(seen.push e.1).contains x.1) = true
    ·have h5 : (!seen.contains x.1) = true := by simp at h4 ⊢; exact h4.1
     rw [if_pos h4, if_pos h5]; omega
    ·rw [if_neg h4]; omega
   omega
theorem MsI.first (l : List Mor) (r : List (Nat × Mor × Value)) : MsI l r #[] (-1) := ⟨.inl ⟨rfl, rfl⟩, fun _ _ h => by simp at h⟩
theorem MsI.next {l : List Mor} {r : List (Nat × Mor × Value)} {seen : Array Nat} {best : Int} {e : Nat × Mor × Value} (h : MsI l r seen best) (he : e.2.1 ∈ l) (hd : (r.map (·.1)).Nodup) (her : e ∈ r) : MsI l r (seen.push e.1) (if best < (sumM e.2.1 : Int) then (sumM e.2.1 : Int) else best) := by
 refine ⟨.inr ?_, fun y hy hs => ?_⟩
 ·by_cases hb : best < (sumM e.2.1 : Int)
  ·rw [if_pos hb]; exact ⟨_, he, rfl⟩
  ·rw [if_neg hb]
   rcases h.got with ⟨h1, _⟩ | h1
   ·omega
   ·exact h1
 ·rw [Array.mem_push] at hs
  have hmax : best <= (if best < (sumM e.2.1 : Int) then (sumM e.2.1 : Int) else best) ∧ (sumM e.2.1 : Int) <= (if best < (sumM e.2.1 : Int) then (sumM e.2.1 : Int) else best) := by split <;> omega
  rcases hs with hs | hs
  ·have := h.le y hy hs
   omega
  ·have hye : y = e := by
    have key : ∀ (r : List (Nat × Mor × Value)), (r.map (·.1)).Nodup -> y ∈ r -> e ∈ r -> y.1 = e.1 -> y = e := by
     intro r
     induction r with
     | nil => intro _ h; cases h
     | cons x r ih =>
      intro hn hy he hq
      rw [List.map_cons, List.nodup_cons] at hn
      rcases List.mem_cons.1 hy with h1 | h1
      ·rcases List.mem_cons.1 he with h2 | h2
       ·rw [h1, h2]
       ·exact absurd (List.mem_map.2 ⟨e, h2, by rw [<- hq, h1]⟩) hn.1
      ·rcases List.mem_cons.1 he with h2 | h2
       ·exact absurd (List.mem_map.2 ⟨y, h1, by rw [hq, h2]⟩) hn.1
       ·exact ih hn.2 h1 h2 hq
    exact key r hd hy her hs
   subst hye
   exact hmax.2
def MostP (fs : List Flt) (kiln : Nat) (days : List Nat) (n e : Nat) : Prop := (e = 0 ∧ (∃ m, Rch fs kiln days m ∧ sumM m = n) ∧ ∀ m, Rch fs kiln days m -> sumM m <= n) ∨ (e = 11 ∧ n = 0 ∧ ∀ m, ¬ Rch fs kiln days m)
theorem zVp {m : Mor} (h : MOk m) : sumM m <= 12 := by
 obtain ⟨a, b, c, w, rfl, h1, h2, h3, _⟩ := h.form
 simp [sumM]
 omega
theorem zQo : exts [] 0 = [[]] := rfl
theorem zT5 (kiln : Nat) (m : Mor) (d : Nat) : dayE [] kiln m [] d = if d = 0 then (0, m) else (9, m) := by
 unfold dayE barred firesN dRun
 simp
 by_cases h : d = 0
 ·simp [h]
 ·rw [if_pos om, if_neg h]
theorem zOl {kiln : Nat} {days : List Nat} {las : Mor -> Bool} : ∀ (n : Nat), n <= days.length -> ∀ m, las m = true -> (bstO (fun _ _ => true) las [] kiln days n m).is = (days.drop (days.length - n)).all (· == 0)
 | 0, _, m, hl => by simp [bstO, hl]
 | n + 1, hn, m, hl => by
  have ih := zOl (las := las) (kiln := kiln) (days := days) n om m hl
  rw [zJt (days := days) hn, List.all_cons, <- ih]
  show ((exts [] 0).foldl (fun o l => lst2 o (stpO (fun _ _ => true) [] kiln days (bstO (fun _ _ => true) las [] kiln days n) (days.length - (n + 1)) m l)) noOc).is = _
  rw [zQo, zIy]
  simp only [List.any_cons, List.any_nil, Bool.or_false, noOc, Bool.false_or]
  unfold stpO
  rw [if_neg (by simp), zT5]
  by_cases h : days.getD (days.length - (n + 1)) 0 = 0
  ·rw [if_pos h, if_neg (by simp), h]; simp
  ·rw [if_neg h, if_pos (by simp)]
   have : (days.getD (days.length - (n + 1)) 0 == 0) = false := by simpa using h
   rw [this]; rfl
theorem zL1 {kiln : Nat} {days : List Nat} : (bstA [] kiln days).is = days.all (· == 0) := by
 have h := zOl (kiln := kiln) (las := fun _ => true) (days := days) days.length (Nat.le_refl _) (start []) rfl
 rw [Nat.sub_self, List.drop_zero] at h
 exact h
structure ChW (fs : List Flt) (kiln : Nat) (days : List Nat) : Prop where
 f3 : fs.length <= 3
 ff : ∀ f ∈ fs, FltOk f
 k3 : kiln <= 3
 d1 : 1 <= days.length
 d4 : days.length <= 4
 dd : ∀ n ∈ days, n <= 12
theorem ChV.w {fs : List Flt} {kiln : Nat} {days : List Nat} (h : ChV fs kiln days) : ChW fs kiln days := ⟨h.f3, h.ff, h.k3, h.d1, h.d4, h.dd⟩
end Go.Proofs.Yteppiphdbondeaa.N
namespace Go.Proofs.Yteppiphdbondeaa.N
open Go Go.RowKit Go.Proofs
set_option linter.unusedSectionVars false
variable [I : Sys]

theorem zQw (a b c k : Nat) (hk : k < 3) : ([a, b, c].take k).sum + [a, b, c].getD k 0 = ([a, b, c].take (k + 1)).sum := by
 rcases k with _ | _ | _ | k
 ·simp
 ·simp
 ·simp; omega
 ·omega
theorem zWk (a b c k : Nat) (ha : a <= 4) (hb : b <= 4) (hc : c <= 4) : ([a, b, c].take k).sum <= 12 := by
 rcases k with _ | _ | _ | k
 ·simp
 ·simp; omega
 ·simp; omega
 ·simp; omega
theorem zUl (a b c w : Nat) : ([a, b, c].take 3).sum = sumM ⟨[a, b, c], w⟩ := by simp [sumM]; omega

theorem zY3 (z0 z1 z2 zw : Nat) (hz0 : z0 <= 4) (hz1 : z1 <= 4) (hz2 : z2 <= 4) (w : World) : Calls Try.prog 81 #[.agg [.int .i64 (z0 : Int), .int .i64 (z1 : Int), .int .i64 (z2 : Int)].toArray] w fun e w' => e = .returned (.int .i64 ((sumM ⟨[z0, z1, z2], zw⟩ : Nat) : Int)) ∧ Grew w w' [] := by
 refine enter (N := 15) [(0, .agg [.int .i64 (z0 : Int), .int .i64 (z1 : Int), .int .i64 (z2 : Int)].toArray)] Try.func81 rfl Try.ntmps81 rfl rfl ?_
 refine zD (zB (jR rfl rfl ?_))
 intro b1
 refine zE rfl rfl (zA (zC (zD (zB (zE rfl rfl (zA (zC (zD (zD (zB (jA rfl rfl F.agg92 F.ti92 ?_)))))))))))
 refine zF rfl rfl (zA (zC (zZ (vG (G := Nat) (fun k => k <= 3) (fun k => 3 - k) (fun k => [(3, .int .i64 ((([z0, z1, z2].take k).sum : Nat) : Int)), (6, .agg [.int .i64 (z0 : Int), .int .i64 (z1 : Int), .int .i64 (z2 : Int)].toArray), (7, .int .i64 (k : Int))]) (fun k => []) 0 (Nat.zero_le _) sbn pkk ?_))))
 intro k hk
 (try dsimp only at hk ⊢)
 refine zD (zB (zJ rfl rfl rfl kJ ?_))
 refine zA (zC (zD (zP rfl (fun hc0 => ?_) (fun hc0 => ?_))))
 ·have hk3 : k < 3 := by omega
  have hs1 := zQw z0 z1 z2 k hk3
  have hs2 := zWk z0 z1 z2 (k + 1) hz0 hz1 hz2
  refine zT (zC (zD (zZ (zD (zB (zFo (j := k) rfl rfl rfl Try.underlying92 F.one3 F.ti3 rfl hk3 (zIb z0 z1 z2 k hk3) ?_))))))
  refine zE rfl rfl (zA (zC (zB (zF rfl rfl (zF rfl rfl (zJ (v := .int .i64 ((([z0, z1, z2].take (k + 1)).sum : Nat) : Int)) rfl rfl rfl (fun w => jN w (by rw [<- hs1]; rw [jC _ om om]; omega)) ?_))))))
  refine zE rfl rfl (zA (zN (zC (zB (zJ rfl rfl rfl (fun w => jN w (jC _ om om)) ?_)))))
  refine zF rfl rfl (zA (qU (k + 1) om tdo sbn pkk))
 ·obtain rfl : k = 3 := by omega
  refine kB (zR (zR (jJ (zC (zD (zB (zF rfl rfl (zE rfl rfl (zA (zC (zW ?_)))))))))))
  exact jF rfl (fun a w ha => jQ rfl rfl ha) (fun a w ha => ⟨by rw [zUl z0 z1 z2 zw], ha.grown nsl⟩)

theorem zU7 {fA dA : Option Addr} {fc dc kiln : Nat} {fs : List Flt} {days : List Nat} (h : ChW fs kiln days) : (anyS fA dA fc dc kiln fs days).Ok := ⟨h.f3, h.ff, Nat.le_succ_of_le h.d4, h.dd, jE Try.func66 rfl (by kernel_rfl), jE Try.func67 rfl (by kernel_rfl)⟩

set_option maxRecDepth 4000 in
theorem zX8 {fA dA : Option Addr} {fc dc kiln : Nat} {fs : List Flt} {days : List Nat} (hc : ChW fs kiln days) (w : World) (hF : RdL Flt.cells 4 w fA fs) (hD : RdL ncell 1 w dA days) : Calls Try.prog 62 #[.agg (CA fA fs.length fc kiln dA days.length dc).toArray] w fun e w' => e = .returned (.bool (bstA fs kiln days).is) ∧ Grew w w' [] := by
 refine enter (N := 32) [(0, .agg (CA fA fs.length fc kiln dA days.length dc).toArray)] Try.func62 rfl Try.ntmps62 rfl rfl ?_
 refine zD (zB (jR rfl rfl ?_))
 intro b1
 refine zE rfl rfl (zA (zC (zD (zD (zB (zM rfl rfl F.fi27_0 F.ti25 ?_))))))
 refine zQ rfl rfl F.one25 ?_
 refine kI rfl rfl Try.underlying25 ?_
 refine zJ rfl rfl rfl jO ?_
 refine zA (zC (zP rfl (fun hc0 => ?_) (fun hc0 => ?_)))
 ·have hf0 : fs = [] := List.length_eq_zero_iff.1 om
  subst hf0
  refine zD (zD (zB (zM rfl rfl F.fi27_2 F.ti22 ?_)))
  refine zQ rfl rfl F.one22 ?_
  refine kI rfl rfl Try.underlying22 ?_
  refine zF rfl rfl (zA (zC (zZ (vG (G := Nat) (fun k => k <= days.length ∧ ∀ x ∈ days.take k, x = 0) (fun k => days.length - k) (fun k => [(11, .slice dA days.length dc), (12, .int .i64 (days.length : Int)), (13, .int .i64 (k : Int))]) (fun k => []) 0 ⟨Nat.zero_le _, by simp⟩ sbn pkk ?_))))
  rintro k ⟨hk1, hk2⟩
  refine zD (zB (zJ rfl rfl rfl kJ ?_))
  refine zA (zC (zD (zP rfl (fun hc1 => ?_) (fun hc1 => ?_))))
  ·have hk : k < days.length := by omega
   have hd4 := hc.d4
   obtain ⟨bd, bo, hdA, hbd, hcd⟩ := hD om
   obtain ⟨x, hx⟩ : ∃ x, days[k]? = some x := ⟨_, List.getElem?_eq_getElem hk⟩
   refine zT (zC (zD (zZ (zD (zB (xG (j := k) rfl (show _ = some (Value.slice (some ⟨bd, bo, none⟩) days.length dc) from by rw [<- hdA]; rfl) rfl Try.underlying22 F.ti3 rfl hk ?_))))))
   refine kY (v := .int .i64 (x : Int)) rfl rfl F.one3 (fun a w ha => ha.old (hcd k x hx 0 _ rfl) hbd) ?_
   refine zE rfl rfl (zA (zC (zD (zB (zF rfl rfl (zJ rfl rfl rfl yY ?_))))))
   refine zA (zC (zP rfl (fun hc2 => ?_) (fun hc2 => ?_)))
   ·refine zD (zB (zE rfl rfl (zA (zC (zW (jP (zX (zX (jP (zX (zX ?_)))))))))))
    exact jF rfl (fun a w ha => jQ rfl rfl ha) (fun a w ha => ⟨by rw [zL1, List.all_eq_false.2 ⟨x, List.mem_of_getElem? hx, by simp; omega⟩], ha.grown nsl⟩)
   ·refine zT (zN (zC (zB (zJ rfl rfl rfl (fun w => jN w (jC _ om om)) ?_))))
    refine zF rfl rfl (zA (qU (k + 1) ⟨by omega, fun y hy => ?_⟩ tdo sbn pkk))
    rw [List.take_add_one, hx] at hy
    rcases List.mem_append.1 hy with h | h
    ·exact hk2 y h
    ·simp at h; omega
  ·have hkl : k = days.length := by omega
   subst hkl
   rw [List.take_length] at hk2
   refine kB (zR (zR (jJ (zC (zD (zB (zE rfl rfl (zA (zC (zW (zX ?_)))))))))))
   exact jF rfl (fun a w ha => jQ rfl rfl ha) (fun a w ha => ⟨by rw [zL1, List.all_eq_true.2 (fun x hx => by simpa using hk2 x hx)], ha.grown nsl⟩)
 ·have hm0 : MOk (start fs) := vK hc.f3 hc.ff _ (Nat.le_refl _)
  obtain ⟨x0, x1, x2, xw, hx, hx0, hx1, hx2, hxw⟩ := hm0.form
  refine zT (zC (zD (zB (jA rfl rfl F.agg27 F.ti27 ?_))))
  refine jU (vs := [(0, _)]) (l' := [_, _, _]) rfl rfl F.ti77 F.pl77 (.cons rfl rfl (.nil _)) rfl ?_
  refine kP (X := Nat × Nat) (vs := [_]) (p := fun _ => True) (val := fun g => .pointer (some ⟨g.1, 0, none⟩)) (rs := fun g => [.blk g.1 (.cells [.slice fA fs.length fc, .int .i64 (kiln : Int), .slice dA days.length dc, .func (.func 66) [].toArray [].toArray, .func (.func 67) [].toArray [].toArray, .map (some g.2)].toArray 101 (0, 0)), .blk g.2 (KS.obj [])]) rfl rfl F.ent48 (fun a w ha => (zDv fA dA fc days.length dc kiln fs w).mono (fun e w' h => by obtain ⟨b, km, h1, h2⟩ := h; exact ⟨(b, km), trivial, h1, h2⟩)) ?_
  rintro ⟨sb, km⟩ -
  dsimp only [List.cons_append, List.nil_append]
  refine zE rfl rfl (zA (zC (zD (zB (zF rfl rfl (zF rfl rfl (qH rfl rfl (vZ rfl rfl F.fi101_0 F.ti77 ?_))))))))
  refine jA (o := 0) (l := (CA fA fs.length fc kiln dA days.length dc)) rfl rfl F.agg77 F.ti77 ?_
  refine jL (v := .agg (V4 x0 x1 x2 xw).toArray) (vs := [_]) rfl rfl F.ent60 (fun a w ha => (zBy fA dA fc days.length dc kiln fs hc.f3 hc.ff w (hF.later ha.below)).mono (fun e w' h => ⟨h.1.trans (by rw [hx]; rfl), h.2⟩)) ?_
  refine jU (vs := [(0, _), (1, _)]) (l' := [_, _, _, _, _]) rfl rfl F.ti107 F.pl107 (.cons rfl rfl (.cons rfl rfl (.nil _))) rfl ?_
  refine qN (X := List (Spot × Value)) (first := []) (cap := []) (vs := [_, _]) (p := fun _ => True) (val := fun _ => .agg [.int .i64 ((bstA fs kiln days).f : Int), .int .i64 ((bstA fs kiln days).w : Int), .bool (bstA fs kiln days).is].toArray) (rs := fun kn' => [.blk km (KS.obj kn'), .blk sb (.cells [.slice fA fs.length fc, .int .i64 (kiln : Int), .slice dA days.length dc, .func (.func 66) [].toArray [].toArray, .func (.func 67) [].toArray [].toArray, .map (some km)].toArray 101 (0, 0))]) rfl rfl rfl F.ent68 (fun a w ha => ?_) ?_
  ·refine (zC7 (s := (anyS fA dA fc dc kiln fs days)) (zU7 hc) days.length _ _ [] _ _ _ _ _ [] km sb 0 x0 x1 x2 xw (by show 0 + days.length = days.length; omega) ⟨rfl, by simp; omega, hxw⟩ (KnOk.nil _) (zE7 hF hD) (ha.pck pkk)).mono ?_
   rintro e w' ⟨kn', h1, h2, h3⟩
   exact ⟨kn', trivial, h2.trans (by unfold bstA; rw [hx]; rfl), h3.pck pkk⟩
  rintro kn1 -
  dsimp only
  generalize bstA fs kiln days = o0
  refine zFy rfl rfl (zHh rfl F.fi111_1 F.one4 rfl) ?_
  refine zE rfl rfl (zA (zC (zW ?_)))
  exact jF rfl (fun a w ha => jQ rfl rfl ha) (fun a w ha => ⟨rfl, ha.grown nsl⟩)

theorem F.ent81 : Enters Try.prog 81 := jE Try.func81 rfl (by kernel_rfl)
theorem mostEnd {fs : List Flt} {kiln day : Nat} {days : List Nat} {l : List Mor} {seen : Array Nat} {best : Int} (hI : MsI l (idxd (tr l)) seen best) (hall : ∀ e ∈ idxd (tr l), e.1 ∈ seen) (hl : ∀ m, m ∈ l ↔ Rch fs kiln (days.take day) m) :
  let e : Ending := .returned (.tuple #[.int .i64 best, .bool (decide ((0 : Int) < ((((idxd (tr l)).map KM.ent).toArray.size : Nat) : Int)))])
  ((∃ n : Nat, (∃ m, Rch fs kiln (days.take day) m ∧ sumM m = n) ∧ (∀ m, Rch fs kiln (days.take day) m -> sumM m <= n) ∧ e = .returned (.tuple #[.int .i64 (n : Int), .bool true])) ∨ ((∀ m, ¬ Rch fs kiln (days.take day) m) ∧ e = .returned (.tuple #[.int .i64 (-1), .bool false]))) := by
 intro e
 have hsz : (((idxd (tr l)).map KM.ent).toArray.size : Nat) = l.length := by rw [zGx, zH7]
 have hle : ∀ m ∈ l, (sumM m : Int) <= best := fun m hm => by
  obtain ⟨y, hy, rfl⟩ := List.mem_map.1 (show m ∈ (idxd (tr l)).map (·.2.1) from by rw [zAf, zAs]; exact hm)
  exact hI.le y hy (hall y hy)
 show (∃ n : Nat, _) ∨ _
 simp only [e, hsz]
 rcases hI.got with ⟨h1, h2⟩ | ⟨m, hm, h1⟩
 ·right
  have hl0 : l = [] := by
   cases l with
   | nil => rfl
   | cons m l =>
    have := hle m (by simp)
    omega
  refine ⟨fun m hm => ?_, by rw [h1, hl0]; rfl⟩
  have := (hl m).2 hm
  rw [hl0] at this
  cases this
 ·left
  refine ⟨sumM m, ⟨m, (hl m).1 hm, rfl⟩, fun y hy => by have := hle y ((hl y).2 hy); omega, ?_⟩
  rw [h1, decide_eq_true]
  have := List.length_pos_of_mem hm
  omega

theorem zXo [R : ReaC] {fA dA : Option Addr} {fc dc kiln day : Nat} {fs : List Flt} {days : List Nat} (hc : ChV fs kiln days) (hcap : days.length <= dc) (hday : day <= days.length) (w : World) (hR : RdC w) (hL : Lendy w fA fs) (hF : RdL Flt.cells 4 w fA fs) (hD : RdL ncell 1 w dA days) : Calls Try.prog 63 #[.agg (CA fA fs.length fc kiln dA days.length dc).toArray, .int .i64 (day : Int)] w fun e w' => ((∃ n : Nat, (∃ m, Rch fs kiln (days.take day) m ∧ sumM m = n) ∧ (∀ m, Rch fs kiln (days.take day) m -> sumM m <= n) ∧ e = .returned (.tuple #[.int .i64 (n : Int), .bool true])) ∨ ((∀ m, ¬ Rch fs kiln (days.take day) m) ∧ e = .returned (.tuple #[.int .i64 (-1), .bool false]))) ∧ Grew w w' [] := by
 refine enter (N := 35) [(0, .agg (CA fA fs.length fc kiln dA days.length dc).toArray), (1, .int .i64 (day : Int))] Try.func63 rfl Try.ntmps63 rfl rfl ?_
 refine zD (zB (jR rfl rfl ?_))
 intro b2
 refine zE rfl rfl (zE rfl rfl (zA (zC (zD (kF [] F.follows 9 rfl [false, false, false, false, false, false, false, false, false] rfl ?_)))))
 refine zG 0 rfl rfl rfl (qC rfl F.agg77 F.ti77) ?_
 refine zG 1 rfl rfl rfl (zY rfl F.fi77_0 F.ti27) ?_
 refine zG 2 rfl rfl rfl (zY rfl F.fi27_2 F.ti22) ?_
 refine zG 3 rfl rfl rfl (jV rfl F.one22) ?_
 refine zG 4 rfl rfl rfl (jI rfl) ?_
 refine zG 5 rfl rfl rfl (jI rfl) ?_
 refine zG 6 rfl rfl rfl (zCa (k := day) rfl rfl rfl Try.underlying22 F.ti3 om) ?_
 refine an1 7 rfl ?_
 refine kP (X := List Mor × Nat) (vs := [_, _]) (p := fun g => g.1.Nodup ∧ (∀ m, m ∈ g.1 ↔ Rch fs kiln (days.take day) m) ∧ (∀ m ∈ g.1, MOk m)) (val := fun g => .map (some g.2)) (rs := fun g => [.blk g.2 (KM.obj (tr g.1))]) rfl rfl F.ent56 (fun a w ha => ?_) ?_
 ·have hlen : (days.take day).length = day := by rw [List.length_take]; omega
  have h := zNv (dA := dA) (nd := days.length) (dc := dc) (fc := fc) (kiln := kiln) (days := (days.take day)) (eA := dA) (ec := day) hc.f3 hc.ff (fun n hn => hc.dd n (List.mem_of_mem_take hn)) (by have := hc.d4; omega) w (hR.later ha.below) (hL.later ha.below) (hF.later ha.below) ((hD.later ha.below).take day)
  rw [hlen] at h
  refine h.mono ?_
  rintro e w' ⟨l, b, h1, h0, h2, h4, h3⟩
  exact ⟨(l, b), ⟨h0, h2, h4⟩, h1, h3⟩
 rintro ⟨l, mb⟩ ⟨hnd, hl, hok⟩
 dsimp only [List.cons_append, List.nil_append] at hnd hl hok ⊢
 have hG : KM.Good (idxd (tr l)) (tr l).length := zJf KM (by rw [zAs]; exact hnd) (zK0 hok)
 refine zA (anb (zG 8 rfl rfl rfl (kV rfl) ?_))
 refine adn (zC (zD (zB (zE rfl rfl (zA (zC (zD (zD (zB (zF rfl rfl (zEj rfl rfl Try.underlying86 (InB.mem (b := mb) (o := KM.obj (tr l))) ?_)))))))))))
 intro it
 refine zA (zC (zZ (vG (G := Array Nat × Int) (fun g => MsI l (idxd (tr l)) g.1 g.2) (fun g => leftN (idxd (tr l)) g.1) (fun g => [(6, .map (some mb)), (7, .int .i64 g.2), (19, .pointer (some ⟨it, 0, none⟩))]) (fun g => [.blk it (.mapIter (some mb) (tr l).length g.1 (tr l).length), .blk mb (KM.obj (tr l))]) (#[], -1) (MsI.first _ _) sbn pkk ?_)))
 rintro ⟨seen, best⟩ hI
 dsimp only at hI ⊢
 refine zD (zB (zMa KM (hpf := fun o => [.blk it o, .blk mb (KM.obj (tr l))]) rfl rfl (InB.mem (b := mb) (o := KM.obj (tr l))) hG (fun o => .head _) (fun hall => ?_) (fun e he hne => ?_)))
 ·refine zO rfl rfl rfl (zA (zC (zD (kA rfl (kB (zR (zR (jJ (zC (zD (zB (zF rfl rfl (zF rfl rfl (zFy rfl rfl (zGf rfl Try.underlying86 (InB.mem (b := mb) (o := KM.obj (tr l)))) ?_))))))))))))))
  refine zJ rfl rfl rfl yY ?_
  refine zE rfl rfl (zE rfl rfl (zA (zC (zW ?_))))
  exact jF rfl (fun a w ha => qW rfl rfl rfl ha) (fun a w ha => ⟨mostEnd hI hall hl, ha.grown nsl⟩)
 ·refine zO rfl rfl rfl (zA (zC (zD (kN rfl (zT (zC (zZ (zD (zB ?_)))))))))
  obtain ⟨i, x, v⟩ := e
  have hxl : x ∈ l := by
   have h9 := List.mem_map_of_mem (f := fun y => y.2.1) he
   rw [zAf, zAs] at h9
   exact h9
  obtain ⟨z0, z1, z2, zw, rfl, hz0, hz1, hz2, hzw⟩ := (hok x hxl).form
  refine zEg KM (e := (i, (⟨[z0, z1, z2], zw⟩ : Mor), v)) rfl rfl (InB.mem (b := mb) (o := KM.obj (tr l))) hG he (InB.mem (b := it)) ?_
  rw [show KM.kv (⟨[z0, z1, z2], zw⟩ : Mor) = .agg (V4 z0 z1 z2 zw).toArray from rfl]
  refine zO rfl rfl rfl (zV rfl F.ti95 ?_)
  intro b8
  refine zI rfl rfl F.ti95 rfl ?_
  refine zA (zC (zD (zB (zM rfl rfl F.fi95_0 F.ti92 ?_))))
  refine jA rfl rfl F.agg92 F.ti92 ?_
  refine vE (fs := [_]) (cs := []) rfl rfl rfl ?_
  refine zE rfl rfl (zA (zC (zB (zF rfl rfl (zF rfl rfl ?_)))))
  refine zQk (first := [.agg [.int .i64 (z0 : Int), .int .i64 (z1 : Int), .int .i64 (z2 : Int)].toArray]) (cap := []) (vs := []) (v := .int .i64 ((sumM (⟨[z0, z1, z2], zw⟩ : Mor) : Nat) : Int)) rfl rfl rfl F.ent81 (fun a w ha => by
   have h9 := zY3 z0 z1 z2 zw hz0 hz1 hz2 w
   simpa using h9) ?_
  refine zI9 rfl rfl rfl ?_
  refine zE rfl rfl (zA (zN (qU (seen.push i, _) (hI.next hxl (by rw [zKb]; exact List.nodup_range) he) (zSz he hne) sbn pkk)))

theorem F.ent63 : Enters Try.prog 63 := jE Try.func63 rfl (by kernel_rfl)
theorem zXa [R : ReaC] {fA dA : Option Addr} {fc dc kiln : Nat} {fs : List Flt} {days : List Nat} (hc : ChV fs kiln days) (hcap : days.length <= dc) (w : World) (hR : RdC w) (hL : Lendy w fA fs) (hF : RdL Flt.cells 4 w fA fs) (hD : RdL ncell 1 w dA days) : Calls Try.prog 37 #[.agg (CA fA fs.length fc kiln dA days.length dc).toArray] w fun e w' => (∃ n er : Nat, MostP fs kiln (days.take days.length) n er ∧ e = .returned (.tuple #[.int .i64 (n : Int), .int .i64 (er : Int)])) ∧ Grew w w' [] := by
 refine enter (N := 24) [(0, .agg (CA fA fs.length fc kiln dA days.length dc).toArray)] Try.func37 rfl Try.ntmps37 rfl rfl ?_
 refine zD (zB (jR rfl rfl ?_))
 intro b1
 refine zE rfl rfl (zE rfl rfl (zA (zC (zD (zD (zB (jA rfl rfl F.agg27 F.ti27 ?_)))))))
 refine jL (v := .int .i64 0) (vs := [_]) rfl rfl F.ent43 (fun a w ha => by
  have h := zAa (fA := fA) (dA := dA) (fc := fc) (dc := dc) (fs := fs.map Flt.toZ) (kiln := (kiln : Int)) (days := toZs days) (by have := hc.f3; simp; omega) (by have := hc.d4; simp [toZs]; omega) w (RdL.mapped Flt.toZ (hF.later ha.below) (fun _ => rfl)) (RdL.mapped (fun (n : Nat) => (n : Int)) (hD.later ha.below) (fun _ => rfl))
  rw [chk0 hc] at h
  simpa [toZs] using h) ?_
 refine zE rfl rfl (zA (zC (zD (zB (zF rfl rfl (zJ rfl rfl rfl qP ?_))))))
 refine zA (zC (zP rfl (fun hc0 => ?_) (fun hc0 => ?_)))
 ·exact absurd rfl hc0
  done
 ·refine zT (zC (zD (zB (jA rfl rfl F.agg27 F.ti27 ?_))))
  refine jU (vs := [(0, _)]) (l' := [_, _, _]) rfl rfl F.ti77 F.pl77 (.cons rfl rfl (.nil _)) rfl ?_
  refine zM rfl rfl F.fi27_2 F.ti22 ?_
  refine zQ rfl rfl F.one22 ?_
  refine kI rfl rfl Try.underlying22 ?_
  refine kP (X := Nat × Nat) (vs := [_, _]) (p := fun g => MostP fs kiln (days.take days.length) g.1 g.2) (val := fun g => .tuple #[.int .i64 (if g.2 = 0 then (g.1 : Int) else -1), .bool (decide (g.2 = 0))]) (rs := fun _ => []) rfl rfl F.ent63 (fun a w ha => (zXo hc hcap (day := days.length) om w (hR.later ha.below) (hL.later ha.below) (hF.later ha.below) (hD.later ha.below)).mono (fun e w' h => ?_)) ?_
  ·rcases h.1 with ⟨n, h1, h2, h3⟩ | ⟨h1, h3⟩
   ·exact ⟨(n, 0), .inl ⟨rfl, h1, h2⟩, h3, h.2⟩
   ·exact ⟨(0, 11), .inr ⟨rfl, rfl, h1⟩, h3, h.2⟩
  rintro ⟨n, er⟩ hmp
  dsimp only [List.nil_append] at hmp ⊢
  rcases hmp with ⟨rfl, h1, h2⟩ | ⟨rfl, rfl, h1⟩
  ·refine zF rfl rfl (zO rfl rfl rfl (zO rfl rfl rfl (zE rfl rfl (zE rfl rfl (zA (zC (zD (zD (zB (zF rfl rfl (kS rfl rfl (zA (zC (kA rfl (zT (zC (zD (zB (zF rfl rfl (zE rfl rfl (zE rfl rfl (zA (zC ?_)))))))))))))))))))))))
   refine zW ?_
   exact jF rfl (fun a w ha => qW rfl rfl rfl ha) (fun a w ha => ⟨⟨n, 0, .inl ⟨rfl, h1, h2⟩, rfl⟩, ha.grown nsl⟩)
  ·refine zF rfl rfl (zO rfl rfl rfl (zO rfl rfl rfl (zE rfl rfl (zE rfl rfl (zA (zC (zD (zD (zB (zF rfl rfl (kS rfl rfl (zA (zC (kN rfl (zD (zB (zE rfl rfl (zE rfl rfl (zA (zC (zW (zX ?_))))))))))))))))))))))
   exact jF rfl (fun a w ha => qW rfl rfl rfl ha) (fun a w ha => ⟨⟨0, 11, .inr ⟨rfl, rfl, h1⟩, rfl⟩, ha.grown nsl⟩)

end Go.Proofs.Yteppiphdbondeaa.N
namespace Go.Proofs.Yteppiphdbondeaa.N
open Go Go.RowKit Go.Proofs
set_option linter.unusedSectionVars false
def klnN (fs : List Flt) (days : List Nat) : Nat -> Option Nat
  | 0 => none
  | k + 1 => match klnN fs days k with
    | some x => some x
    | none => if (bstA fs k days).is then some k else none
theorem ChV.kil {fs : List Flt} {kiln k : Nat} {days : List Nat} (h : ChV fs kiln days) (hk : k <= 3) : ChV fs k days := ⟨h.f1, h.f3, h.ff, hk, h.d1, h.d4, h.dd⟩
def optN (o : Option Nat) : Nat := o.getD 0
def optE (o : Option Nat) : Nat := if o.isSome then 0 else 11
end Go.Proofs.Yteppiphdbondeaa.N
namespace Go.Proofs.Yteppiphdbondeaa.N
open Go Go.RowKit Go.Proofs
set_option linter.unusedSectionVars false
variable [I : Sys]
theorem F.ent62 : Enters Try.prog 62 := jE Try.func62 rfl (by kernel_rfl)
theorem zMf {fs : List Flt} {days : List Nat} {x : Nat} : ∀ (j k : Nat), klnN fs days k = some x -> klnN fs days (k + j) = some x
 | 0, _, h => h
 | j + 1, k, h => by
  show klnN fs days (k + j + 1) = some x
  unfold klnN
  rw [zMf j k h]
theorem zVh {fs : List Flt} {days : List Nat} {k : Nat} (hk : k < 4) (hn : klnN fs days k = none) (h : (bstA fs k days).is = true) : klnN fs days 4 = some k := by
 have h1 : klnN fs days (k + 1) = some k := by unfold klnN; rw [hn]; simp [h]
 have := zMf (4 - (k + 1)) (k + 1) h1
 rw [show k + 1 + (4 - (k + 1)) = 4 from by omega] at this
 exact this

theorem zWx {fA dA : Option Addr} {fc dc kiln : Nat} {fs : List Flt} {days : List Nat} (hc : ChV fs kiln days) (w : World) (hF : RdL Flt.cells 4 w fA fs) (hD : RdL ncell 1 w dA days) : Calls Try.prog 38 #[.agg (CA fA fs.length fc kiln dA days.length dc).toArray] w fun e w' => e = .returned (.tuple #[.int .i64 ((optN (klnN fs days 4) : Nat) : Int), .int .i64 ((optE (klnN fs days 4) : Nat) : Int)]) ∧ Grew w w' [] := by
 refine enter (N := 20) [(0, .agg (CA fA fs.length fc kiln dA days.length dc).toArray)] Try.func38 rfl Try.ntmps38 rfl rfl ?_
 refine zD (zB (jR rfl rfl ?_))
 intro b1
 refine zE rfl rfl (zE rfl rfl (zA (zC (zD (zD (zB (jA rfl rfl F.agg27 F.ti27 ?_)))))))
 refine jL (v := .int .i64 0) (vs := [_]) rfl rfl F.ent43 (fun a w ha => by
  have h := zAa (fA := fA) (dA := dA) (fc := fc) (dc := dc) (fs := fs.map Flt.toZ) (kiln := (kiln : Int)) (days := toZs days) (by have := hc.f3; simp; omega) (by have := hc.d4; simp [toZs]; omega) w (RdL.mapped Flt.toZ (hF.later ha.below) (fun _ => rfl)) (RdL.mapped (fun (n : Nat) => (n : Int)) (hD.later ha.below) (fun _ => rfl))
  rw [chk0 hc] at h
  simpa [toZs] using h) ?_
 refine zE rfl rfl (zA (zC (zD (zB (zF rfl rfl (zJ rfl rfl rfl qP ?_))))))
 refine zA (zC (zP rfl (fun hc0 => ?_) (fun hc0 => ?_)))
 ·exact absurd rfl hc0
  done
 ·refine zT (zC (zD (zD (zB (zF rfl rfl (zA (zC (zZ (vG (G := Nat × Nat) (fun g => g.1 <= 4 ∧ klnN fs days g.1 = none) (fun g => 4 - g.1) (fun g => [(1, .pointer (some ⟨b1, 0, none⟩)), (11, .int .i64 (g.1 : Int))]) (fun g => [.blk b1 (.cells [.slice fA fs.length fc, .int .i64 (g.2 : Int), .slice dA days.length dc].toArray 27 (0, 0))]) (0, kiln) ⟨Nat.zero_le _, rfl⟩ sbn pkk ?_)))))))))
  rintro ⟨k, kx⟩ ⟨hk, hkn⟩
  dsimp only at hk hkn ⊢
  refine zD (zB (zJ rfl rfl rfl kJ ?_))
  refine zA (zC (zD (zP rfl (fun hc1 => ?_) (fun hc1 => ?_))))
  ·refine zT (zC (zD (zZ (zD (zB (zF rfl rfl (zE rfl rfl (zA (zC (zD (zB (zF rfl rfl (zM rfl rfl F.fi27_1 F.ti3 ?_)))))))))))))
   refine zI rfl rfl F.ti3 rfl ?_
   refine zA (zC (zD (zB (jA rfl rfl F.agg27 F.ti27 ?_))))
   refine jL (v := .bool (bstA fs k days).is) (vs := [_]) rfl rfl F.ent62 (fun a w ha => zX8 (dc := dc) (fc := fc) (hc.kil (k := k) om).w w (hF.later ha.below) (hD.later ha.below)) ?_
   refine zA (zC (qA rfl (fun hc2 => ?_) (fun hc2 => ?_)))
   ·refine zD (zB (zF rfl rfl (zE rfl rfl (zE rfl rfl (zA (zC (zW (jP (zX (zX (jP (zX ?_))))))))))))
    exact jF rfl (fun a w ha => qW rfl rfl rfl ha) (fun a w ha => ⟨by rw [show klnN fs days 4 = some k from zVh om hkn hc2]; rfl, ha.grown nsl⟩)
   ·refine zT (zN (zC (zB (zJ rfl rfl rfl (fun w => jN w (jC _ om om)) ?_))))
    refine zF rfl rfl (zA (qU (k + 1, k) ⟨by omega, by unfold klnN; rw [hkn]; simp; simpa using hc2⟩ tdo sbn pkk))
  ·obtain rfl : k = 4 := by omega
   refine kB (zR (zR (jJ (zC (zD (zB (zE rfl rfl (zE rfl rfl (zA (zC (zW ?_)))))))))))
   exact jF rfl (fun a w ha => qW rfl rfl rfl ha) (fun a w ha => ⟨by rw [hkn]; rfl, ha.grown nsl⟩)

end Go.Proofs.Yteppiphdbondeaa.N
namespace Go.Proofs.Yteppiphdbondeaa.N
open Go Go.RowKit Go.Proofs
set_option linter.unusedSectionVars false
structure Dom (m x : Mor) : Prop where
 s : ∀ i, x.s.getD i 0 <= m.s.getD i 0
 w : ∀ i, m.w.testBit i = true -> x.w.testBit i = true
structure FDom (fs gs : List Flt) : Prop where
 len : gs.length = fs.length
 each : ∀ i, (gs.getD i default).power = (fs.getD i default).power ∧ (gs.getD i default).gain <= (fs.getD i default).gain
theorem Dom.refl (m : Mor) : Dom m m := ⟨fun _ => Nat.le_refl _, fun _ h => h⟩
theorem FDom.refl (fs : List Flt) : FDom fs fs := ⟨rfl, fun _ => ⟨rfl, Nat.le_refl _⟩⟩
theorem zGw (l : List Nat) (i j v : Nat) : (l.set i v).getD j 0 = if i = j ∧ i < l.length then v else l.getD j 0 := by
 rw [List.getD_eq_getElem?_getD, List.getD_eq_getElem?_getD, List.getElem?_set]
 by_cases h : i = j
 ·subst h
  by_cases h2 : i < l.length
  ·simp [h2]
  ·simp [h2]
 ·simp [h]
theorem zSb {fs gs : List Flt} (hF : FDom fs gs) {m x : Mor} (hm : Dom m x) {a b : Nat × Mor} (h1 : a.1 <= b.1) (h2 : Dom a.2 b.2) (h3 : a.2.s.length = 3) (h4 : b.2.s.length = 3) (i kind : Nat) :
  (dStep fs m a i kind).1 <= (dStep gs x b i kind).1 ∧ Dom (dStep fs m a i kind).2 (dStep gs x b i kind).2 ∧ (dStep fs m a i kind).2.s.length = 3 ∧ (dStep gs x b i kind).2.s.length = 3 := by
 have hs := hm.s i
 obtain ⟨hp, hg⟩ := hF.each i
 rw [wG, wG]
 refine ⟨?_, ⟨fun j => ?_, fun j => ?_⟩, by simp [h3], by simp [h4]⟩
 ·unfold actOf
  dsimp only
  split
  ·dsimp only; omega
  ·split
   ·exact h1
   ·split <;> exact h1
 ·dsimp only
  rw [zGw, zGw, h3, h4]
  split
  ·unfold aftOf
   rw [hp]
   split
   ·omega
   ·split
    ·omega
    ·split <;> omega
  ·exact h2.s j
 ·dsimp only
  split
  ·unfold wWith
   rw [Nat.testBit_or, Nat.testBit_or, Bool.or_eq_true, Bool.or_eq_true]
   exact fun h => h.imp (h2.w j) id
  ·split
   ·unfold wOut
    rw [Nat.testBit_and, Nat.testBit_and, Bool.and_eq_true, Bool.and_eq_true]
    exact fun h => ⟨h2.w j h.1, h.2⟩
   ·exact h2.w j
theorem zLz {fs gs : List Flt} (hF : FDom fs gs) {m x : Mor} (hm : Dom m x) (h3 : m.s.length = 3) (h4 : x.s.length = 3) {acts : List Nat} {s t : Nat} (hs : s <= t) : ∀ k, (dRun fs m acts s k).1 <= (dRun gs x acts t k).1 ∧ Dom (dRun fs m acts s k).2 (dRun gs x acts t k).2 ∧ (dRun fs m acts s k).2.s.length = 3 ∧ (dRun gs x acts t k).2.s.length = 3
 | 0 => ⟨hs, hm, h3, h4⟩
 | k + 1 => by
  obtain ⟨i1, i2, i3, i4⟩ := zLz hF hm h3 h4 hs k
  rw [wA, wA]
  exact zSb hF hm i1 i2 i3 i4 k _
theorem zZp {fs : List Flt} {kiln : Nat} {m m1 : Mor} {acts : List Nat} {s : Nat} : dayE fs kiln m acts s = (0, m1) ↔ barred m acts acts.length = false ∧ firesN acts acts.length <= kiln ∧ (dRun fs m acts s acts.length).1 = 0 ∧ m1 = (dRun fs m acts s acts.length).2 := by
 unfold dayE
 by_cases h1 : barred m acts acts.length = true
 ·rw [if_pos h1]; simp [h1]
 ·rw [if_neg h1]
  by_cases h2 : kiln < firesN acts acts.length
  ·rw [if_pos h2]; simp; omega
  ·rw [if_neg h2]
   by_cases h3 : 0 < (dRun fs m acts s acts.length).1
   ·rw [if_pos h3]; simp; omega
   ·rw [if_neg h3]
    simp only [Prod.mk.injEq, true_and]
    constructor
    ·rintro rfl; exact ⟨by simpa using h1, by omega, by omega, rfl⟩
    ·rintro ⟨_, _, _, rfl⟩; rfl
theorem zSq {fs gs : List Flt} (hF : FDom fs gs) {m x x1 : Mor} (hm : Dom m x) (h3 : m.s.length = 3) (h4 : x.s.length = 3) {acts : List Nat} {s t kiln kiln' : Nat} (hs : s <= t) (hk : kiln' <= kiln) (h : dayE gs kiln' x acts t = (0, x1)) :
  ∃ m1, dayE fs kiln m acts s = (0, m1) ∧ Dom m1 x1 ∧ m1.s.length = 3 ∧ x1.s.length = 3 := by
 obtain ⟨a1, a2, a3, rfl⟩ := zZp.1 h
 obtain ⟨b1, b2, b3, b4⟩ := zLz hF hm h3 h4 (acts := acts) hs acts.length
 refine ⟨_, zZp.2 ⟨?_, by omega, by omega, rfl⟩, b2, b3, b4⟩
 cases hb : barred m acts acts.length with
 | false => rfl
 | true =>
  unfold barred at hb a1
  obtain ⟨i, hi, h5⟩ := List.any_eq_true.1 hb
  rw [Bool.and_eq_true] at h5
  have := List.any_eq_false.1 a1 i hi
  rw [Bool.and_eq_true] at this
  exact absurd ⟨h5.1, hm.w i h5.2⟩ this
def DDom (days gays : List Nat) : Prop := gays.length = days.length ∧ ∀ i, days.getD i 0 <= gays.getD i 0
theorem zV9 {alw : Nat -> List Nat -> Bool} {fs gs : List Flt} (hF : FDom fs gs) {kiln kiln' : Nat} {days gays : List Nat} (hk : kiln' <= kiln) (hd : DDom days gays) {n : Nat} {m x : Mor} {p : List (List Nat)} {f w : Nat} (hm : Dom m x) (h3 : m.s.length = 3) (h4 : x.s.length = 3)
  (h : Pth alw (fun _ => true) gs kiln' gays n x p f w) : Pth alw (fun _ => true) fs kiln days n m p f w := by
 induction h generalizing m with
 | last _ => exact .last rfl
 | @day n x x1 acts p f w h1 h2 h5 _ ih =>
  obtain ⟨hl, hdd⟩ := hd
  rw [hl] at h2 h5
  obtain ⟨m1, a1, a2, a3, a4⟩ := zSq hF hm h3 h4 (hdd _) hk h5
  rw [hF.len] at h1
  exact .day h1 h2 a1 (ih a2 a3 a4)
theorem zUi {fs gs : List Flt} (hF : FDom fs gs) {kiln kiln' : Nat} {days gays : List Nat} (hk : kiln' <= kiln) (hd : DDom days gays) (hm : Dom (start fs) (start gs)) (h3 : (start fs).s.length = 3) (h4 : (start gs).s.length = 3) (h : (bstA gs kiln' gays).is = true) :
  (bstA fs kiln days).is = true ∧ (bstA fs kiln days).f <= (bstA gs kiln' gays).f := by
 obtain ⟨p, hp⟩ := zGv _ _ h
 have hp' := zV9 hF hk hd hm h3 h4 hp
 rw [hd.1] at hp'
 obtain ⟨h5, h6⟩ := zJs hp'
 refine ⟨h5, ?_⟩
 unfold bstA
 rw [hd.1]
 unfold cless at h6
 simp only [decide_eq_false_iff_not, not_or, not_and] at h6
 omega
def sumK (m : Mor) : Nat -> Nat
 | 0 => 0
 | k + 1 => sumK m k + m.s.getD k 0
theorem zJ5 {fs : List Flt} {m : Mor} {acts : List Nat} {x : Nat} : ∀ k, x <= (dRun fs m acts x k).1 + sumK m k
 | 0 => by simp [dRun, sumK]
 | k + 1 => by
  have ih := zJ5 (fs := fs) (m := m) (acts := acts) (x := x) k
  rw [wA, wG]
  unfold sumK actOf
  dsimp only
  split
  ·dsimp only; omega
  ·split
   ·dsimp only; omega
   ·split <;> dsimp only <;> omega
theorem zK6 {fs : List Flt} {m : Mor} {n x : Nat} : ∀ k, k <= n -> (dRun fs m (List.replicate n 0) x k).1 = x - sumK m k
 | 0, _ => by simp [dRun, sumK]
 | k + 1, hk => by
  have ih := zK6 (fs := fs) (m := m) (n := n) (x := x) k om
  rw [wA, wG]
  have h0 : (List.replicate n 0).getD k 0 = 0 := by
   rw [List.getD_eq_getElem?_getD, List.getElem?_replicate]
   split <;> rfl
  rw [h0]
  unfold sumK actOf
  dsimp only
  rw [if_pos rfl, ih]
  omega
theorem zWh : ∀ n, n <= 3 -> List.replicate n 0 ∈ exts [] n
 | 0, _ => by decide
 | 1, _ => by decide
 | 2, _ => by decide
 | 3, _ => by decide
 | n + 4, h => by omega
theorem zOi {fs : List Flt} {kiln x : Nat} {m : Mor} (h3 : fs.length <= 3) : (∃ acts ∈ exts [] fs.length, ∃ y, dayE fs kiln m acts x = (0, y)) ↔ x <= sumK m fs.length := by
 constructor
 ·rintro ⟨acts, ha, y, h⟩
  obtain ⟨_, _, h1, _⟩ := zZp.1 h
  have hl : acts.length = fs.length := by
   letI : Sys := nSys Try.prog (Cp 0 131 msgM) 0
   have := vP _ _ acts ha
   simpa using this
  have := zJ5 (fs := fs) (m := m) (acts := acts) (x := x) acts.length
  rw [h1, hl] at this
  omega
 ·intro hx
  refine ⟨_, zWh _ h3, _, zZp.2 ⟨?_, ?_, ?_, rfl⟩⟩
  ·unfold barred
   rw [List.any_eq_false]
   intro i _
   have h0 : (List.replicate fs.length 0).getD i 0 = 0 := by
    rw [List.getD_eq_getElem?_getD, List.getElem?_replicate]
    split <;> rfl
   rw [h0]
   simp
  ·unfold firesN
   rw [List.countP_eq_zero.2 (fun y hy => by
    have := List.mem_of_mem_take hy
    rw [List.mem_replicate] at this
    simp [this.2])]
   exact Nat.zero_le _
  ·rw [List.length_replicate, zK6 _ (Nat.le_refl _)]
   omega
def Void (n : Nat) (m : Mor) : Prop := ∀ i, n <= i -> m.s.getD i 0 = 0
theorem zL5 {fs : List Flt} {m : Mor} {acts : List Nat} {x n : Nat} (hv : Void n m) : ∀ k, k <= n -> Void n (dRun fs m acts x k).2
 | 0, _ => hv
 | k + 1, hk => by
  have ih := zL5 (fs := fs) (acts := acts) (x := x) hv k om
  rw [wA, wG]
  intro i hi
  dsimp only
  rw [zGw, if_neg om]
  exact ih i hi
theorem zIe (fs : List Flt) (_h3 : fs.length <= 3) : Void fs.length (start fs) := by
 intro i hi
 unfold start startN
 dsimp only
 rw [List.take_length, List.getD_eq_getElem?_getD, List.getElem?_append, if_neg (by simp; omega), List.getElem?_replicate]
 split <;> rfl
theorem zMe {fs : List Flt} {kiln : Nat} (_h3 : fs.length <= 3) (days : List Nat) : ∀ (m : Mor), Void fs.length m -> ∀ x, Wy fs kiln days m x -> Void fs.length x := by
 induction days with
 | nil => intro m hv x hx; unfold Wy at hx; subst hx; exact hv
 | cons d ds ih =>
  rintro m hv x ⟨acts, ha, m1, h1, h2⟩
  refine ih m1 ?_ x h2
  obtain ⟨_, _, _, rfl⟩ := zZp.1 h1
  have hl : acts.length = fs.length := by
   letI : Sys := nSys Try.prog (Cp 0 131 msgM) 0
   have := vP _ _ acts ha
   simpa using this
  exact zL5 hv _ om
theorem zLp {m : Mor} {n : Nat} (hn : n <= 3) (hv : Void n m) : sumK m n = sumM m := by
 have e : ∀ j, j + n = 3 -> sumK m n = sumK m 3 := by
  intro j hj
  have key : ∀ j k, n <= k -> k + j = 3 -> sumK m k = sumK m 3 := by
   intro j
   induction j with
   | zero => intro k _ hk; rw [show k = 3 from by omega]
   | succ j ih =>
    intro k hk hj
    rw [<- ih (k + 1) om om]
    unfold sumK
    rw [hv k hk]
    cases k <;> simp [sumK]
  exact key j n (Nat.le_refl _) om
 rw [e (3 - n) om]
 simp [sumK, sumM]
theorem zK7 {fs : List Flt} {kiln x : Nat} {ds : List Nat} (h3 : fs.length <= 3) : (bstA fs kiln (ds ++ [x])).is = true ↔ ∃ m, Rch fs kiln ds m ∧ x <= sumM m := by
 rw [zWg]
 constructor
 ·rintro ⟨y, hy⟩
  rw [Rch.push] at hy
  obtain ⟨m, hm, acts, ha, h1⟩ := hy
  have hv := zMe h3 ds _ (zIe fs h3) m (zZr.1 hm)
  refine ⟨m, hm, ?_⟩
  rw [<- zLp h3 hv]
  exact (zOi h3).1 ⟨acts, ha, y, h1⟩
 ·rintro ⟨m, hm, hx⟩
  have hv := zMe h3 ds _ (zIe fs h3) m (zZr.1 hm)
  rw [<- zLp h3 hv] at hx
  obtain ⟨acts, ha, y, h1⟩ := (zOi (kiln := kiln) h3).2 hx
  refine ⟨y, ?_⟩
  rw [Rch.push]
  exact ⟨m, hm, acts, ha, h1⟩
theorem mostN {fs : List Flt} {kiln d n er : Nat} {days : List Nat} (hc : ChV fs kiln days) (h : MostP fs kiln (days.take d) n er) :
  ∃ N : Int, -1 <= N ∧ N <= 12 ∧ (er = 0 ∧ N = (n : Int) ∨ er = 11 ∧ n = 0 ∧ N = -1) ∧ ∀ x : Nat, (bstA fs kiln (days.take d ++ [x])).is = decide ((x : Int) <= N) := by
 rcases h with ⟨rfl, ⟨m, hm, rfl⟩, hle⟩ | ⟨rfl, rfl, hno⟩
 ·have hok := Rch.ok hc.f3 hc.ff _ m hm
  have := zVp hok
  refine ⟨(sumM m : Int), by omega, by omega, .inl ⟨rfl, rfl⟩, fun x => ?_⟩
  rw [Bool.eq_iff_iff, zK7 hc.f3, decide_eq_true_iff]
  constructor
  ·rintro ⟨y, hy, hx⟩
   have := hle y hy
   omega
  ·intro hx
   exact ⟨m, hm, by omega⟩
 ·refine ⟨-1, by omega, by omega, .inr ⟨rfl, rfl, rfl⟩, fun x => ?_⟩
  rw [Bool.eq_iff_iff, zK7 hc.f3, decide_eq_true_iff]
  constructor
  ·rintro ⟨y, hy, _⟩
   exact absurd hy (hno y)
  ·intro hx; omega
theorem zAl {P : Program} {t : TypeId} (ht : P.underlying t = some .bool) (u v : Bool) (x y : Operand) (w : World) : (do eqGuard .neq t x y (.bool u) (.bool v); binOp .neq t (.bool u) (.bool v) : Sem Value).run P w = .ok (.bool (u != v)) w := by
 have hg : (eqGuard .neq t x y (.bool u) (.bool v)).run P w = .ok () w := by simp [eqGuard]
 have hb : (binOp .neq t (.bool u) (.bool v)).run P w = .ok (.bool (u != v)) w := by
  show (do pure (.bool (!(<- Op.equal t (.bool u) (.bool v)))) : Sem Value).run P w = _
  have he : (Op.equal t (.bool u) (.bool v)).run P w = .ok (u == v) w := by
   show (Op.equalIn (9999 + 1) t (.bool u) (.bool v)).run P w = _
   unfold Op.equalIn
   simp only [Sem.run_bind, run_underlying ht, Result.andThen_ok]
   simp
  simp only [Sem.run_bind, he, Result.andThen_ok, Sem.run_pure]
  rfl
 simp only [Sem.run_bind, hg, Result.andThen_ok, hb]
theorem zTu [I : Sys] {C : Ctx} {fr : List (Nat × Value)} {hp : List Res} {dst : Option Tmp} {ty : TypeId} {pos : String} {after : Array Edge} {x : Operand} {p : Prop} [Decidable p] {t : TypeId} (hx : ev fr x = some (.bool (decide p))) : Yld C ⟨dst, .unOp .not t x, ty, pos, after, none⟩ fr hp (.bool (decide (¬ p))) := by
 rw [decide_not]
 exact zFt hx
theorem zGl {fs : List Flt} (h3 : fs.length <= 3) (hf : ∀ f ∈ fs, FltOk f) : (start fs).s.length = 3 := (vK h3 hf _ (Nat.le_refl _)).three
theorem zR3 (days : List Nat) : DDom days days := ⟨rfl, fun _ => Nat.le_refl _⟩
theorem zJj {fs : List Flt} {days : List Nat} {j k : Nat} (h3 : fs.length <= 3) (hf : ∀ f ∈ fs, FltOk f) (hjk : j <= k) (h : (bstA fs j days).is = true) : (bstA fs k days).is = true ∧ (bstA fs k days).f <= (bstA fs j days).f :=
 zUi (FDom.refl fs) hjk (zR3 days) (Dom.refl _) (zGl h3 hf) (zGl h3 hf) h
theorem zK5 {fs : List Flt} {days : List Nat} : ∀ k, (∀ x, klnN fs days k = some x -> x < k ∧ (bstA fs x days).is = true ∧ ∀ y, y < x -> (bstA fs y days).is = false) ∧ (klnN fs days k = none -> ∀ y, y < k -> (bstA fs y days).is = false)
 | 0 => ⟨fun x h => (by cases h), fun _ y hy => om⟩
 | k + 1 => by
  obtain ⟨i1, i2⟩ := zK5 (fs := fs) (days := days) k
  cases hk : klnN fs days k with
  | some z =>
   obtain ⟨a, b, c⟩ := i1 z hk
   have e : klnN fs days (k + 1) = some z := by unfold klnN; rw [hk]
   refine ⟨fun x hx => ?_, fun h => (by rw [e] at h; cases h)⟩
   rw [e] at hx
   cases hx
   exact ⟨by omega, b, c⟩
  | none =>
   have hno := i2 hk
   by_cases hb : (bstA fs k days).is = true
   ·have e : klnN fs days (k + 1) = some k := by unfold klnN; rw [hk]; simp [hb]
    refine ⟨fun x hx => ?_, fun h => (by rw [e] at h; cases h)⟩
    rw [e] at hx
    cases hx
    exact ⟨Nat.lt_succ_self _, hb, hno⟩
   ·have e : klnN fs days (k + 1) = none := by unfold klnN; rw [hk]; simp [hb]
    refine ⟨fun x hx => (by rw [e] at hx; cases hx), fun _ y hy => ?_⟩
    rcases Nat.lt_or_ge y k with h | h
    ·exact hno y h
    ·rw [show y = k from by omega]; simpa using hb
theorem zXp {fs : List Flt} {days : List Nat} (h3 : fs.length <= 3) (hf : ∀ f ∈ fs, FltOk f) :
  (optE (klnN fs days 4) = 0 ∨ optE (klnN fs days 4) = 11 ∧ optN (klnN fs days 4) = 0) ∧ optN (klnN fs days 4) <= 3 ∧ ∀ k, k <= 3 -> ((bstA fs k days).is = true ↔ optE (klnN fs days 4) = 0 ∧ optN (klnN fs days 4) <= k) := by
 obtain ⟨i1, i2⟩ := zK5 (fs := fs) (days := days) 4
 cases hk : klnN fs days 4 with
 | some z =>
  obtain ⟨a, b, c⟩ := i1 z hk
  refine ⟨.inl rfl, by show z <= 3; omega, fun k hk => ⟨fun h => ⟨rfl, ?_⟩, fun h => (zJj h3 hf (show z <= k from h.2) b).1⟩⟩
  show z <= k
  rcases Nat.lt_or_ge k z with h9 | h9
  ·rw [c k h9] at h; cases h
  ·exact h9
 | none =>
  refine ⟨.inr ⟨rfl, rfl⟩, by show 0 <= 3; omega, fun k hk9 => ⟨fun h => ?_, fun h => by simp [optE] at h⟩⟩
  rw [i2 hk k om] at h
  cases h
theorem zN1 {fs : List Flt} {kiln : Nat} {days : List Nat} (h3 : fs.length <= 3) : (bstA fs kiln days).f <= days.length := (zIv h3 days.length (start fs)).1
theorem leftL {fs : List Flt} {kiln n er : Nat} {days : List Nat} (hc : ChV fs kiln days) (h : MostP fs kiln (days.take days.length) n er) :
  n <= 12 ∧ ((er = 0 ∧ (bstA fs kiln days).is = true) ∨ (er = 11 ∧ n = 0 ∧ (bstA fs kiln days).is = false)) ∧ ∀ x : Nat, er = 0 -> (bstA fs kiln (days ++ [x])).is = decide (x <= n) := by
 obtain ⟨N, h1, h2, h3, h4⟩ := mostN hc h
 rw [List.take_length] at h4
 have hr : (er = 0 ∧ (bstA fs kiln days).is = true) ∨ (er = 11 ∧ n = 0 ∧ (bstA fs kiln days).is = false) := by
  rw [List.take_length] at h
  rcases h with ⟨rfl, ⟨m, hm, _⟩, _⟩ | ⟨rfl, rfl, hno⟩
  ·exact .inl ⟨rfl, zWg.2 ⟨m, hm⟩⟩
  ·refine .inr ⟨rfl, rfl, ?_⟩
   cases hb : (bstA fs kiln days).is with
   | false => rfl
   | true =>
    obtain ⟨m, hm⟩ := zWg.1 hb
    exact absurd hm (hno m)
 refine ⟨by omega, hr, fun x he => ?_⟩
 rw [h4, decide_eq_decide]
 omega
theorem ChV.push {fs : List Flt} {kiln x : Nat} {days : List Nat} (h : ChV fs kiln days) (hl : days.length <= 3) (hx : x <= 12) : ChV fs kiln (days ++ [x]) :=
 ⟨h.f1, h.f3, h.ff, h.k3, by simp, by simp; omega, fun y hy => by
  rcases List.mem_append.1 hy with hy | hy
  ·exact h.dd y hy
  ·simp at hy; omega⟩
end Go.Proofs.Yteppiphdbondeaa.N
namespace Go.Proofs.Yteppiphdbondeaa.N
open Go Go.RowKit Go.Proofs
set_option linter.unusedSectionVars false
variable [I : Sys]
theorem F.ent37 : Enters Try.prog 37 := jE Try.func37 rfl (by kernel_rfl)
theorem F.ent38 : Enters Try.prog 38 := jE Try.func38 rfl (by kernel_rfl)
set_option maxRecDepth 4000 in
theorem zP9 [R : ReaC] (nA : Option Addr) (nc : Nat) (nums : List Int) (w : World) (hN : RdL icell 1 w nA nums) (hR : RdC w) : Calls Try.prog 10 #[.slice nA nums.length nc] w fun e w' => e = .returned (.bool true) ∧ Grew w w' [] := by
 refine enter (N := 161) [(0, .slice nA nums.length nc)] Try.func10 rfl Try.ntmps10 rfl rfl ?_
 refine zD (zB (zE rfl rfl (zA (zC (zD (zB (zF rfl rfl (kP (X := Nat) (vs := [_]) (p := fun _ => True) (val := fun b => .pointer (some ⟨b, 0, none⟩)) (rs := fun b => [.blk b (hatO nA nums.length nc 0 11400714819323198485)]) rfl rfl F.ent13 (fun a w ha => (zTl nA nums.length nc w).mono (fun e w' h => by obtain ⟨b, h1, h2⟩ := h; exact ⟨b, trivial, h1, h2⟩)) ?_))))))))
 intro hb _
 dsimp only [List.cons_append, List.nil_append]
 refine zE rfl rfl (zA (zC (zD (zB (zF rfl rfl (qN (X := Nat × Nat × Nat × List Flt × List Nat × Option Addr × Option Addr × Nat × Nat) (first := []) (cap := []) (vs := [_, _, _]) (p := fun y => y.1 <= 100 ∧ y.2.1 < 18446744073709551616 ∧ ChV y.2.2.2.1 y.2.2.1 y.2.2.2.2.1 ∧ y.2.2.2.1.length <= 2 ∧ y.2.2.2.2.1.length <= 3) (val := fun y => .agg [.slice y.2.2.2.2.2.1 y.2.2.2.1.length y.2.2.2.2.2.2.2.1, .int .i64 (y.2.2.1 : Int), .slice y.2.2.2.2.2.2.1 y.2.2.2.2.1.length y.2.2.2.2.2.2.2.2].toArray) (rs := fun y => [.row 49 4 y.2.2.2.2.2.1 y.2.2.2.1.length y.2.2.2.2.2.2.2.1 (y.2.2.2.1.flatMap Flt.cells), .row 3 1 y.2.2.2.2.2.2.1 y.2.2.2.2.1.length y.2.2.2.2.2.2.2.2 (ints y.2.2.2.2.1), .blk hb (hatO nA nums.length nc y.1 y.2.1)]) rfl rfl rfl F.ent14 (fun a w ha => (zTx (C := ⟨Try.prog, _, _, _, _⟩) (T := []) (tk := 0) (nf := 2) (ny := 3) rfl rfl hN om om om om om om ha).mono (fun e w' h => by obtain ⟨t', s', k', f', d', A', D', c', dc', h1, h2, h3, h4, h5, h6, h7⟩ := h; exact ⟨(t', s', k', f', d', A', D', c', dc'), ⟨by omega, h2, h5, h3, h4⟩, h6, h7⟩)) ?_))))))
 rintro ⟨tk, st, kiln, fs, days, A, D, c, dc⟩ ⟨htk, hst, hc, hnf, hny⟩
 dsimp only at htk hst hc hnf hny ⊢
 refine zV rfl F.ti27 ?_
 intro b4
 refine zI rfl rfl F.ti27 rfl ?_
 refine zA (zC (zD (zB (zTe D ?_))))
 intro hcap
 have hf1 := hc.f1
 have hd4 := hc.d4
 refine jA rfl rfl F.agg27 F.ti27 ?_
 refine kP (X := Nat × Nat) (vs := [_]) (p := fun g => MostP fs kiln (days.take days.length) g.1 g.2) (val := fun g => .tuple #[.int .i64 (g.1 : Int), .int .i64 (g.2 : Int)]) (rs := fun _ => []) rfl rfl F.ent37 (fun a w ha => (zXa hc hcap w (hR.later ha.below) (zSm (A := A) ha hf1) (wC (A := A) ha rfl) (wB (A := D) ha rfl)).mono (fun e w' h => ?_)) ?_
 ·obtain ⟨⟨n, er, h1, h2⟩, h3⟩ := h
  exact ⟨(n, er), h1, h2, h3⟩
 rintro ⟨n, er⟩ hmp
 dsimp only [List.nil_append] at hmp ⊢
 obtain ⟨hn12, hNe, hP⟩ := leftL hc hmp
 refine zF rfl rfl (zO rfl rfl rfl (zO rfl rfl rfl (zE rfl rfl (zE rfl rfl (zA (zC (zD (zB (jA rfl rfl F.agg27 F.ti27 ?_)))))))))
 refine jL (v := .tuple #[.bool (bstA fs kiln days).is, .bool true]) (vs := [_]) rfl rfl F.ent25 (fun a w ha => zUn hc w (wC (A := A) ha rfl) (wB (A := D) ha rfl)) ?_
 rw [show (bstA fs kiln days).is = decide (er = 0) from by rcases hNe with ⟨h1, h2⟩ | ⟨h1, _, h2⟩ <;> rw [h2, h1] <;> rfl]
 refine zF rfl rfl (zO rfl rfl rfl (zO rfl rfl rfl (zE rfl rfl (zE rfl rfl (zA (zC (zD (zD (zB (zF rfl rfl (kS rfl rfl (zF rfl rfl (zK rfl rfl (zF rfl rfl (zK rfl rfl (zF rfl rfl (zK rfl rfl (zJ rfl rfl rfl jO ?_))))))))))))))))))
 refine zK rfl rfl (zBz (v := .bool false) rfl rfl rfl (fun w => by rw [zAl Try.underlying4]; refine congrArg (fun b => Result.ok (Value.bool b) w) ?_; by_cases h : er = 0 <;> simp [h] <;> omega) ?_)
 refine jG rfl rfl rfl (zF rfl rfl (vS 10 53 (.bool false) ?_ ?_))
 ·refine zK rfl rfl (zF rfl rfl (zK rfl rfl (zFy rfl rfl (zTu rfl) ?_)))
  refine zK rfl rfl (zF rfl rfl (xO (t := 46) rfl (fun hg46 => ?_) (fun hg46 => ?_)))
  ·refine zK rfl rfl (zF rfl rfl (zK rfl rfl ?_))
   have her : er = 11 ∧ n = 0 := by
    rcases hNe with ⟨h1, h2⟩ | ⟨h1, h3, h2⟩
    ·exact absurd h1 hg46
    ·exact ⟨h1, h3⟩
   refine zJ (v := .bool false) rfl rfl rfl (fun w => by rw [qP, decide_eq_false om]) ?_
   refine zK rfl rfl (zF rfl rfl (zK rfl rfl (zF rfl rfl (zK rfl rfl (zJ (v := .bool false) rfl rfl rfl (fun w => by rw [qP, decide_eq_false om]) ?_)))))
   refine zK rfl rfl (jG rfl rfl rfl (zK rfl rfl (jD rfl rfl rfl (zA ?_))))
   exact qI (.cons (by first | rfl | simp_all [look]) sbn) sbl
  ·refine zU rfl rfl rfl (zU rfl rfl rfl (zU rfl rfl rfl (kH rfl rfl rfl (kH rfl rfl rfl (zU rfl rfl rfl (zK rfl rfl (jG rfl rfl rfl (zA ?_))))))))
   exact qI (.cons (by first | rfl | simp_all [look]) sbn) sbl
 refine zTv rfl rfl rfl rfl (zF rfl rfl (zK rfl rfl (zF rfl rfl (zK rfl rfl (zJ (v := .bool false) rfl rfl rfl (fun w => by rw [kJ, decide_eq_false om]) ?_)))))
 refine jG rfl rfl rfl (zF rfl rfl (zK rfl rfl (zF rfl rfl (zK rfl rfl (zJ (v := .bool false) rfl rfl rfl (fun w => by rw [yY, decide_eq_false om]) ?_)))))
 refine jG rfl rfl rfl (zA (zC (kA rfl (zT (zC (zD (zD (zB (zE rfl rfl (zA (zC (zZ (vG (G := Nat) (fun k => k <= 2) (fun k => 2 - k) (fun k => [(4, .pointer (some ⟨b4, 0, none⟩)), (5, .int .i64 (n : Int)), (6, .int .i64 (er : Int)), (7, .bool (decide (er = 0))), (9, .int .i64 (k : Int))]) (fun k => [.blk b4 (.cells [.slice A fs.length c, .int .i64 (kiln : Int), .slice D days.length dc].toArray 27 (0, 0)), .row 49 4 A fs.length c (fs.flatMap Flt.cells), .row 3 1 D days.length dc (ints days)]) 0 (Nat.zero_le _) sbn pkk ?_)))))))))))))
 intro k hk0
 (try dsimp only at hk0 ⊢)
 refine zD (zD (zB (vS 11 73 (.bool (decide (k < 2 ∧ er = 0 ∧ n + k <= 12))) ?_ ?_)))
 ·refine zF rfl rfl (zJ rfl rfl rfl kJ ?_)
  refine zF rfl rfl (xO (t := 65) rfl (fun hg65 => ?_) (fun hg65 => ?_))
  ·refine zK rfl rfl (zF rfl rfl (jD rfl rfl rfl (zF rfl rfl (xO (t := 68) rfl (fun hg68 => ?_) (fun hg68 => ?_)))))
   ·refine zK rfl rfl (zF rfl rfl (zK rfl rfl (zF rfl rfl (zK rfl rfl (zJ (v := .int .i64 ((n + k : Nat) : Int)) rfl rfl rfl (fun w => jN w (by rw [jC _ om om]; omega)) ?_)))))
    refine zK rfl rfl (zJ rfl rfl rfl zFq ?_)
    refine jD rfl rfl rfl (zA ?_)
    exact qI (.cons (by first | rfl | (refine congrArg (fun b => some (Value.bool b)) ?_; rw [Bool.eq_iff_iff]; simp only [decide_eq_true_eq] <;> omega)) sbn) sbl
   ·refine zU rfl rfl rfl (zU rfl rfl rfl (zU rfl rfl rfl (zU rfl rfl rfl (jG rfl rfl rfl (zA ?_)))))
    exact qI (.cons (by first | rfl | (refine congrArg (fun b => some (Value.bool b)) ?_; rw [Bool.eq_iff_iff]; simp only [decide_eq_true_eq, Bool.false_eq_true, false_iff] <;> omega)) sbn) sbl
  ·refine zU rfl rfl rfl (jG rfl rfl rfl (zF rfl rfl (zU rfl rfl rfl (zU rfl rfl rfl (zU rfl rfl rfl (zU rfl rfl rfl (jG rfl rfl rfl (zA ?_))))))))
   exact qI (.cons (by first | rfl | (refine congrArg (fun b => some (Value.bool b)) ?_; rw [Bool.eq_iff_iff]; simp only [decide_eq_true_eq, Bool.false_eq_true, false_iff] <;> omega)) sbn) sbl
 refine zA (zC (zP rfl (fun hc1 => ?_) (fun hc1 => ?_)))
 ·obtain ⟨hk2, her, hnk⟩ := hc1
  refine zT (zC (zD (zZ (zD (zB (jA rfl rfl F.agg27 F.ti27 ?_))))))
  refine kP (X := Option Addr × Nat × Option Addr × Nat) (vs := [_]) (p := fun _ => True) (val := fun g => .agg [.slice g.1 fs.length g.2.1, .int .i64 (kiln : Int), .slice g.2.2.1 days.length g.2.2.2].toArray) (rs := fun g => [.row 49 4 g.1 fs.length g.2.1 (fs.flatMap Flt.cells), .row 3 1 g.2.2.1 days.length g.2.2.2 (ints days)]) rfl rfl F.ent24 (fun a w ha => (zJd hc.f1 (by have := hc.f3; omega) hc.d1 (by have := hc.d4; omega) w (wC (A := A) ha rfl) (wB (A := D) ha rfl)).mono (fun e w' h => by obtain ⟨A', c', D', dc', h1, h2⟩ := h; exact ⟨(A', c', D', dc'), trivial, h1, h2⟩)) ?_
  rintro ⟨A2, c2, D2, dc2⟩ -
  dsimp only [List.cons_append, List.nil_append]
  refine zV rfl F.ti27 ?_
  intro b10
  refine zI rfl rfl F.ti27 rfl ?_
  refine zA (zC (zD (zB (zM rfl rfl F.fi27_2 F.ti22 ?_))))
  refine zQ rfl rfl F.one22 ?_
  refine zF rfl rfl (zF rfl rfl (zJ (v := .int .i64 ((n + k : Nat) : Int)) rfl rfl rfl (fun w => jN w (by rw [jC _ om om]; omega)) ?_))
  refine kE (vs := [(0, _)]) rfl rfl Try.underlying22 F.ti3 rfl rfl rfl ?_
  intro b83
  refine kX rfl rfl rfl Try.underlying22 F.ti3 rfl rfl rfl (by unfold maxLen; omega) om ?_
  intro D4 dc4
  rw [<- zJx]
  refine zM rfl rfl F.fi27_2 F.ti22 ?_
  refine zI rfl rfl F.ti22 rfl ?_
  refine zA (zC (zD (zB (jA rfl rfl F.agg27 F.ti27 ?_))))
  refine jL (v := .tuple #[.bool (bstA fs kiln (days ++ [n + k])).is, .bool true]) (vs := [_]) rfl rfl F.ent25 (fun a w ha => ?_) ?_
  ·have h := zUn (fA := A2) (fc := c2) (dA := D4) (dc := dc4) (hc.push (x := n + k) hny hnk) w (wC (A := A2) ha rfl) (wB (A := D4) ha (by simp))
   rw [List.length_append, List.length_singleton] at h
   exact h
  rw [hP (n + k) her]
  refine zF rfl rfl (zO rfl rfl rfl (zO rfl rfl rfl (zE rfl rfl (zE rfl rfl (zA (zC (zD (zB (zF rfl rfl (kS rfl rfl (zF rfl rfl (zK rfl rfl (zF rfl rfl (zK rfl rfl (zF rfl rfl (zK rfl rfl (zJ rfl rfl rfl jO ?_)))))))))))))))))
  refine zK rfl rfl (zBz (v := .bool false) rfl rfl rfl (fun w => by rw [zAl Try.underlying4]; refine congrArg (fun b => Result.ok (Value.bool b) w) ?_; rcases Nat.eq_zero_or_pos k with h | h <;> simp <;> omega) ?_)
  refine jG rfl rfl rfl (zA (zC (kA rfl (zT (zN (zC (zB (zF rfl rfl (zJ rfl rfl rfl (fun w => jN w (jC _ om om)) ?_)))))))))
  refine zE rfl rfl (zA (qU (k + 1) om tdo sbn pkk))
 ·refine kB (zR (zR (jJ (zC (zD (zB (jA rfl rfl F.agg27 F.ti27 ?_)))))))
  refine jL (v := .tuple #[.int .i64 ((optN (klnN fs days 4) : Nat) : Int), .int .i64 ((optE (klnN fs days 4) : Nat) : Int)]) (vs := [_]) rfl rfl F.ent38 (fun a w ha => zWx hc w (wC (A := A) ha rfl) (wB (A := D) ha rfl)) ?_
  obtain ⟨hK1, hK2, hK3⟩ := zXp (days := days) hc.f3 hc.ff
  generalize optN (klnN fs days 4) = lx at hK1 hK2 hK3 ⊢
  generalize optE (klnN fs days 4) = le at hK1 hK3 ⊢
  refine zF rfl rfl (zO rfl rfl rfl (zO rfl rfl rfl (zE rfl rfl (zE rfl rfl (zA (zC (zD (zB (zE rfl rfl (zA (zC (zD (zD (zB (zE rfl rfl (zA (zC (zZ (vG (G := Nat × Nat) (fun g => g.1 <= 4 ∧ g.2 <= 99 ∧ ∀ j, g.1 <= j -> j <= 3 -> (bstA fs j days).is = true -> (bstA fs j days).f <= g.2) (fun g => 4 - g.1) (fun g => [(4, .pointer (some ⟨b4, 0, none⟩)), (13, .int .i64 (lx : Int)), (14, .int .i64 (le : Int)), (15, .int .i64 (g.2 : Int)), (16, .int .i64 (g.1 : Int))]) (fun g => [.blk b4 (.cells [.slice A fs.length c, .int .i64 (kiln : Int), .slice D days.length dc].toArray 27 (0, 0)), .row 49 4 A fs.length c (fs.flatMap Flt.cells), .row 3 1 D days.length dc (ints days)]) (0, 99) ⟨Nat.zero_le _, Nat.le_refl _, fun j _ _ _ => Nat.le_trans (zN1 hc.f3) om⟩ sbn pkk ?_)))))))))))))))))))
  rintro ⟨kl, bef⟩ ⟨hkl, hb99, hbef⟩
  dsimp only at hkl hb99 hbef ⊢
  refine zD (zD (zB (zF rfl rfl (zJ rfl rfl rfl zFq ?_))))
  refine zA (zC (zP rfl (fun hc3 => ?_) (fun hc3 => ?_)))
  ·have hkl3 : kl <= 3 := by omega
   have hK4 := hK3 kl hkl3
   have hbk := hbef kl (Nat.le_refl _) hkl3
   have hfl := zN1 (fs := fs) (kiln := kl) (days := days) hc.f3
   refine zT (zC (zD (zZ (zD (zB (jA rfl rfl F.agg27 F.ti27 ?_))))))
   refine kP (X := Option Addr × Nat × Option Addr × Nat) (vs := [_]) (p := fun _ => True) (val := fun g => .agg [.slice g.1 fs.length g.2.1, .int .i64 (kiln : Int), .slice g.2.2.1 days.length g.2.2.2].toArray) (rs := fun g => [.row 49 4 g.1 fs.length g.2.1 (fs.flatMap Flt.cells), .row 3 1 g.2.2.1 days.length g.2.2.2 (ints days)]) rfl rfl F.ent24 (fun a w ha => (zJd hc.f1 (by have := hc.f3; omega) hc.d1 (by have := hc.d4; omega) w (wC (A := A) ha rfl) (wB (A := D) ha rfl)).mono (fun e w' h => by obtain ⟨A', c', D', dc', h1, h2⟩ := h; exact ⟨(A', c', D', dc'), trivial, h1, h2⟩)) ?_
   rintro ⟨A2, c2, D2, dc2⟩ -
   dsimp only [List.cons_append, List.nil_append]
   refine zV rfl F.ti27 ?_
   intro b17
   refine zI rfl rfl F.ti27 rfl ?_
   refine zA (zC (zD (zB (zF rfl rfl (zM rfl rfl F.fi27_1 F.ti3 ?_)))))
   refine zI rfl rfl F.ti3 rfl ?_
   refine zA (zC (zD ?_))
   have hmono := fun (j : Nat) (h : kl <= j) (h2 : (bstA fs kl days).is = true) => (zJj hc.f3 hc.ff h h2).2
   rcases his : (bstA fs kl days).is with _ | _
   ·refine zB (jA rfl rfl F.agg27 F.ti27 ?_)
    refine kP (X := Option Addr × Nat × Nat) (vs := [_]) (p := fun _ => True) (val := fun g => .tuple #[.slice g.1 g.2.1 g.2.2, .int .i64 ((oF (bstA fs kl days) : Nat) : Int), .int .i64 ((oE (bstA fs kl days) : Nat) : Int)]) (rs := fun g => []) rfl rfl F.ent15 (fun a w ha => (zCm (hc.kil hkl3) w (wC (A := A2) ha rfl) (wB (A := D2) ha rfl)).mono (fun e w' h => by obtain ⟨oA, on, oc, h1, h2⟩ := h; exact ⟨(oA, on, oc), trivial, h1, h2⟩)) ?_
    rintro ⟨oA, on, oc⟩ -
    dsimp only [List.nil_append]
    rw [show oE (bstA fs kl days) = 11 from by simp [oE, his], show oF (bstA fs kl days) = 0 from by simp [oF, his]]
    refine zF rfl rfl (zO rfl rfl rfl (zO rfl rfl rfl (zO rfl rfl rfl (zE rfl rfl (zE rfl rfl (zE rfl rfl (zA (zC (zD (zD (zB (zF rfl rfl (zJ rfl rfl rfl qP ?_)))))))))))))
    refine zF rfl rfl (zK rfl rfl (zF rfl rfl (zK rfl rfl (zJ rfl rfl rfl qP ?_))))
    refine jD rfl rfl rfl (zF rfl rfl (zK rfl rfl (zF rfl rfl (zK rfl rfl (zJ rfl rfl rfl jO ?_)))))
    refine vS 7 133 (.bool false) ?_ ?_
    ·refine zK rfl rfl (zF rfl rfl (zK rfl rfl (zJ rfl rfl rfl jO ?_)))
     refine zK rfl rfl (zF rfl rfl (xO (t := 129) rfl (fun hg129 => ?_) (fun hg129 => ?_)))
     ·refine zK rfl rfl (zF rfl rfl (zK rfl rfl (zF rfl rfl (zK rfl rfl (zJ (v := .bool false) rfl rfl rfl (fun w => by rw [zNz, decide_eq_false (by intro h9; have := hK4.2 ⟨by simpa using hg129, by omega⟩; rw [his] at this; cases this)]) ?_)))))
      refine zK rfl rfl (jD rfl rfl rfl (zA ?_))
      exact qI (.cons (by first | rfl | simp_all [look]) sbn) sbl
     ·refine zU rfl rfl rfl (zU rfl rfl rfl (zU rfl rfl rfl (zK rfl rfl (jG rfl rfl rfl (zA ?_)))))
      exact qI (.cons (by first | rfl | simp_all [look]) sbn) sbl
    refine zK rfl rfl (zBz (v := .bool false) rfl rfl rfl (fun w => by rw [zAl Try.underlying4]; rfl) ?_)
    refine jG rfl rfl rfl (zF rfl rfl (zK rfl rfl (zF rfl rfl (zK rfl rfl (zJ rfl rfl rfl jO ?_)))))
    refine zK rfl rfl (zF rfl rfl (zU rfl rfl rfl (zU rfl rfl rfl (zU rfl rfl rfl (zK rfl rfl (jG rfl rfl rfl (jG rfl rfl rfl (zA (zC (kA rfl (zT (zC (zD (zB (zF rfl rfl (zJ rfl rfl rfl jO ?_))))))))))))))))
    refine zA (zC (kA rfl (zT (zN (zC (zB (zF rfl rfl (zJ rfl rfl rfl (fun w => jN w (jC _ om om)) ?_))))))))
    refine zE rfl rfl (zA (qU (kl + 1, bef) ⟨by omega, hb99, fun j hj => hbef j om⟩ tdo sbn pkk))
   ·refine zB (jA rfl rfl F.agg27 F.ti27 ?_)
    refine kP (X := Option Addr × Nat × Nat) (vs := [_]) (p := fun _ => True) (val := fun g => .tuple #[.slice g.1 g.2.1 g.2.2, .int .i64 ((oF (bstA fs kl days) : Nat) : Int), .int .i64 ((oE (bstA fs kl days) : Nat) : Int)]) (rs := fun g => []) rfl rfl F.ent15 (fun a w ha => (zCm (hc.kil hkl3) w (wC (A := A2) ha rfl) (wB (A := D2) ha rfl)).mono (fun e w' h => by obtain ⟨oA, on, oc, h1, h2⟩ := h; exact ⟨(oA, on, oc), trivial, h1, h2⟩)) ?_
    rintro ⟨oA, on, oc⟩ -
    dsimp only [List.nil_append]
    rw [show oE (bstA fs kl days) = 0 from by simp [oE, his], show oF (bstA fs kl days) = (bstA fs kl days).f from by simp [oF, his]]
    refine zF rfl rfl (zO rfl rfl rfl (zO rfl rfl rfl (zO rfl rfl rfl (zE rfl rfl (zE rfl rfl (zE rfl rfl (zA (zC (zD (zD (zB (zF rfl rfl (zJ rfl rfl rfl qP ?_)))))))))))))
    refine zF rfl rfl (zU rfl rfl rfl (zU rfl rfl rfl (jG rfl rfl rfl (zF rfl rfl (zK rfl rfl (zF rfl rfl (zK rfl rfl (zJ rfl rfl rfl jO ?_))))))))
    refine zK rfl rfl (zF rfl rfl (zK rfl rfl (zJ (v := .bool true) rfl rfl rfl (fun w => by rw [jO, decide_eq_true (by have := (hK4.1 his).1; omega)]) ?_)))
    refine zK rfl rfl (zF rfl rfl (zK rfl rfl (zF rfl rfl (zK rfl rfl (zF rfl rfl (zK rfl rfl (zJ (v := .bool true) rfl rfl rfl (fun w => by rw [zNz, decide_eq_true (by have := (hK4.1 his).2; omega)]) ?_)))))))
    refine zK rfl rfl (jD rfl rfl rfl (zK rfl rfl (zBz (v := .bool false) rfl rfl rfl (fun w => by rw [zAl Try.underlying4]; rfl) ?_)))
    refine jG rfl rfl rfl (zF rfl rfl (zK rfl rfl (zF rfl rfl (zK rfl rfl (zJ rfl rfl rfl jO ?_)))))
    refine zK rfl rfl (zF rfl rfl (zK rfl rfl (zF rfl rfl (zK rfl rfl (zF rfl rfl (zK rfl rfl (zJ (v := .bool false) rfl rfl rfl (fun w => by rw [yY, decide_eq_false (by have := hbk his; omega)]) ?_)))))))
    refine zK rfl rfl (jD rfl rfl rfl (jG rfl rfl rfl (zA (zC (kA rfl (zT (zC (zD (zB (zF rfl rfl (zJ rfl rfl rfl jO ?_)))))))))))
    refine zA (zC (kN rfl (zB (zF rfl rfl (zE rfl rfl (zA (zN (zC (zB (zF rfl rfl (zJ rfl rfl rfl (fun w => jN w (jC _ om om)) ?_)))))))))))
    refine zE rfl rfl (zA (qU (kl + 1, (bstA fs kl days).f) ⟨by omega, by dsimp only; omega, fun j hj h3 _ => hmono j om his⟩ tdo sbn pkk))
  ·refine kB (zR (zR (jJ (zC (zD (zB (vS 10 157 (.bool true) ?_ ?_)))))))
   ·refine zF rfl rfl (zJ rfl rfl rfl jO ?_)
    refine zF rfl rfl (xO (t := 150) rfl (fun hg150 => ?_) (fun hg150 => ?_))
    ·refine zU rfl rfl rfl (zU rfl rfl rfl (zU rfl rfl rfl (kH rfl rfl rfl (kH rfl rfl rfl (zU rfl rfl rfl (jD rfl rfl rfl (zA ?_)))))))
     exact qI (.cons (by first | rfl | (refine congrArg (fun b => some (Value.bool b)) ?_; rw [Bool.eq_iff_iff]; simp only [decide_eq_true_eq, Bool.false_eq_true, false_iff, iff_false, true_iff, iff_true] <;> omega)) sbn) sbl
    ·refine zK rfl rfl (zF rfl rfl (zK rfl rfl (zJ rfl rfl rfl jO ?_)))
     refine zK rfl rfl (zF rfl rfl (xO (t := 153) rfl (fun hg153 => ?_) (fun hg153 => ?_)))
     ·refine zK rfl rfl (zF rfl rfl (zK rfl rfl (zJ rfl rfl rfl jO ?_)))
      refine zK rfl rfl (jD rfl rfl rfl (jG rfl rfl rfl (zA ?_)))
      exact qI (.cons (by first | rfl | (refine congrArg (fun b => some (Value.bool b)) ?_; rw [Bool.eq_iff_iff]; simp only [decide_eq_true_eq, iff_true] <;> omega)) sbn) sbl
     ·refine zU rfl rfl rfl (zU rfl rfl rfl (zK rfl rfl (jG rfl rfl rfl (jG rfl rfl rfl (zA ?_)))))
      exact qI (.cons (by first | rfl | (refine congrArg (fun b => some (Value.bool b)) ?_; rw [Bool.eq_iff_iff]; simp only [Bool.false_eq_true, iff_true] <;> omega)) sbn) sbl
   refine zF rfl rfl (zK rfl rfl (jL (v := .bool true) (vs := []) rfl rfl F.ent20 (fun a w ha => zSa w (hR.later ha.below)) ?_))
   refine jD rfl rfl rfl (zE rfl rfl (zA (zC (zW ?_))))
   exact jF rfl (fun a w ha => jQ rfl rfl ha) (fun a w ha => ⟨rfl, ha.grown nsl⟩)

end Go.Proofs.Yteppiphdbondeaa.N
namespace Go.Proofs.Yteppiphdbondeaa.N
open Go Go.RowKit Go.Conc
set_option linter.unusedSectionVars false

def seenZ (W : World) : World := { seenW W with output := gout [0] }
theorem zRy (W : World) : Hid (Viewed W) (fun _ => False) W (seenZ W) := by
 have h := zQz W
 exact ⟨h.1, h.2, h.3, h.4, h.5, h.6, h.7, h.8, h.9, h.10⟩
theorem zQc {W : World} {p : Addr} {u : Value} (h : W.cell? p = some u) : (seenZ W).cell? p = some u := zOz h
section
variable {P : Program} {W : World} {f : FuncId} {args : Array Value} {Post : Value -> World -> Prop}
theorem zM7 {F : Nat -> Prop} {w w' v' : World} (hk : Kept F (fun _ => False) w w') (hv : Hid F (fun _ => False) w' v') (hb : Bas W (Viewed W) (fun i => i = 0) (fun _ => F) w) (hv0 : Below (seenZ W).heap.size (seenZ W) v') : Below W.heap.size W w' := by
 refine ⟨hk.os.trans hb.os, hk.tape.trans hb.tape, hk.output.trans hb.output, Nat.le_trans hb.size hk.size, fun b hlt => ?_⟩
 by_cases hF : F b
 ·rw [hk.block b (Nat.lt_of_lt_of_le hlt hb.size) (.inl hF)]
  exact (hb.held b (hb.new b hlt hF)).2.1
 ·rw [<- hv.same b hF (fun x => x), hv0.block b (by simpa [seenZ, seenW] using hlt)]
  show (seenW W).heap[b]? = _
  rw [zAq]
  cases h : W.heap[b]? with
  | none => rfl
  | some o =>
   cases o with
   | view p t => exact absurd ((hb.held b ⟨p, t, h⟩).2.2 0 rfl) hF
   | _ => rfl
def sig0 : Cst := ⟨0, 0, 0, [], 0, false, false, false, 0, 0, .rest, [], [], fun _ => none, []⟩
theorem zPl : sig0.blank := ⟨fun _ => rfl, rfl, rfl, rfl, rfl, rfl, rfl, rfl, rfl⟩
theorem zU3 (low : Nat) : Cok low sig0 := by
 refine ⟨List.nodup_nil, rfl, fun j => ?_, fun j p h => (by cases h), fun b hb => (by cases hb), fun h => (by cases h), fun h => (by cases h), fun h => (by cases h), by decide, rfl, .nil, zPl⟩
 constructor
 ·intro h; cases h
 ·rintro ⟨p, h⟩; cases h
theorem zVe {low : Nat} {tW : TypeId} {msg : Nat -> Value} {σ : Cst} (hok : Cok low σ) (h : σ.gh 0 = some [0]) : Alone (Cp low tW msg) σ ∧ σ.lent = [] ∧ ∀ c, ¬ (Cst.ts σ).Ca c := by
 rw [zAc] at h
 have hp := hok.phase
 cases hm : σ.mn <;> rw [hm] at h <;> simp [Mn.enc] at h
 unfold Cst.phase at hp
 rw [hm] at hp
 obtain ⟨h1, h2, h3, h4, h5, h6, h7, h8, h9⟩ := hp
 refine ⟨?_, h9, fun c hc => ?_⟩
 ·refine ⟨fun j hj => zAe hj h1, ?_⟩
  show (Cst.ts σ).D 0 = 0
  simp [Cst.ts, hm, Mn.deaf]
 ·rcases hc with ⟨h, _⟩ | ⟨h, _⟩ <;> omega
theorem zI3 {low : Nat} {tW : TypeId} {msg : Nat -> Value} (hK : low = W.heap.size) (noInit : P.inits.idxOf? f = none)
  (h : @Calls P (zSys P (Cp low tW msg)) f args (seenZ W) fun e v' => ∃ x, e = .returned x ∧ Below (seenZ W).heap.size (seenZ W) v' ∧ ∀ W', Below W.heap.size W W' -> Post x W') :
  ∃ N last o w' t', runNT P (N + 1) (solo (G (Frame.enter P f args .normal) []) W) #[] = (.ended o w', t') ∧ runN P N (solo (G (Frame.enter P f args .normal) []) W) = .next last ∧ step P last = .ended o w' ∧ Go.Conc.Good P Post last o w' t' := by
 refine zWz (K := Cp low tW msg) (σ := sig0) (γ := [0]) zVl hK (zRy W) rfl (zU3 low) rfl (fun j hj => zAh hj rfl) (fun b hb => (by cases hb)) rfl rfl (@Gs.mono P (zSys P (Cp low tW msg)) _ _ _ _ (h []) fun g v' hs => ?_)
 obtain ⟨e, fr, v₀, ⟨x, rfl, hb, hp⟩, hr, rfl, hfn, hm, hd, hkd, fn, hf, ht, hres⟩ := hs
 have hb' : Below (seenZ W).heap.size (seenZ W) v' := hb.trans (hr.mono hb.size)
 refine ⟨rfl, ⟨[0], hb'.output, fun σ hok hg => zVe hok hg⟩, fun F w hv hbas => ?_⟩
 obtain ⟨w', h1, h2, h3, h4, h5⟩ := ht.ok (hres v' (Rl.refl v')) hv
 have hno : P.inits.idxOf? fr.fn = none := by rw [hfn]; exact noInit
 refine ⟨x, w', seen P fr.fn ((results fn fr.tmps).events P v' #[]), ?_, ?_, hp w' (zM7 h4 h3 hbas hb')⟩
 ·rw [<- h2]
  simp [G, stepG, unwind, doReturn, hm, hd, hkd, hf, h1, hno, GStep.after]
 ·rw [<- hv.size]
  exact fun e he => h5 e (Go.Conc.mem_seen he)
end
theorem zAj {H : Type} {enc : TypeId × Value -> H} {a : Assume} {C : Checked} {os : Os} {f : FuncId} {fn : Func} {s : ChangeSpec} {conds : List PathCond} {apart fresh handsOn again : Bool} (tW : TypeId) (msg : Nat -> Value)
  (own : ownKnob C.prog.godebug = none) (started : os.Started) (noInit : C.prog.inits.idxOf? f = none) (hfn : C.prog.funcs[f]? = some fn)
  (witness : ∃ (w : World) (tape : Tape) (i : Input), w.os = os ∧ (w.forCall tape i).Shaped C.prog ∧ i.vars = [] ∧ Input.okWide C.prog (w.forCall tape i) .any w.heap.size f i ∧
   s.pre6 enc C.prog fn conds apart (w.forCall tape i).memory i.args ∧ a.holds C.prog (lone (Frame.enter C.prog f i.args .normal) [] (w.forCall tape i)))
  (contract : ∀ (W : World) (base : Nat) (args : Array Value) (ds gs : List (DataW H)) (before : List MemPlace),
   (∀ (j : Nat) t v, fn.params[j]? = some t -> args[j]? = some v -> Value.okWide C.prog W .any base t v) ->
   DataW.Whole enc C.prog fn.params.toList s.vars apart W args.toList ds gs before ->
   conds.all (PathCond.test C.prog ⟨fn.params.toList, ds, s.plain.varTypes C.prog, gs⟩) = true ->
   (DataW.weightsEach C.prog (fn.params.toList ++ s.plain.varTypes C.prog) (ds ++ gs)).all (· <= reachBytes) = true ->
   a.holds C.prog (lone (Frame.enter C.prog f args .normal) [] W) ->
   @Calls C.prog (zSys C.prog (Cp W.heap.size tW msg)) f args (seenZ W) fun e v' => ∃ x, e = .returned x ∧ Below (seenZ W).heap.size (seenZ W) v' ∧ ∀ W', Below W.heap.size W W' -> s.post enc C.prog fn apart fresh handsOn again W args x W') :
  ReturnsInLeavingWide a C os f .any (s.pre6 enc C.prog fn conds apart) (s.post enc C.prog fn apart fresh handsOn again) := by
 refine returnsInLeavingWide_of_good own started witness ?_
 intro w tape i _ _ _ hok hpre hholds
 obtain ⟨_, _, _, fn', hfn', _, _, _, _, hval⟩ := hok
 have e : fn' = fn := Option.some.inj (hfn'.symm.trans hfn)
 subst e
 obtain ⟨⟨ds, gs, before, hw, hc⟩, hz⟩ := hpre
 have hw' := DataW.Whole.of_heap (w' := w.forCall tape i) (by rfl) hw
 have hcalls := contract (w.forCall tape i) w.heap.size i.args ds gs before hval hw' hc (hz.weights hw) hholds
 obtain ⟨M, last, o, w', t', h1, h2, h3, h4⟩ := zI3 rfl noInit hcalls
 exact ⟨M, last, o, w', t', h1, h2, h3, h4.mono fun v hp => ChangeSpec.post_blind hp⟩
end Go.Proofs.Yteppiphdbondeaa.N
/- What rows of laws about char share: the program's closed facts, and the law from its call in company. -/
namespace Go.Proofs.Yteppiphdbondeaa.N
open Go Go.ChangeShapes Go.WideShapes Go.ChangeAt Go.RowKit Go.Proofs Go.Proofs.Yteppiphdbondeaa Go.Proofs.Yteppiphdbondeaa.Rows
set_option linter.unusedSectionVars false
theorem own_ : ownKnob Try.prog.godebug = Option.none := by kernel_rfl
theorem zLx : laidOutB Try.prog = true := by kernel_rfl
theorem zUz : Try.prog.cellsOf 3 = 1 := by kernel_rfl
theorem zQ3 : Try.prog.underlying 22 = some (.slice 3) := by kernel_rfl
theorem zZi : Try.prog.underlying 3 = some (.int .i64) := by kernel_rfl
theorem zYs : Try.prog.underlying 4 = some .bool := by kernel_rfl
theorem zU2 : Try.prog.readableRec 22 = true := by kernel_rfl
set_option maxRecDepth 100000 in
theorem zZm : 22 < Try.prog.types.size := of_decide_eq_true (by kernel_rfl)
theorem zSl {α : Type} {cells : α -> List Value} {size : Nat} {W : World} {A : Option Addr} {l : List α} (h : RdL cells size W A l) : RdL cells size (seenZ W) A l := fun hl => by
 obtain ⟨b, o, h1, h2, h3⟩ := h hl
 exact ⟨b, o, h1, by simpa [seenZ, seenW] using h2, fun k x hk j u hu => zQc (h3 k x hk j u hu)⟩
abbrev ZS (W : World) : Sys := zSys Try.prog (Cp W.heap.size 131 msgM)
set_option maxRecDepth 100000 in
theorem zJa {H : Type} {enc : TypeId × Value -> H} {f : FuncId} {fn : Func} {s : ChangeSpec} (hp : fn.params = #[22]) (hr : fn.resultTypes = #[4]) (hs : s.vars = []) (hfn : ∀ d : DataW H, s.fn H [d] = { results := [.lit (.bool true)], args := [d] })
  (W : World) (law : ∀ (nA : Option Addr) (nc : Nat) (nums : List Int), RdL icell 1 (seenZ W) nA nums -> @Calls Try.prog (ZS W) f #[.slice nA nums.length nc] (seenZ W) fun e w' => e = .returned (.bool true) ∧ Grew (seenZ W) w' [])
  (base : Nat) (args : Array Value) (ds gs : List (DataW H)) (before : List MemPlace)
  (hval : ∀ (j : Nat) t v, fn.params[j]? = some t -> args[j]? = some v -> Value.okWide Try.prog W .any base t v)
  (hW : DataW.Whole enc Try.prog fn.params.toList s.vars false W args.toList ds gs before) :
  @Calls Try.prog (ZS W) f args (seenZ W) fun e v' => ∃ x, e = .returned x ∧ Below (seenZ W).heap.size (seenZ W) v' ∧ ∀ W', Below W.heap.size W W' -> s.post enc Try.prog fn false true false false W args x W' := by
 have hW' := hW
 obtain ⟨p, q, hA, hV, rfl, _, _⟩ := hW
 rw [hs] at hV
 rw [hp] at hA hval
 obtain ⟨v0, d0, rfl, rfl, h0⟩ := trodAll_one hA
 obtain ⟨rfl, rfl⟩ := trodVars_none hV
 obtain ⟨a0, len, cap, rfl⟩ := okWide_slice zQ3 (hval 0 22 v0 rfl rfl)
 have h0k := h0
 obtain ⟨fuel, hf⟩ := h0
 clear hA
 simp only [List.append_nil] at hW'
 have hlt : ∀ x ∈ p, x.block < W.heap.size := fun x hx => by simpa using hW'.lt x hx
 have hargs : ∀ (W' : World), Below W.heap.size W W' -> DataW.Trod enc Try.prog W' 0 (fun b => decide (b < W.heap.size)) true 22 (.slice a0 len cap) d0 p :=
  fun W' hn => Below.trod zLx zU2 zZm h0k hn hlt
 have close : ∀ nums : List Int, nums.length = len -> RdL icell 1 W a0 nums -> @Calls Try.prog (ZS W) f #[.slice a0 len cap] (seenZ W) fun e v' => ∃ x, e = .returned x ∧ Below (seenZ W).heap.size (seenZ W) v' ∧ ∀ W', Below W.heap.size W W' -> s.post enc Try.prog fn false true false false W #[.slice a0 len cap] x W' := by
  intro nums hn hR
  have hl := law a0 cap nums (zSl hR)
  rw [hn] at hl
  refine @Calls.mono _ (ZS W) _ _ _ _ _ hl fun e v' ⟨he, hg⟩ => ⟨_, he, hg.1, fun W' hb => ?_⟩
  refine ⟨_, _, _, [], p, [], hW', ?_, ?_, ?_, hb.frame _, fun h => Bool.noConfusion h⟩
  ·rw [show s.fn H ([d0] ++ []) = _ from hfn d0, hr]; exact trodAll_mk1 (shut_bool zYs true)
  ·rw [show s.fn H ([d0] ++ []) = _ from hfn d0, hp]; exact trodAll_mk1 (hargs W' hb)
  ·rw [show s.fn H ([d0] ++ []) = _ from hfn d0, hs]; rfl
 rcases open_ints zQ3 zZi zUz hf with ⟨hcs, hx⟩ | ⟨a, len', cap', zs, hcs, _, hl, hm, hz, hx, hcell, hwz⟩
 ·simp [Value.cells] at hcs
  obtain ⟨rfl, rfl, rfl⟩ := hcs
  exact close [] rfl (fun h => absurd h (by simp))
 ·simp [Value.cells] at hcs
  obtain ⟨rfl, rfl, rfl⟩ := hcs
  simp only [Prod.mk.injEq] at hx
  obtain ⟨rfl, rfl⟩ := hx
  simp only [if_true] at hz
  obtain ⟨b, off, spot⟩ := a
  refine close (zs.take len) (by rw [List.length_take]; omega) (fun hpos => ?_)
  rw [List.length_take] at hpos
  have hspot : spot = Option.none := by simpa [Addr.add] using World.cell?_spot (hcell 0 om)
  subst hspot
  refine ⟨b, off, rfl, hlt (.cell b off) (MemPlace.mem_row.2 ⟨0, by omega, by simp⟩), fun k x hk j u hu => ?_⟩
  rw [List.getElem?_take] at hk
  split at hk
  ·rename_i hkl
   cases j with
   | zero =>
    simp [icell] at hu
    subst hu
    have := hcell k om
    rw [List.getD_eq_getElem?_getD, hk] at this
    rw [Nat.mul_one, Nat.add_zero]
    rw [add_plain] at this
    exact this
   | succ j => simp [icell] at hu
  ·cases hk
def orderN : List Nat := [104, 97, 114, 110, 101, 115, 115, 32, 55, 101, 48, 57, 54, 53, 99, 53, 56, 54, 50, 48, 53, 101, 50, 57, 53, 97, 99, 57, 53, 56, 98, 100, 52, 101, 101, 55, 102, 54, 99, 102, 55, 100, 53, 102, 53, 50, 97, 49, 57, 102, 99, 99, 102, 52, 99, 49, 50, 48, 99, 54, 56, 48, 48, 100, 102, 98, 98, 53, 99, 54, 49, 48, 32, 99, 117, 116, 32, 97, 116, 32, 109, 117, 115, 99, 111, 118, 97, 100, 111, 47, 109, 117, 115, 99, 111, 118, 97, 100, 111, 108, 97, 119, 48, 52, 46, 67, 104, 97, 114, 70, 101, 119, 101, 115, 116, 32, 109, 117, 115, 99, 111, 118, 97, 100, 111, 47, 109, 117, 115, 99, 111, 118, 97, 100, 111, 108, 97, 119, 48, 52, 46, 67, 104, 97, 114, 70, 105, 114, 115, 116, 32, 109, 117, 115, 99, 111, 118, 97, 100, 111, 47, 109, 117, 115, 99, 111, 118, 97, 100, 111, 108, 97, 119, 48, 52, 46, 67, 104, 97, 114, 66, 117, 121, 32, 109, 117, 115, 99, 111, 118, 97, 100, 111, 47, 109, 117, 115, 99, 111, 118, 97, 100, 111, 108, 97, 119, 48, 52, 46, 67, 104, 97, 114, 83, 116, 114, 111, 110, 103, 101, 114, 32, 109, 117, 115, 99, 111, 118, 97, 100, 111, 47, 109, 117, 115, 99, 111, 118, 97, 100, 111, 108, 97, 119, 48, 52, 46, 67, 104, 97, 114, 67, 108, 101, 97, 114, 101, 100, 32, 109, 117, 115, 99, 111, 118, 97, 100, 111, 47, 109, 117, 115, 99, 111, 118, 97, 100, 111, 108, 97, 119, 48, 52, 46, 67, 104, 97, 114, 65, 103, 97, 105, 110, 32, 109, 117, 115, 99, 111, 118, 97, 100, 111, 47, 109, 117, 115, 99, 111, 118, 97, 100, 111, 108, 97, 119, 48, 52, 46, 67, 104, 97, 114, 78, 101, 101, 100, 101, 100, 32, 109, 117, 115, 99, 111, 118, 97, 100, 111, 47, 109, 117, 115, 99, 111, 118, 97, 100, 111, 108, 97, 119, 48, 52, 46, 67, 104, 97, 114, 76, 101, 102, 116, 32, 109, 117, 115, 99, 111, 118, 97, 100, 111, 47, 109, 117, 115, 99, 111, 118, 97, 100, 111, 108, 97, 119, 48, 52, 46, 67, 104, 97, 114, 77, 111, 115, 116, 32, 109, 117, 115, 99, 111, 118, 97, 100, 111, 47, 109, 117, 115, 99, 111, 118, 97, 100, 111, 108, 97, 119, 48, 52, 46, 67, 104, 97, 114, 75, 110, 111, 119, 110]
def wordsN : List (List Nat) := [[104, 97, 114, 110, 101, 115, 115], [55, 101, 48, 57, 54, 53, 99, 53, 56, 54, 50, 48, 53, 101, 50, 57, 53, 97, 99, 57, 53, 56, 98, 100, 52, 101, 101, 55, 102, 54, 99, 102, 55, 100, 53, 102, 53, 50, 97, 49, 57, 102, 99, 99, 102, 52, 99, 49, 50, 48, 99, 54, 56, 48, 48, 100, 102, 98, 98, 53, 99, 54, 49, 48], [99, 117, 116], [97, 116], [109, 117, 115, 99, 111, 118, 97, 100, 111, 47, 109, 117, 115, 99, 111, 118, 97, 100, 111, 108, 97, 119, 48, 52, 46, 67, 104, 97, 114, 70, 101, 119, 101, 115, 116], [109, 117, 115, 99, 111, 118, 97, 100, 111, 47, 109, 117, 115, 99, 111, 118, 97, 100, 111, 108, 97, 119, 48, 52, 46, 67, 104, 97, 114, 70, 105, 114, 115, 116], [109, 117, 115, 99, 111, 118, 97, 100, 111, 47, 109, 117, 115, 99, 111, 118, 97, 100, 111, 108, 97, 119, 48, 52, 46, 67, 104, 97, 114, 66, 117, 121], [109, 117, 115, 99, 111, 118, 97, 100, 111, 47, 109, 117, 115, 99, 111, 118, 97, 100, 111, 108, 97, 119, 48, 52, 46, 67, 104, 97, 114, 83, 116, 114, 111, 110, 103, 101, 114], [109, 117, 115, 99, 111, 118, 97, 100, 111, 47, 109, 117, 115, 99, 111, 118, 97, 100, 111, 108, 97, 119, 48, 52, 46, 67, 104, 97, 114, 67, 108, 101, 97, 114, 101, 100], [109, 117, 115, 99, 111, 118, 97, 100, 111, 47, 109, 117, 115, 99, 111, 118, 97, 100, 111, 108, 97, 119, 48, 52, 46, 67, 104, 97, 114, 65, 103, 97, 105, 110], [109, 117, 115, 99, 111, 118, 97, 100, 111, 47, 109, 117, 115, 99, 111, 118, 97, 100, 111, 108, 97, 119, 48, 52, 46, 67, 104, 97, 114, 78, 101, 101, 100, 101, 100], [109, 117, 115, 99, 111, 118, 97, 100, 111, 47, 109, 117, 115, 99, 111, 118, 97, 100, 111, 108, 97, 119, 48, 52, 46, 67, 104, 97, 114, 76, 101, 102, 116], [109, 117, 115, 99, 111, 118, 97, 100, 111, 47, 109, 117, 115, 99, 111, 118, 97, 100, 111, 108, 97, 119, 48, 52, 46, 67, 104, 97, 114, 77, 111, 115, 116], [109, 117, 115, 99, 111, 118, 97, 100, 111, 47, 109, 117, 115, 99, 111, 118, 97, 100, 111, 108, 97, 119, 48, 52, 46, 67, 104, 97, 114, 75, 110, 111, 119, 110]]
set_option maxRecDepth 100000 in
theorem zXw : Try.prog.initOrder = String.ofList (orderN.map Char.ofNat) := by kernel_rfl
theorem zVz : Try.prog.initOrder.toList = orderN.map Char.ofNat := by rw [zXw, String.toList_ofList]
def wordN (k : Nat) : List Char := (wordsN.getD k []).map Char.ofNat
def wordR : List (List Char) := (wordsN.drop 3).map (·.map Char.ofNat)
set_option maxRecDepth 100000 in
theorem zUy : wordsSigns Try.prog.initOrder.toList = wordN 0 :: wordN 1 :: wordN 2 :: wordR := by
 rw [zVz]
 kernel_rfl
theorem zQy {a b : List Char} {r : List (List Char)} (h1 : (a == "harness".toList || a == "ownmain".toList) = true) (h2 : isSumSigns b = true) : behindMainWord (a :: b :: r) = r := by
 unfold behindMainWord
 dsimp only
 rw [h1, h2]
 rfl
theorem zMx : behindMainWord (wordsSigns Try.prog.initOrder.toList) = wordN 2 :: wordR := by
 rw [zUy]
 exact zQy kr kr
theorem zWp {P : Program} {c : List Char} {rest : List (List Char)} (h : behindMainWord (wordsSigns P.initOrder.toList) = c :: rest) (h1 : (c == "gc".toList || c == "spec".toList) = false) (h2 : (c == "cut".toList) = true) : P.make = some .cut := by
 unfold Program.make
 rw [h]
 dsimp only
 rw [h1, h2]
 rfl
theorem zW2 {P : Program} {c : List Char} {rest : List (List Char)} (h : behindMainWord (wordsSigns P.initOrder.toList) = c :: rest) (h1 : (stripLifts liftWords (c :: rest)).1 = []) (h2 : ((stripLifts liftWords (c :: rest)).2.head? == some "cut".toList) = true) (h3 : P.laysLater = false) (h4 : P.bearsReflect = false) (h5 : P.doorFits [] = true) : P.mayEnter = true := by
 unfold Program.mayEnter
 rw [h]
 dsimp only
 rw [h1, h2, h3, h4, h5]
 simp
theorem zTw {P : Program} {c : List Char} {rest : List (List Char)} (h : behindMainWord (wordsSigns P.initOrder.toList) = c :: rest) (h1 : (stripLifts liftWords (c :: rest)).1 = []) (h2 : (c == "carried".toList) = false) : P.liftsFinal = false := by
 have e : (some c == some "carried".toList) = false := h2
 unfold Program.liftsFinal Program.headLifts
 dsimp only
 rw [h, h1, List.head?_cons, e]
 simp
theorem zIh : (stripLifts liftWords (wordN 2 :: wordR)).1 = [] := by kernel_rfl
set_option maxRecDepth 100000 in
theorem zY9 : Try.prog.make = some .cut := zWp zMx (by kernel_rfl) (by kernel_rfl)
set_option maxRecDepth 100000 in
theorem zYk : Try.prog.liftsFinal = false := zTw zMx zIh (by kernel_rfl)
set_option maxRecDepth 100000 in
theorem zO8 : Try.prog.laysLater = false := by kernel_rfl
set_option maxRecDepth 100000 in
theorem zKe : Try.prog.bearsReflect = false := by kernel_rfl
set_option maxRecDepth 100000 in
theorem zZj : Try.prog.doorFits [] = true := by kernel_rfl
set_option maxRecDepth 100000 in
theorem may_ : Try.prog.mayEnter = true := zW2 zMx zIh (by kernel_rfl) zO8 zKe zZj
set_option maxRecDepth 100000 in
theorem zO7 : mapsRowed Try.prog = true := by kernel_rfl
set_option maxRecDepth 100000 in
theorem zPd : Try.prog.plainKeys = false := by kernel_rfl
set_option maxRecDepth 100000 in
theorem zM8 : Try.prog.stopsHeard = true := by kernel_rfl
end Go.Proofs.Yteppiphdbondeaa.N
namespace Go.Proofs.Yteppiphdbondeaa.N
open Go Go.RowKit Go.Proofs
set_option linter.unusedSectionVars false
theorem zUe (W : World) : @RdC (ZS W) (reaC_main W.heap.size) (seenZ W) := ⟨by show W.heap.size <= (seenZ W).heap.size; simp [seenZ, seenW], rfl⟩
end Go.Proofs.Yteppiphdbondeaa.N
