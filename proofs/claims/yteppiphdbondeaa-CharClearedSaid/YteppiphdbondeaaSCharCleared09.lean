/- Parts of the walk of the law CharCleared: T21, ChR, T22, T23, ChB, T24, ChC, T25, ChF, T26, ChH, T27, ChJ. -/
import Derived.Test.YteppiphdbondeaaSCharCleared08
import Derived.Test.YteppiphdbondeaaProg
import Derived.Test.YteppiphdbondeaaSCharCleared05
namespace Go.Proofs.Yteppiphdbondeaa.N
open Go Go.RowKit Go.Proofs
set_option linter.unusedSectionVars false
variable [I : Sys]
theorem F.ent53 : Enters Try.prog 53 := jD Try.func53 rfl (by kernel_rfl)
theorem F.ent54 : Enters Try.prog 54 := jD Try.func54 rfl (by kernel_rfl)
theorem zRc {fA dA : Option Addr} {fc dc kiln f day : Nat} {fs : List Flt} {days : List Nat} (hc : ChV fs kiln days) (hf : f < fs.length) (hd : day < days.length) (w : World) (hF : RdL Flt.cells 4 w fA fs) (hD : RdL ncell 1 w dA days) : Calls Try.prog 19 #[.agg (CA fA fs.length fc kiln dA days.length dc).toArray, .int .i64 (f : Int), .int .i64 (day : Int)] w fun e w' => e = .returned (.tuple #[.int .i64 (((verdO (bstF fs kiln days f day true) (bstF fs kiln days f day false)).1 : Nat) : Int), .int .i64 (((verdO (bstF fs kiln days f day true) (bstF fs kiln days f day false)).2 : Nat) : Int)]) ∧ Grew w w' [] := by
 refine enter (N := 85) [(0, .agg (CA fA fs.length fc kiln dA days.length dc).toArray), (1, .int .i64 (f : Int)), (2, .int .i64 (day : Int))] Try.func19 rfl Try.ntmps19 rfl rfl ?_
 refine zD (zB (jV rfl rfl ?_))
 intro b3
 refine zE rfl rfl (zE rfl rfl (zA (zC (zD (zD (zB (jF rfl rfl F.agg27 F.ti27 ?_)))))))
 refine jO (v := .int .i64 0) (vs := [_]) rfl rfl F.ent43 (fun a w ha => by
  have h := zAy (fA := fA) (dA := dA) (fc := fc) (dc := dc) (fs := fs.map Flt.toZ) (kiln := (kiln : Int)) (days := toZs days) (by have := hc.f3; simp; omega) (by have := hc.d4; simp [toZs]; omega) w (RdL.mapped Flt.toZ (hF.later ha.below) (fun _ => rfl)) (RdL.mapped (fun (n : Nat) => (n : Int)) (hD.later ha.below) (fun _ => rfl))
  rw [chk0 hc] at h
  simpa [toZs] using h) ?_
 refine zE rfl rfl (zA (zC (zD (zB (zF rfl rfl (zJ rfl rfl rfl qM ?_))))))
 refine zA (zC (zN rfl (fun hc0 => ?_) (fun hc0 => ?_)))
 ·exact absurd rfl hc0
  done
 ·refine zS (zC (zD (zD (zB (zF rfl rfl (zL rfl rfl F.fi27_0 F.ti25 ?_))))))
  refine zO rfl rfl F.one25 ?_
  refine kE rfl rfl Try.underlying25 ?_
  refine zJ (v := .int .i64 ((fs.length : Int) - 1)) rfl rfl rfl (fun w => xC w (zT _ (by have := hc.f3; omega) (by have := hc.f3; omega))) ?_
  refine jO (v := .bool true) (vs := [_, _, _]) rfl rfl F.ent52 (fun a w ha => (wA (f : Int) 0 ((fs.length : Int) - 1) w).mono (fun e w' h => ⟨h.1.trans (by rw [show btw (f : Int) 0 ((fs.length : Int) - 1) = true from by unfold btw; simp; omega]), h.2⟩)) ?_
  refine qJ rfl rfl (zF rfl rfl (zP rfl rfl (zF rfl rfl (zP rfl rfl (zL rfl rfl F.fi27_2 F.ti22 ?_)))))
  refine zP rfl rfl (zO rfl rfl F.one22 ?_)
  refine zP rfl rfl (kE rfl rfl Try.underlying22 ?_)
  refine zP rfl rfl (zJ (v := .int .i64 ((days.length : Int) - 1)) rfl rfl rfl (fun w => xC w (zT _ (by have := hc.d4; omega) (by have := hc.d4; omega))) ?_)
  refine zP rfl rfl (jO (v := .bool true) (vs := [_, _, _]) rfl rfl F.ent52 (fun a w ha => (wA (day : Int) 0 ((days.length : Int) - 1) w).mono (fun e w' h => ⟨h.1.trans (by rw [show btw (day : Int) 0 ((days.length : Int) - 1) = true from by unfold btw; simp; omega]), h.2⟩)) ?_)
  refine zP rfl rfl (qJ rfl rfl (kC rfl rfl rfl (zA (zC (kF rfl (zS (zC (zD (zB (jF rfl rfl F.agg27 F.ti27 ?_))))))))))
  refine jX (vs := [(0, _)]) (l' := [_, _, _]) rfl rfl F.ti77 F.pl77 (.cons rfl rfl (.nil _)) rfl ?_
  refine zF rfl rfl (zF rfl rfl (jO (v := .tuple #[.int .i64 (((bstF fs kiln days f day true).f : Nat) : Int), .bool (bstF fs kiln days f day true).is]) (vs := [_, _, _, _]) rfl rfl F.ent53 (fun a w ha => zNw (dc := dc) (fc := fc) (bu := true) hc hf w (hF.later ha.below) (hD.later ha.below)) ?_))
  refine zF rfl rfl (zX rfl rfl rfl (zX rfl rfl rfl (zE rfl rfl (zE rfl rfl (zA (zC (zD (zB (jF rfl rfl F.agg27 F.ti27 ?_)))))))))
  refine jX (vs := [(0, _)]) (l' := [_, _, _]) rfl rfl F.ti77 F.pl77 (.cons rfl rfl (.nil _)) rfl ?_
  refine zF rfl rfl (zF rfl rfl (jO (v := .tuple #[.int .i64 (((bstF fs kiln days f day false).f : Nat) : Int), .bool (bstF fs kiln days f day false).is]) (vs := [_, _, _, _]) rfl rfl F.ent53 (fun a w ha => zNw (dc := dc) (fc := fc) (bu := false) hc hf w (hF.later ha.below) (hD.later ha.below)) ?_))
  refine zF rfl rfl (zX rfl rfl rfl (zX rfl rfl rfl (zE rfl rfl (zE rfl rfl (zA (zC (zD (zD ?_))))))))
  generalize (bstF fs kiln days f day true) = o1
  generalize (bstF fs kiln days f day false) = o2
  obtain ⟨f1, w1, i1⟩ := o1
  obtain ⟨f2, w2, i2⟩ := o2
  dsimp only
  rcases i1 with _ | _ <;> rcases i2 with _ | _
  ·refine zB (zF rfl rfl (qJ rfl rfl (zF rfl rfl (zP rfl rfl (zF rfl rfl (zP rfl rfl (qJ rfl rfl (jK rfl rfl rfl (zA (zC (qH rfl (zD (zB (zE rfl rfl (zE rfl rfl (zA (zC (zZ (jC ?_)))))))))))))))))))
   exact jH rfl (fun a w ha => vT rfl rfl rfl ha) (fun a w ha => ⟨by rfl, ha.grown nsl⟩)
  ·refine zB (zF rfl rfl (qJ rfl rfl (zF rfl rfl (zP rfl rfl (zF rfl rfl (zP rfl rfl (qJ rfl rfl (jK rfl rfl rfl (zA (zC (kF rfl (zS (zC (zD (zB (zE rfl rfl (zA (zC (zD (zW (zD (zW (zD ?_)))))))))))))))))))))))
   refine zW (zD (zD (zD (zB (zF rfl rfl (qJ rfl rfl (zF rfl rfl (jG rfl rfl rfl (jG rfl rfl rfl (kO rfl rfl rfl (kO rfl rfl rfl (kO rfl rfl rfl (jG rfl rfl rfl (jK rfl rfl rfl (zE rfl rfl (zA (zC (qH rfl (jZ (zQ (zQ (jJ (zC ?_)))))))))))))))))))))))
   refine zB (zF rfl rfl (zJ (v := .int .i64 ((2 : Nat) : Int)) rfl rfl rfl (fun w => xC w (zT _ om om)) ?_))
   refine zE rfl rfl (zA (zM (zC (zD (zB (zF rfl rfl (zJ (v := .int .i64 ((1 : Nat) : Int)) rfl rfl rfl (fun w => xC w (zT _ om om)) ?_)))))))
   refine zE rfl rfl (zA (zC (jZ (jJ (zC (zD (zB (zF rfl rfl (jO (v := .int .i64 2) (vs := [_]) rfl rfl F.ent54 (fun a w ha => (zAn 1 om w).mono (fun e w' h => ⟨h.1.trans rfl, h.2⟩)) ?_)))))))))
   refine zE rfl rfl (zE rfl rfl (zA (zC (zZ ?_))))
   exact jH rfl (fun a w ha => vT rfl rfl rfl ha) (fun a w ha => ⟨by unfold verdO; simp, ha.grown nsl⟩)
  ·refine zB (zF rfl rfl (qJ rfl rfl (zF rfl rfl (jG rfl rfl rfl (jG rfl rfl rfl (kC rfl rfl rfl (zA (zC (kF rfl (zS (zC (zD (zB (zE rfl rfl (zA (zC (zD (zW (zD (zW (zD (zW (zD ?_)))))))))))))))))))))))
   refine zD (zD (zB (zF rfl rfl (qJ rfl rfl (zF rfl rfl (zP rfl rfl (zF rfl rfl (zP rfl rfl (zF rfl rfl (jG rfl rfl rfl (jG rfl rfl rfl (jG rfl rfl rfl (zP rfl rfl (kC rfl rfl rfl (kC rfl rfl rfl (zE rfl rfl (zA (zC (kF rfl (zS (zC (zD (zB ?_)))))))))))))))))))))))
   refine zF rfl rfl (qJ rfl rfl (zF rfl rfl (jG rfl rfl rfl (jG rfl rfl rfl (kO rfl rfl rfl (kO rfl rfl rfl (kO rfl rfl rfl (jG rfl rfl rfl (jK rfl rfl rfl (zE rfl rfl (zA (zC (qH rfl (jZ (zQ (yM rfl (zQ (jJ (zC (zD (zB (zF rfl rfl (zJ (v := .int .i64 ((2 : Nat) : Int)) rfl rfl rfl (fun w => xC w (zT _ om om)) ?_)))))))))))))))))))))))
   refine zE rfl rfl (zA (zC (jZ (jJ (zC (zD (zB (zF rfl rfl (jO (v := .int .i64 1) (vs := [_]) rfl rfl F.ent54 (fun a w ha => (zAn 2 om w).mono (fun e w' h => ⟨h.1.trans rfl, h.2⟩)) ?_)))))))))
   refine zE rfl rfl (zE rfl rfl (zA (zC (zZ ?_))))
   exact jH rfl (fun a w ha => vT rfl rfl rfl ha) (fun a w ha => ⟨by unfold verdO; simp, ha.grown nsl⟩)
  ·refine zB (zF rfl rfl (qJ rfl rfl (zF rfl rfl (jG rfl rfl rfl (jG rfl rfl rfl (kC rfl rfl rfl (zA (zC (kF rfl (zS (zC (zD (zB (zE rfl rfl (zA (zC (zD (zW (zD (zW (zD (zW (zD ?_)))))))))))))))))))))))
   refine zD (zD (zB (zF rfl rfl (qJ rfl rfl (zF rfl rfl (zP rfl rfl (zF rfl rfl (zP rfl rfl (zF rfl rfl (zP rfl rfl (zF rfl rfl (zP rfl rfl (zF rfl rfl (zP rfl rfl (zJ rfl rfl rfl kL ?_)))))))))))))))
   refine zP rfl rfl (jK rfl rfl rfl (kC rfl rfl rfl (zE rfl rfl (zA (zC (zN rfl (fun hc3 => ?_) (fun hc3 => ?_)))))))
   ·refine jZ (zQ (zQ (jJ (zC (zB (zF rfl rfl (zJ (v := .int .i64 ((2 : Nat) : Int)) rfl rfl rfl (fun w => xC w (zT _ om om)) ?_)))))))
    refine zE rfl rfl (zA (zM (zC (zD (zB (zF rfl rfl (zJ (v := .int .i64 ((1 : Nat) : Int)) rfl rfl rfl (fun w => xC w (zT _ om om)) ?_)))))))
    refine zE rfl rfl (zA (zC (jZ (jJ (zC (zD (zB (zF rfl rfl (jO (v := .int .i64 2) (vs := [_]) rfl rfl F.ent54 (fun a w ha => (zAn 1 om w).mono (fun e w' h => ⟨h.1.trans rfl, h.2⟩)) ?_)))))))))
    refine zE rfl rfl (zE rfl rfl (zA (zC (zZ ?_))))
    exact jH rfl (fun a w ha => vT rfl rfl rfl ha) (fun a w ha => ⟨by have h : f2 < f1 := om; simp [verdO, h], ha.grown nsl⟩)
   ·refine zS (zC (zD (zB (zF rfl rfl (qJ rfl rfl (zF rfl rfl (zP rfl rfl (zF rfl rfl (zP rfl rfl (zF rfl rfl (zP rfl rfl (zF rfl rfl (zP rfl rfl (zF rfl rfl (zP rfl rfl (zJ rfl rfl rfl kL ?_))))))))))))))))
    refine zP rfl rfl (jK rfl rfl rfl (kC rfl rfl rfl (zE rfl rfl (zA (zC (zN rfl (fun hc4 => ?_) (fun hc4 => ?_)))))))
    ·refine jZ (zQ (yM rfl (zQ (jJ (zC (zD (zB (zF rfl rfl (zJ (v := .int .i64 ((2 : Nat) : Int)) rfl rfl rfl (fun w => xC w (zT _ om om)) ?_)))))))))
     refine zE rfl rfl (zA (zC (jZ (jJ (zC (zD (zB (zF rfl rfl (jO (v := .int .i64 1) (vs := [_]) rfl rfl F.ent54 (fun a w ha => (zAn 2 om w).mono (fun e w' h => ⟨h.1.trans rfl, h.2⟩)) ?_)))))))))
     refine zE rfl rfl (zE rfl rfl (zA (zC (zZ ?_))))
     exact jH rfl (fun a w ha => vT rfl rfl rfl ha) (fun a w ha => ⟨by have h : ¬ f2 < f1 := om; have h2 : f1 < f2 := om; simp [verdO, h, h2], ha.grown nsl⟩)
    ·refine zS (zC (jZ (yM rfl (zQ (yM rfl (zQ (jJ (zC (zD (zB (zF rfl rfl (jO (v := .int .i64 3) (vs := [_]) rfl rfl F.ent54 (fun a w ha => (zAn 3 om w).mono (fun e w' h => ⟨h.1.trans rfl, h.2⟩)) ?_))))))))))))
     refine zE rfl rfl (zE rfl rfl (zA (zC (zZ ?_))))
     exact jH rfl (fun a w ha => vT rfl rfl rfl ha) (fun a w ha => ⟨by have h : ¬ f2 < f1 := om; have h2 : ¬ f1 < f2 := om; simp [verdO, h, h2], ha.grown nsl⟩)

end Go.Proofs.Yteppiphdbondeaa.N
namespace Go.Proofs.Yteppiphdbondeaa.N
open Go Go.RowKit Go.Proofs
set_option linter.unusedSectionVars false
def agnL (fst m : Mor) : Bool := ((List.range 3).all fun i => decide (fst.s.getD i 0 <= m.s.getD i 0)) && decide (m.w &&& (7 - fst.w) = 0)
theorem andNot8 : ∀ a < 8, ∀ b < 8, IntKind.u8.wrap ((BitVec.ofInt 8 ((a : Nat) : Int) &&& ~~~ BitVec.ofInt 8 ((b : Nat) : Int)).toNat) = ((a &&& (7 - b) : Nat) : Int) := by decide
theorem zLn {P : Program} {k : TypeId} {m : Nat} (hm : m <= 10000) (hk : P.keyTypeAt m k = true) (hw : (match P.underlying k with | some (.array _ _) | some (.struct _) => true | _ => false) = true) (hgt : P.eqGuardType P.depth k = false)
  (law : WideMaps.KeyLaw P k) {xs ys : Array Value} {a b : Go.Lit} (ha : keyOf P k (.agg xs) = some a) (hb : keyOf P k (.agg ys) = some b) (x y : Operand) (w : World) :
  ∃ r, (do eqGuard .eql k x y (.agg xs) (.agg ys); binOp .eql k (.agg xs) (.agg ys) : Sem Value).run P w = .ok (.bool r) w ∧ (r = true ↔ Value.agg xs = .agg ys) := by
 obtain ⟨r, hr, hiff⟩ := run_equal_deep (P := P) w (m := m) hm (k := k) hk hw ha hb
 have hg : (eqGuard .eql k x y (.agg xs) (.agg ys)).run P w = .ok () w := by
  have hp : (program : Sem Program).run P w = .ok P w := rfl
  simp [eqGuard, Sem.run_bind, hp, hgt]
 have hb' : (binOp .eql k (.agg xs) (.agg ys)).run P w = .ok (.bool r) w := by
  show (do pure (.bool (<- Op.equal k (.agg xs) (.agg ys))) : Sem Value).run P w = _
  simp only [Sem.run_bind, hr, Result.andThen_ok, Sem.run_pure]
 refine ⟨r, by simp only [Sem.run_bind, hg, Result.andThen_ok, hb'], ?_⟩
 rw [hiff]
 constructor
 ·intro e
  exact law.inj (by rw [ha, e]) hb
 ·intro e
  rw [e] at ha
  rw [ha] at hb
  exact Option.some.inj hb
theorem key92 {a b c : Nat} (ha : a < 2 ^ 63) (hb : b < 2 ^ 63) (hc : c < 2 ^ 63) : ∃ x, keyOf Try.prog 92 (.agg [.int .i64 (a : Int), .int .i64 (b : Int), .int .i64 (c : Int)].toArray) = some x := by
 unfold keyOf
 rw [Try.underlying92]
 have hk : Try.prog.keyType 92 = true := by kernel_rfl
 simp only [hk, Bool.true_and]
 have hf : (Value.agg [.int .i64 (a : Int), .int .i64 (b : Int), .int .i64 (c : Int)].toArray).formed Try.prog 92 = true := by simp [Value.formed, Try.underlying92, co92]
 rw [if_pos hf, tszC]
 generalize Try.prog.types.size - 4 = D
 have := zL8 ha hb hc (D + 1 + 1 + 1)
 rw [show (Value.agg [.int .i64 (a : Int), .int .i64 (b : Int), .int .i64 (c : Int)].toArray).cells.toList = [.int .i64 (a : Int), .int .i64 (b : Int), .int .i64 (c : Int)] from rfl, this]
 exact ⟨_, rfl⟩
theorem arrLaw : WideMaps.KeyLaw Try.prog 92 := deep_law (m := 4) (by omega) (by kernel_rfl) (by kernel_rfl) (by rw [Try.underlying92])
theorem zJ7 {a b c x y z : Nat} (ha : a < 2 ^ 63) (hb : b < 2 ^ 63) (hc : c < 2 ^ 63) (hx : x < 2 ^ 63) (hy : y < 2 ^ 63) (hz : z < 2 ^ 63) (p q : Operand) (w : World) :
  (do eqGuard .eql 92 p q (.agg [.int .i64 (a : Int), .int .i64 (b : Int), .int .i64 (c : Int)].toArray) (.agg [.int .i64 (x : Int), .int .i64 (y : Int), .int .i64 (z : Int)].toArray); binOp .eql 92 (.agg [.int .i64 (a : Int), .int .i64 (b : Int), .int .i64 (c : Int)].toArray) (.agg [.int .i64 (x : Int), .int .i64 (y : Int), .int .i64 (z : Int)].toArray) : Sem Value).run Try.prog w = .ok (.bool (decide (a = x ∧ b = y ∧ c = z))) w := by
 obtain ⟨k1, hk1⟩ := key92 ha hb hc
 obtain ⟨k2, hk2⟩ := key92 hx hy hz
 obtain ⟨r, h1, h2⟩ := zLn (P := Try.prog) (m := 4) om (k := 92) kr (by rw [Try.underlying92]) kr arrLaw hk1 hk2 p q w
 have e : r = decide (a = x ∧ b = y ∧ c = z) := by
  rw [Bool.eq_iff_iff, h2, decide_eq_true_iff]
  simp
  omega
 rw [<- e]
 exact h1
instance TB.three (f g h : Int) (u : Value) : TB (.agg [.int .i64 f, .int .i64 g, .int .i64 h].toArray) u := TB.agg (by
 intro x hx
 simp at hx
 rcases hx with rfl | rfl | rfl <;> exact .int _ _) u
def agnS (fA dA : Option Addr) (fc dc kiln : Nat) (fs : List Flt) (days : List Nat) (b7 : Nat) : Srch := ⟨fA, dA, fc, dc, kiln, fs, days, 66, 61, [], [.pointer (some ⟨b7, 0, none⟩)], fun _ _ => true, agnL (start fs)⟩
def bstG (fs : List Flt) (kiln : Nat) (days : List Nat) : Oc := (agnS none none 0 0 kiln fs days 0).bst days.length (start fs)
def planG (fs : List Flt) (kiln : Nat) (days : List Nat) : List (List Nat) := (agnS none none 0 0 kiln fs days 0).planL days.length (start fs)
theorem zMi {fA dA : Option Addr} {fc dc kiln b7 : Nat} {fs : List Flt} {days : List Nat} : ∀ n m, (agnS fA dA fc dc kiln fs days b7).planL n m = (agnS none none 0 0 kiln fs days 0).planL n m
 | 0, _ => rfl
 | n + 1, _m => congrArg (List.cons _) (zMi n _)
theorem zQ0 {x0 x1 x2 xw z0 z1 z2 zw : Nat} (h0 : x0 <= z0) (h1 : x1 <= z1) (h2 : x2 <= z2) : agnL ⟨[x0, x1, x2], xw⟩ ⟨[z0, z1, z2], zw⟩ = decide (((zw &&& (7 - xw) : Nat) : Int) = 0) := by
 unfold agnL
 have : (List.range 3).all (fun i => decide ([x0, x1, x2].getD i 0 <= [z0, z1, z2].getD i 0)) = true := by
  rw [List.all_eq_true]
  intro i hi
  have : i < 3 := List.mem_range.1 hi
  rcases i with _ | _ | _ | i <;> simp <;> omega
 rw [this, Bool.true_and, decide_eq_decide]
 exact (Int.natCast_eq_zero (n := zw &&& (7 - xw))).symm
theorem zOm (a b c : Nat) (k : Nat) (hk : k < 3) : [Value.int .i64 (a : Int), .int .i64 (b : Int), .int .i64 (c : Int)][k]? = some (.int .i64 (([a, b, c].getD k 0 : Nat) : Int)) := by
 rcases k with _ | _ | _ | k
 ·rfl
 ·rfl
 ·rfl
 ·omega
theorem zXe {x0 x1 x2 xw z0 z1 z2 zw k : Nat} (hk : k < 3) (h : [z0, z1, z2].getD k 0 < [x0, x1, x2].getD k 0) : agnL ⟨[x0, x1, x2], xw⟩ ⟨[z0, z1, z2], zw⟩ = false := by
 unfold agnL
 have : (List.range 3).all (fun i => decide ([x0, x1, x2].getD i 0 <= [z0, z1, z2].getD i 0)) = false := by
  rw [List.all_eq_false]
  exact ⟨k, List.mem_range.2 hk, by simpa using h⟩
 rw [this, Bool.false_and]
section
variable [I : Sys] {C : Ctx} {fr : List (Nat × Value)} {hp : List Res} {ops : Array Oper} {Q : Exit -> Act -> World -> Prop} {rest : List Oper} {d : Nat} {ty : TypeId} {pos : String} {after : Array Edge}
theorem zLo {x y : Operand} {t e : TypeId} {cs : List Value} {v : Value} {len j m : Nat} {kd : IntKind} {i : Int} {z : Value} (hd : Nat.blt d C.N = true) (hx : ev fr x = some (.agg cs.toArray)) (hy : ev fr y = some (.int kd i))
  (ht : C.P.underlying t = some (.array len e)) (ho : One C.P e) (he : TI C.P e z 1 m) (hi : i = (j : Int)) (hj : j < len) (hv : cs[j]? = some v)
  (k : Lst C ops Q rest ((d, v) :: fr) hp) : Lst C ops Q (⟨some d, .index t x y, ty, pos, after, none⟩ :: rest) fr hp := by
 obtain ⟨i', hi', _, hs, _⟩ := he
 subst hi
 refine kS _ hd (fun _ _ _ => zJ5 ..) (fun a w ha => ⟨w, ?_, ha⟩) k
 have h1 : (isAgg e).run C.P w = .ok false w := yR ho.1 ho.2 w
 have h2 : (sizeOf e).run C.P w = .ok 1 w := by simp [sizeOf, typeInfo, hi', hs]
 have h3 : (Instr.index t (.agg cs.toArray) (.int kd (j : Int))).run C.P w = .ok v w := by
  have hb : (0 <= (j : Int) ∧ (j : Int) < (len : Int)) := by omega
  have hv' : cs.toArray[j]? = some v := by simpa using hv
  simp only [Instr.index, asIntOf, Sem.run_bind, Sem.run_pure, Result.andThen_ok, run_underlying ht, if_pos hb, h2, part, h1, Int.toNat_natCast, Nat.mul_one, hv']
  simp
 simp only [execOp, ha.eval hx, ha.eval hy, Sem.run_bind, h3, Result.andThen_ok, Sem.run_pure]
end
end Go.Proofs.Yteppiphdbondeaa.N
namespace Go.Proofs.Yteppiphdbondeaa.N
open Go Go.RowKit Go.Proofs
set_option linter.unusedSectionVars false
variable [I : Sys]
theorem F.agg92 : aggB Try.prog 92 = true := by unfold aggB; rw [Try.underlying92]
theorem zSb {z0 z1 z2 zw x0 x1 x2 xw b7 : Nat} (hz0 : z0 <= 4) (hz1 : z1 <= 4) (hz2 : z2 <= 4) (hzw : zw < 8) (hx0 : x0 <= 4) (hx1 : x1 <= 4) (hx2 : x2 <= 4) (hxw : xw < 8) (w : World) (hb7 : b7 < w.heap.size) (hc7 : ∀ (j : Nat) (v : Value), (V4 x0 x1 x2 xw)[j]? = some v -> w.cell? ⟨b7, j, none⟩ = some v) : Calls Try.prog 61 #[.agg (V4 z0 z1 z2 zw).toArray, .pointer (some ⟨b7, 0, none⟩)] w fun e w' => e = .returned (.bool (agnL (⟨[x0, x1, x2], xw⟩ : Mor) (⟨[z0, z1, z2], zw⟩ : Mor))) ∧ Grew w w' [] := by
 refine enter (N := 36) [(0, .agg (V4 z0 z1 z2 zw).toArray), (1, .pointer (some ⟨b7, 0, none⟩))] Try.func61 rfl Try.ntmps61 rfl rfl ?_
 refine zD (zB (jV rfl rfl ?_))
 intro b2
 refine zE rfl rfl (zA (zC (zD (zD (zB (zL rfl rfl F.fi95_0 F.ti92 ?_))))))
 refine jF (o := 0) (l := [.int .i64 (z0 : Int), .int .i64 (z1 : Int), .int .i64 (z2 : Int)]) rfl rfl F.agg92 F.ti92 ?_
 refine zL rfl rfl F.fi95_0 F.ti92 ?_
 refine xB (l := [.int .i64 (x0 : Int), .int .i64 (x1 : Int), .int .i64 (x2 : Int)]) rfl rfl F.agg92 F.ti92 rfl (fun a w ha j u hu => ha.old (hc7 (0 + j) u (by rcases j with _ | _ | _ | j <;> simp at hu ⊢ <;> exact hu)) hb7) ?_
 refine zN4 rfl rfl rfl (zJ7 om om om om om om _ _) ?_
 refine zA (zC (zN rfl (fun hc0 => ?_) (fun hc0 => ?_)))
 ·refine zD (zB (zL rfl rfl F.fi95_1 F.ti93 ?_))
  refine zO rfl rfl F.one93 ?_
  refine zL rfl rfl F.fi95_1 F.ti93 ?_
  refine kU (v := .int .u8 (xw : Int)) rfl rfl F.one93 (fun a w ha => ha.old (hc7 3 _ rfl) hb7) ?_
  refine zJ (v := .int .u8 ((zw &&& (7 - xw) : Nat) : Int)) rfl rfl rfl (fun w => zEe w (andNot8 zw hzw xw hxw)) ?_
  refine zJ rfl rfl rfl kI ?_
  refine zE rfl rfl (zA (zC (zZ (jC ?_))))
  exact jH rfl (fun a w ha => jP rfl rfl ha) (fun a w ha => ⟨by rw [zQ0 om om om], ha.grown nsl⟩)
 ·refine zS (zC (zD (zD (zB (zL rfl rfl F.fi95_0 F.ti92 ?_)))))
  refine xB (l := [.int .i64 (x0 : Int), .int .i64 (x1 : Int), .int .i64 (x2 : Int)]) rfl rfl F.agg92 F.ti92 rfl (fun a w ha j u hu => ha.old (hc7 (0 + j) u (by rcases j with _ | _ | _ | j <;> simp at hu ⊢ <;> exact hu)) hb7) ?_
  refine zF rfl rfl (zA (zC (zW (xX (G := Nat) (fun k => k <= 3 ∧ ∀ j, j < k -> [x0, x1, x2].getD j 0 <= [z0, z1, z2].getD j 0) (fun k => 3 - k) (fun k => [(1, .pointer (some ⟨b7, 0, none⟩)), (2, .pointer (some ⟨b2, 0, none⟩)), (18, .agg [.int .i64 (x0 : Int), .int .i64 (x1 : Int), .int .i64 (x2 : Int)].toArray), (19, .int .i64 (k : Int))]) (fun k => [.blk b2 (.cells (V4 z0 z1 z2 zw).toArray 95 (0, 0))]) 0 ⟨Nat.zero_le _, fun j hj => absurd hj (Nat.not_lt_zero _)⟩ sbn sbl ?_))))
  intro k hk
  (try dsimp only at hk ⊢)
  refine zD (zB (zJ rfl rfl rfl kL ?_))
  refine zA (zC (zD (zN rfl (fun hc1 => ?_) (fun hc1 => ?_))))
  ·refine zS (zC (zD (zW (zD (zB (zF rfl rfl (zLo (v := .int .i64 (([x0, x1, x2].getD k 0 : Nat) : Int)) rfl rfl rfl Try.underlying92 F.one3 F.ti3 rfl om (zOm x0 x1 x2 k om) ?_)))))))
   refine zE rfl rfl (zE rfl rfl (zA (zC (zD (zB (zF rfl rfl (zL rfl rfl F.fi95_0 F.ti92 ?_)))))))
   refine zBr (j := k) rfl rfl rfl Try.underlying92 F.ti3 rfl om ?_
   refine kU (v := .int .i64 (([z0, z1, z2].getD k 0 : Nat) : Int)) rfl rfl F.one3 (fun a w ha => kP (ha.mem_blk (InB.mem (b := b2) (o := .cells (V4 z0 z1 z2 zw).toArray 95 (0, 0)))) (by rw [Nat.zero_add, Nat.mul_one]; exact zFc z0 z1 z2 _ k om)) ?_
   refine zF rfl rfl (zJ rfl rfl rfl kL ?_)
   refine zA (zC (zN rfl (fun hc2 => ?_) (fun hc2 => ?_)))
   ·refine zD (zB (zE rfl rfl (zA (zC (zZ (jS (jC (jC (jS (jC ?_))))))))))
    exact jH rfl (fun a w ha => jP rfl rfl ha) (fun a w ha => ⟨by rw [zXe (k := k) om om], ha.grown nsl⟩)
   ·refine zS (zM (zC (zB (zJ rfl rfl rfl (fun w => jM w (zT _ om om)) ?_))))
    refine zF rfl rfl (zA (qZ (k + 1) ⟨by omega, fun j hj => ?_⟩ tdo sbn sbl))
    rcases Nat.lt_or_ge j k with h | h
    ·exact hk.2 j h
    ·obtain rfl : j = k := by omega
     omega
  ·refine jZ (zQ (zQ (jJ (zC (zD (zB (zL rfl rfl F.fi95_1 F.ti93 ?_)))))))
   refine zO rfl rfl F.one93 ?_
   refine zL rfl rfl F.fi95_1 F.ti93 ?_
   refine kU (v := .int .u8 (xw : Int)) rfl rfl F.one93 (fun a w ha => ha.old (hc7 3 _ rfl) hb7) ?_
   refine zJ (v := .int .u8 ((zw &&& (7 - xw) : Nat) : Int)) rfl rfl rfl (fun w => zEe w (andNot8 zw hzw xw hxw)) ?_
   refine zJ rfl rfl rfl kI ?_
   refine zE rfl rfl (zA (zC (zZ ?_)))
   exact jH rfl (fun a w ha => jP rfl rfl ha) (fun a w ha => ⟨by rw [zQ0 (by have := hk.2 0 om; simpa using this) (by have := hk.2 1 om; simpa using this) (by have := hk.2 2 om; simpa using this)], ha.grown nsl⟩)

theorem zQn {fA dA : Option Addr} {fc dc kiln b7 : Nat} {fs : List Flt} {days : List Nat} (h : ChV fs kiln days) : (agnS fA dA fc dc kiln fs days b7).Ok := ⟨h.f3, h.ff, Nat.le_succ_of_le h.d4, h.dd, jD Try.func66 rfl (by kernel_rfl), jD Try.func61 rfl (by kernel_rfl)⟩
theorem zI7 {fA dA : Option Addr} {fc dc kiln b7 x0 x1 x2 xw : Nat} {fs : List Flt} {days : List Nat} {w : World} (hx : start fs = ⟨[x0, x1, x2], xw⟩) (hx0 : x0 <= 4) (hx1 : x1 <= 4) (hx2 : x2 <= 4) (hxw : xw < 8) (hF : RdL Flt.cells 4 w fA fs) (hD : RdL ncell 1 w dA days) :
  Stays w.heap.size w [.blk b7 (.cells (V4 x0 x1 x2 xw).toArray 95 (0, 0))] (agnS fA dA fc dc kiln fs days b7).Env := fun _ _ _ _ _ w' hr ha => ⟨hF.later ha.below, hD.later ha.below, fun A c d acts _ _ _ => zRw _ A _ c w', fun m hm => by
  obtain ⟨a, b, c, x, rfl, h1, h2, h3, h4⟩ := hm.form
  have hb := ha.mem_blk (hr (.blk b7 (.cells (V4 x0 x1 x2 xw).toArray 95 (0, 0))) (by simp))
  have h9 := zSb h1 h2 h3 h4 hx0 hx1 hx2 hxw w' (b7 := b7) (Array.getElem?_eq_some_iff.1 hb).1 (fun j v hv => kP hb (by simpa using hv))
  rw [<- hx] at h9
  exact h9⟩

set_option maxRecDepth 4000 in
theorem zUm {fA dA : Option Addr} {fc dc kiln : Nat} {fs : List Flt} {days : List Nat} (hc : ChV fs kiln days) (w : World) (hF : RdL Flt.cells 4 w fA fs) (hD : RdL ncell 1 w dA days) : Calls Try.prog 33 #[.agg (CA fA fs.length fc kiln dA days.length dc).toArray] w fun e w' => ∃ oA oc mr, (((bstG fs kiln days).is = true ∧ mr.reverse.map (·.2.2) = planG fs kiln days ∧ e = .returned (.tuple #[.slice oA mr.length oc, .int .i64 (((bstG fs kiln days).f : Nat) : Int), .int .i64 0])) ∨ ((bstG fs kiln days).is = false ∧ mr = [] ∧ e = .returned (.tuple #[.slice none 0 0, .int .i64 0, .int .i64 11]))) ∧ Grew w w' (.row 22 1 oA mr.length oc (mr.reverse.map mcell) :: mr.map mrow) := by
 have hm0 : MOk (start fs) := vI hc.f3 hc.ff _ (Nat.le_refl _)
 obtain ⟨x0, x1, x2, xw, hx, hx0, hx1, hx2, hxw⟩ := hm0.form
 refine enter (N := 38) [(0, .agg (CA fA fs.length fc kiln dA days.length dc).toArray)] Try.func33 rfl Try.ntmps33 rfl rfl ?_
 refine zD (zB (jV rfl rfl ?_))
 intro b1
 refine zE rfl rfl (zE rfl rfl (zE rfl rfl (zA (zC (zD (zD (zB (jF rfl rfl F.agg27 F.ti27 ?_))))))))
 refine jO (v := .int .i64 0) (vs := [_]) rfl rfl F.ent43 (fun a w ha => by
  have h := zAy (fA := fA) (dA := dA) (fc := fc) (dc := dc) (fs := fs.map Flt.toZ) (kiln := (kiln : Int)) (days := toZs days) (by have := hc.f3; simp; omega) (by have := hc.d4; simp [toZs]; omega) w (RdL.mapped Flt.toZ (hF.later ha.below) (fun _ => rfl)) (RdL.mapped (fun (n : Nat) => (n : Int)) (hD.later ha.below) (fun _ => rfl))
  rw [chk0 hc] at h
  simpa [toZs] using h) ?_
 refine zE rfl rfl (zA (zC (zD (zB (zF rfl rfl (zJ rfl rfl rfl qM ?_))))))
 refine zA (zC (zN rfl (fun hc0 => ?_) (fun hc0 => ?_)))
 ·exact absurd rfl hc0
  done
 ·refine zS (zC (zD (zB (jF rfl rfl F.agg27 F.ti27 ?_))))
  refine jX (vs := [(0, _)]) (l' := [_, _, _]) rfl rfl F.ti77 F.pl77 (.cons rfl rfl (.nil _)) rfl ?_
  refine qQ (X := Nat × Nat) (vs := [_]) (p := fun _ => True) (val := fun g => .pointer (some ⟨g.1, 0, none⟩)) (rs := fun g => [.blk g.1 (.cells [.slice fA fs.length fc, .int .i64 (kiln : Int), .slice dA days.length dc, .func (.func 66) [].toArray [].toArray, .func (.func 67) [].toArray [].toArray, .map (some g.2)].toArray 101 (0, 0)), .blk g.2 (KS.obj [])]) rfl rfl F.ent48 (fun a w ha => (zFn fA dA fc days.length dc kiln fs w).mono (fun e w' h => by obtain ⟨b, km, h1, h2⟩ := h; exact ⟨(b, km), trivial, h1, h2⟩)) ?_
  rintro ⟨sb, km⟩ -
  dsimp only [List.cons_append, List.nil_append]
  refine zE rfl rfl (zA (zC (zD (zB (zF rfl rfl (qT rfl rfl (yS rfl rfl F.fi101_0 F.ti77 ?_)))))))
  refine jF (o := 0) (l := (CA fA fs.length fc kiln dA days.length dc)) rfl rfl F.agg77 F.ti77 ?_
  refine jO (v := .agg (V4 x0 x1 x2 xw).toArray) (vs := [_]) rfl rfl F.ent60 (fun a w ha => (zDw fA dA fc days.length dc kiln fs hc.f3 hc.ff w (hF.later ha.below)).mono (fun e w' h => ⟨h.1.trans (by rw [hx]; rfl), h.2⟩)) ?_
  refine zU rfl F.ti95 ?_
  intro b7
  refine zI rfl rfl F.ti95 rfl ?_
  refine zA (zC (zD (zB (zF rfl rfl (vX (fs := []) (cs := [_]) rfl rfl rfl ?_)))))
  refine qT rfl rfl (yS rfl rfl F.fi101_2 F.ti98 ?_)
  refine zI rfl rfl F.ti98 rfl ?_
  refine zA (zC (zD ?_))
  rcases his : (bstG fs kiln days).is with _ | _
  ·refine zB (zF rfl rfl (qV (X := Option Addr × Nat × List Meta × List (Spot × Value)) (first := []) (cap := []) (vs := [_]) (p := fun g => g.2.2.1 = []) (val := fun g => .tuple #[.slice none 0 0, .int .i64 0, .bool false]) (rs := fun g => .row 22 1 g.1 g.2.2.1.length g.2.1 (g.2.2.1.reverse.map mcell) :: .blk km (KS.obj g.2.2.2) :: .blk sb (.cells [.slice fA fs.length fc, .int .i64 (kiln : Int), .slice dA days.length dc, .func (.func 66) [].toArray [].toArray, .func (.func 61) [].toArray [.pointer (some ⟨b7, 0, none⟩)].toArray, .map (some km)].toArray 101 (0, 0)) :: (g.2.2.1.map mrow ++ [.blk b7 (.cells (V4 x0 x1 x2 xw).toArray 95 (0, 0)), .blk b1 (.cells (CA fA fs.length fc kiln dA days.length dc).toArray 27 (0, 0))])) rfl rfl rfl F.ent49 (fun a w ha => ?_) ?_))
   ·refine (zDv (s := (agnS fA dA fc dc kiln fs days b7)) (zQn hc) (T := [.blk b7 (.cells (V4 x0 x1 x2 xw).toArray 95 (0, 0)), .blk b1 (.cells (CA fA fs.length fc kiln dA days.length dc).toArray 27 (0, 0))]) (km := km) (sb := sb) (KnOk.nil _) ((zI7 hx hx0 hx1 hx2 hxw hF hD).more (fun r hr => by simp at hr; simp [hr])) (ha.pck pkk)).mono ?_
    rintro e w' ⟨kn', oA, oc, mr, hcase, hk, hA⟩
    rcases hcase with ⟨h1, h2, h3⟩ | ⟨h1, h2, h3⟩
    ·exact absurd (his.symm.trans h1) (by simp)
    ·exact ⟨(oA, oc, mr, kn'), h2, h3, hA⟩
   rintro ⟨oA, oc, mr, kn'⟩ hp
   dsimp only at hp ⊢
   refine zF rfl rfl (zX rfl rfl rfl (zX rfl rfl rfl (zX rfl rfl rfl (zE rfl rfl (zE rfl rfl (zE rfl rfl (zA (zC (zD (zD (zB (zF rfl rfl (qJ rfl rfl (zA (zC (qH rfl (zD (zB (zE rfl rfl (zE rfl rfl (zE rfl rfl (zA (zC ?_)))))))))))))))))))))))
   refine zZ (jC ?_)
   exact jH rfl (fun a w ha => xK rfl rfl rfl rfl ha) (fun a w ha => ⟨oA, oc, mr, .inr ⟨rfl, hp, rfl⟩, ha.grown (.cons_cons _ (.cons _ (.cons _ (List.sublist_append_left ..))))⟩)
  ·refine zB (zF rfl rfl (qV (X := Option Addr × Nat × List Meta × List (Spot × Value)) (first := []) (cap := []) (vs := [_]) (p := fun g => g.2.2.1.reverse.map (·.2.2) = planG fs kiln days) (val := fun g => .tuple #[.slice g.1 g.2.2.1.length g.2.1, .int .i64 (((bstG fs kiln days).f : Nat) : Int), .bool true]) (rs := fun g => .row 22 1 g.1 g.2.2.1.length g.2.1 (g.2.2.1.reverse.map mcell) :: .blk km (KS.obj g.2.2.2) :: .blk sb (.cells [.slice fA fs.length fc, .int .i64 (kiln : Int), .slice dA days.length dc, .func (.func 66) [].toArray [].toArray, .func (.func 61) [].toArray [.pointer (some ⟨b7, 0, none⟩)].toArray, .map (some km)].toArray 101 (0, 0)) :: (g.2.2.1.map mrow ++ [.blk b7 (.cells (V4 x0 x1 x2 xw).toArray 95 (0, 0)), .blk b1 (.cells (CA fA fs.length fc kiln dA days.length dc).toArray 27 (0, 0))])) rfl rfl rfl F.ent49 (fun a w ha => ?_) ?_))
   ·refine (zDv (s := (agnS fA dA fc dc kiln fs days b7)) (zQn hc) (T := [.blk b7 (.cells (V4 x0 x1 x2 xw).toArray 95 (0, 0)), .blk b1 (.cells (CA fA fs.length fc kiln dA days.length dc).toArray 27 (0, 0))]) (km := km) (sb := sb) (KnOk.nil _) ((zI7 hx hx0 hx1 hx2 hxw hF hD).more (fun r hr => by simp at hr; simp [hr])) (ha.pck pkk)).mono ?_
    rintro e w' ⟨kn', oA, oc, mr, hcase, hk, hA⟩
    rcases hcase with ⟨h1, h2, h3⟩ | ⟨h1, h2, h3⟩
    ·exact ⟨(oA, oc, mr, kn'), h2.trans (zMi _ _), h3, hA⟩
    ·exact absurd (his.symm.trans h1) (by simp)
   rintro ⟨oA, oc, mr, kn'⟩ hp
   dsimp only at hp ⊢
   refine zF rfl rfl (zX rfl rfl rfl (zX rfl rfl rfl (zX rfl rfl rfl (zE rfl rfl (zE rfl rfl (zE rfl rfl (zA (zC (zD (zD (zB (zF rfl rfl (qJ rfl rfl (zA (zC (kF rfl (zS (zC (zD (zB (zF rfl rfl (zF rfl rfl (zE rfl rfl ?_)))))))))))))))))))))))
   refine zE rfl rfl (zE rfl rfl (zA (zC (zZ ?_))))
   exact jH rfl (fun a w ha => xK rfl rfl rfl rfl ha) (fun a w ha => ⟨oA, oc, mr, .inl ⟨rfl, hp, rfl⟩, ha.grown (.cons_cons _ (.cons _ (.cons _ (List.sublist_append_left ..))))⟩)

end Go.Proofs.Yteppiphdbondeaa.N
namespace Go.Proofs.Yteppiphdbondeaa.N
open Go Go.RowKit Go.Proofs
set_option linter.unusedSectionVars false
def buyN (fs : List Flt) (kiln : Nat) (days : List Nat) (os : List Flt) : Nat -> Option (Nat × Nat)
 | 0 => none
 | k + 1 => if (bstA (fs ++ [os.getD k default]) kiln days).is = true ∧ (∀ p, buyN fs kiln days os k = some p -> (bstA (fs ++ [os.getD k default]) kiln days).f < p.2) then some (k, (bstA (fs ++ [os.getD k default]) kiln days).f) else buyN fs kiln days os k
def buyI : Option (Nat × Nat) -> Int
 | none => -1
 | some p => p.1
def buyF : Option (Nat × Nat) -> Nat
 | none => 0
 | some p => p.2
theorem zNn {fs : List Flt} {kiln : Nat} {days : List Nat} {os : List Flt} : ∀ k p, buyN fs kiln days os k = some p -> p.1 < k
 | 0, p, h => by cases h
 | k + 1, p, h => by
  unfold buyN at h
  split at h
  ·cases h; exact Nat.lt_succ_self _
  ·have := zNn k p h; omega
section
variable [I : Sys]
theorem zH2 {B : Nat} {w0 : World} {T : List Res} {fA dA : Option Addr} {fc dc kiln : Nat} {fs : List Flt} {days : List Nat} (hF : Stays B w0 T fun w => RdL Flt.cells 4 w fA fs) (hD : Stays B w0 T fun w => RdL ncell 1 w dA days) : Stays B w0 T (anyS fA dA fc dc kiln fs days).Env :=
 fun N ds fr hp a w hr ha => zN9 (hF N ds fr hp a w hr ha) (hD N ds fr hp a w hr ha)
theorem zHx {w0 : World} {T : List Res} {fA : Option Addr} {l : List Nat} (hF : RdL ncell 1 w0 fA l) : Stays w0.heap.size w0 T fun w => RdL ncell 1 w fA l := fun _ _ _ _ _ _ _ ha => hF.later ha.below
theorem zI2 {B c n : Nat} {w0 : World} {T : List Res} {fA : Option Addr} {fs : List Flt} (hm : Res.row 49 4 fA n c (fs.flatMap Flt.cells) ∈ T) (hn : fs.length = n) : Stays B w0 T fun w => RdL Flt.cells 4 w fA fs := fun _ _ _ _ _ _ hr ha => xD ha (cells := Flt.cells) (e := 49) (c := c) (n := n) (l := fs) (fun _ => rfl) (hr _ hm) hn.symm
end
theorem ChV.more {fs : List Flt} {kiln : Nat} {days : List Nat} {f : Flt} (h : ChV fs kiln days) (h2 : fs.length <= 2) (hf : FltOk f) : ChV (fs ++ [f]) kiln days :=
 ⟨by simp, by simp; omega, fun g hg => by
  rcases List.mem_append.1 hg with hg | hg
  ·exact h.ff g hg
  ·simp at hg; subst hg; exact hf, h.k3, h.d1, h.d4, h.dd⟩
theorem zXp {p g n : Nat} {wd : Bool} (h : FltOk ⟨p, g, n, wd⟩) : chkF ⟨(p : Int), (g : Int), (n : Int), wd⟩ = 0 := by
 obtain ⟨a1, a2, a3, a4⟩ := h
 dsimp only at a1 a2 a3 a4
 unfold chkF btw
 rw [if_pos]
 simp
 omega
theorem zJf {x y z t1 t2 t3 : Res} {M : List Res} : (x :: y :: z :: (M ++ [t1, t2, t3])).Perm (t1 :: t2 :: t3 :: (x :: y :: z :: M)) := List.perm_append_comm (l₁ := x :: y :: z :: M) (l₂ := [t1, t2, t3])
theorem zH5 (fs : List Flt) : (fs.flatMap Flt.cells).length = fs.length * 4 := by
 induction fs with
 | nil => rfl
 | cons f fs ih => rw [List.flatMap_cons, List.length_append, ih]; simp [Flt.cells]; omega
theorem zUf [I : Sys] {w : World} {p : Addr} {fs : List Flt} (h : RdL Flt.cells 4 w (some p) fs) : ∀ j u, (fs.flatMap Flt.cells)[j]? = some u -> w.cell? (p.add j) = some u := fun j u hu => by
 have hj : j < fs.length * 4 := by rw [<- zH5]; exact (List.getElem?_eq_some_iff.1 hu).1
 obtain ⟨b, o, h1, _, h3⟩ := h om
 cases h1
 rw [xJ]
 have key : ∀ (fs : List Flt) (j : Nat) (u : Value), (fs.flatMap Flt.cells)[j]? = some u -> ∃ f, fs[j / 4]? = some f ∧ (Flt.cells f)[j % 4]? = some u := by
  intro fs
  induction fs with
  | nil => intro j u h; simp at h
  | cons f fs ih =>
   intro j u h
   rw [List.flatMap_cons, List.getElem?_append] at h
   split at h
   ·rename_i hl
    have hl4 : j < 4 := hl
    exact ⟨f, by rw [Nat.div_eq_of_lt hl4]; rfl, by rw [Nat.mod_eq_of_lt hl4]; exact h⟩
   ·rename_i hl
    have hl4 : 4 <= j := by simpa [Flt.cells] using hl
    obtain ⟨g, h1, h2⟩ := ih (j - 4) u (by simpa [Flt.cells] using h)
    refine ⟨g, ?_, by rw [show j % 4 = (j - 4) % 4 from by omega]; exact h2⟩
    rw [show j / 4 = (j - 4) / 4 + 1 from by omega]
    simpa using h1
 obtain ⟨f, hf, hc⟩ := key fs j u hu
 have := h3 (j / 4) f hf (j % 4) u hc
 rw [show o + j = o + j / 4 * 4 + j % 4 from by omega]
 exact this
end Go.Proofs.Yteppiphdbondeaa.N
namespace Go.Proofs.Yteppiphdbondeaa.N
open Go Go.RowKit Go.Proofs
set_option linter.unusedSectionVars false
variable [I : Sys]

set_option maxRecDepth 4000 in
theorem zYq {fA dA oA : Option Addr} {fc dc oc kiln : Nat} {fs os : List Flt} {days : List Nat} (hc : ChV fs kiln days) (hn2 : fs.length <= 2) (ho : ∀ f ∈ os, FltOk f) (ho3 : os.length <= 3) (hcap : fs.length <= fc) (w : World) (hF : RdL Flt.cells 4 w fA fs) (hD : RdL ncell 1 w dA days) (hO : RdL Flt.cells 4 w oA os) : Calls Try.prog 28 #[.agg (CA fA fs.length fc kiln dA days.length dc).toArray, .slice oA os.length oc] w fun e w' => e = .returned (match buyN fs kiln days os os.length with | none => .tuple #[.int .i64 0, .int .i64 0, .int .i64 11] | some q => .tuple #[.int .i64 (q.1 : Int), .int .i64 (q.2 : Int), .int .i64 0]) ∧ Grew w w' [] := by
 refine enter (N := 89) [(0, .agg (CA fA fs.length fc kiln dA days.length dc).toArray), (1, .slice oA os.length oc)] Try.func28 rfl Try.ntmps28 rfl rfl ?_
 refine zD (zB (jV rfl rfl ?_))
 intro b2
 refine zE rfl rfl (zE rfl rfl (zE rfl rfl (zA (zC (zD (zD (zB (jF rfl rfl F.agg27 F.ti27 ?_))))))))
 refine jO (v := .int .i64 0) (vs := [_]) rfl rfl F.ent43 (fun a w ha => by
  have h := zAy (fA := fA) (dA := dA) (fc := fc) (dc := dc) (fs := fs.map Flt.toZ) (kiln := (kiln : Int)) (days := toZs days) (by have := hc.f3; simp; omega) (by have := hc.d4; simp [toZs]; omega) w (RdL.mapped Flt.toZ (hF.later ha.below) (fun _ => rfl)) (RdL.mapped (fun (n : Nat) => (n : Int)) (hD.later ha.below) (fun _ => rfl))
  rw [chk0 hc] at h
  simpa [toZs] using h) ?_
 refine zE rfl rfl (zA (zC (zD (zB (zF rfl rfl (zJ rfl rfl rfl qM ?_))))))
 refine zA (zC (zN rfl (fun hc0 => ?_) (fun hc0 => ?_)))
 ·exact absurd rfl hc0
  done
 ·refine zS (zC (zD (zW (zD (zB (zL rfl rfl F.fi27_0 F.ti25 ?_))))))
  refine zO rfl rfl F.one25 ?_
  refine kE rfl rfl Try.underlying25 ?_
  refine zJ rfl rfl rfl kI ?_
  refine zE rfl rfl (zA (zC (zN rfl (fun hc1 => ?_) (fun hc1 => ?_))))
  ·exact absurd hc1 om
   done
  ·refine zD (zB (zF rfl rfl (kE rfl rfl Try.underlying25 ?_)))
   refine zJ rfl rfl rfl zAw ?_
   refine zE rfl rfl (zA (zC (zN rfl (fun hc2 => ?_) (fun hc2 => ?_))))
   ·exact absurd hc2 om
    done
   ·refine zS (zM (zC (zD (zD (zB (zF rfl rfl (kE rfl rfl Try.underlying25 ?_)))))))
    refine zF rfl rfl (zA (zC (zW (xX (G := Nat) (fun k => k <= os.length) (fun k => os.length - k) (fun k => [(1, .slice oA os.length oc), (2, .pointer (some ⟨b2, 0, none⟩)), (33, .slice oA os.length oc), (34, .int .i64 (os.length : Int)), (35, .int .i64 (k : Int))]) (fun k => [.blk b2 (.cells (CA fA fs.length fc kiln dA days.length dc).toArray 27 (0, 0))]) 0 (Nat.zero_le _) sbn sbl ?_))))
    intro k hk
    (try dsimp only at hk ⊢)
    refine zD (zB (zJ rfl rfl rfl kL ?_))
    refine zA (zC (zD (zN rfl (fun hc3 => ?_) (fun hc3 => ?_))))
    ·have hk' : k < os.length := by omega
     obtain ⟨bf, bo, hoA, hbf, hcf⟩ := hO om
     obtain ⟨f, hx⟩ : ∃ x, os[k]? = some x := ⟨_, List.getElem?_eq_getElem hk'⟩
     have hfok := ho f (List.mem_of_getElem? hx)
     obtain ⟨pw, gn, nw, wd⟩ := f
     refine zS (zC (zD (zW (zD (zB (qW (j := k) rfl (show _ = some (Value.slice (some ⟨bf, bo, none⟩) os.length oc) from by rw [<- hoA]; rfl) rfl Try.underlying25 F.ti49 rfl hk' ?_))))))
     refine xB (l := [.int .i64 (pw : Int), .int .i64 (gn : Int), .int .i64 (nw : Int), .bool wd]) rfl rfl F.agg49 F.ti49 rfl (fun a w ha j u hu => ha.old (hcf k _ hx j u hu) hbf) ?_
     refine zU rfl F.ti49 ?_
     intro b9
     refine zI rfl rfl F.ti49 rfl ?_
     refine zA (zC (zD (zB (jF rfl rfl F.agg49 F.ti49 ?_))))
     refine jO (v := .int .i64 0) (vs := [_]) rfl rfl F.ent59 (fun a w ha => (zEj (pw : Int) (gn : Int) (nw : Int) wd w).mono (fun e w' h => ⟨h.1.trans (by rw [show chkF ⟨(pw : Int), (gn : Int), (nw : Int), wd⟩ = 0 from zXp hfok]; rfl), h.2⟩)) ?_
     refine zE rfl rfl (zA (zC (zD (zB (zF rfl rfl (zJ rfl rfl rfl qM ?_))))))
     refine zA (zC (zN rfl (fun hc4 => ?_) (fun hc4 => ?_)))
     ·exact absurd rfl hc4
      done
     ·refine zS (zM (zC (zB (zJ rfl rfl rfl (fun w => jM w (zT _ om om)) ?_))))
      refine zF rfl rfl (zA (qZ (k + 1) om tdo sbn sbl))
    ·refine jZ (zQ (zQ (jJ (zC (zD (zB (zE rfl rfl (zE rfl rfl (zA (zC (zD (zB (zL rfl rfl F.fi27_0 F.ti25 ?_)))))))))))))
     refine zO rfl rfl F.one25 ?_
     refine zE rfl rfl (zA (zC (zD (zD (zB (zF rfl rfl (kE rfl rfl Try.underlying25 ?_)))))))
     refine zF rfl rfl (zA (zC (zW (vJ (G := Nat × Option Addr × Nat × Nat) (fun g => g.1 <= os.length) (fun g => os.length - g.1) (fun g => [(2, .pointer (some ⟨b2, 0, none⟩)), (11, .int .i64 (buyI (buyN fs kiln days os g.1))), (12, .int .i64 ((buyF (buyN fs kiln days os g.1) : Nat) : Int)), (13, .slice fA fs.length fc), (47, .slice oA os.length oc), (48, .int .i64 (os.length : Int)), (49, .int .i64 (g.1 : Int))]) (fun g => [.blk b2 (.cells [.slice g.2.1 g.2.2.1 g.2.2.2, .int .i64 (kiln : Int), .slice dA days.length dc].toArray 27 (0, 0))]) (0, fA, fs.length, fc) (Nat.zero_le _) sbn pkk ?_))))
     rintro ⟨k, X, xn, xc⟩ hkk
     dsimp only at hkk ⊢
     refine zD (zB (zJ rfl rfl rfl kL ?_))
     refine zA (zC (zD (zN rfl (fun hc5 => ?_) (fun hc5 => ?_))))
     ·have hk' : k < os.length := by omega
      obtain ⟨bf, bo, hoA, hbf, hcf⟩ := hO om
      obtain ⟨f, hx⟩ : ∃ x, os[k]? = some x := ⟨_, List.getElem?_eq_getElem hk'⟩
      have hfok := ho f (List.mem_of_getElem? hx)
      obtain ⟨pw, gn, nw, wd⟩ := f
      have hgd : os.getD k default = (⟨pw, gn, nw, wd⟩ : Flt) := by rw [List.getD_eq_getElem?_getD, hx]; rfl
      have hsucc : buyN fs kiln days os (k + 1) = if (bstA (fs ++ [(⟨pw, gn, nw, wd⟩ : Flt)]) kiln days).is = true ∧ (∀ p, buyN fs kiln days os k = some p -> (bstA (fs ++ [(⟨pw, gn, nw, wd⟩ : Flt)]) kiln days).f < p.2) then some (k, (bstA (fs ++ [(⟨pw, gn, nw, wd⟩ : Flt)]) kiln days).f) else buyN fs kiln days os k := by rw [<- hgd]; rfl
      have hbf2 := (anyS none none 0 0 kiln (fs ++ [(⟨pw, gn, nw, wd⟩ : Flt)]) days).bst_le (zFh (hc.more hn2 hfok)) days.length (start (fs ++ [(⟨pw, gn, nw, wd⟩ : Flt)]))
      refine zS (zC (zD (zW (zD (zB (zF rfl rfl (qW (j := k) rfl (show _ = some (Value.slice (some ⟨bf, bo, none⟩) os.length oc) from by rw [<- hoA]; rfl) rfl Try.underlying25 F.ti49 rfl hk' ?_)))))))
      refine xB (l := [.int .i64 (pw : Int), .int .i64 (gn : Int), .int .i64 (nw : Int), .bool wd]) rfl rfl F.agg49 F.ti49 rfl (fun a w ha j u hu => ha.old (hcf k _ hx j u hu) hbf) ?_
      refine zU rfl F.ti49 ?_
      intro b15
      refine zE rfl rfl (zI rfl rfl F.ti49 rfl ?_)
      refine zA (zC (zD (kB [.b b2] F.follows 11 rfl [false, false, false, false, false, false, false, false, false, false, false] rfl ?_)))
      refine zG 0 rfl rfl rfl (zY rfl) ?_
      refine zG 1 rfl rfl rfl (zY rfl) ?_
      refine zG 2 rfl rfl rfl (vB rfl Try.underlying25) ?_
      refine zG 3 rfl rfl rfl (zY rfl) ?_
      refine zG 4 rfl rfl rfl (vB rfl Try.underlying25) ?_
      refine zG 5 rfl rfl rfl (zFd (k := fs.length) rfl rfl rfl Try.underlying25 F.ti49 hcap) ?_
      refine zG 6 rfl rfl rfl (qE rfl F.agg49 F.ti49) ?_
      refine an1 7 rfl ?_
      refine yZ (vs := [(0, .agg ([.int .i64 (pw : Int), .int .i64 (gn : Int), .int .i64 (nw : Int), .bool wd] : List Value).toArray)]) [.int .i64 (pw : Int), .int .i64 (gn : Int), .int .i64 (nw : Int), .bool wd] rfl rfl Try.underlying25 F.ti49 rfl rfl rfl (Lit.agg (l1 := [.int .i64 (pw : Int), .int .i64 (gn : Int), .int .i64 (nw : Int), .bool wd]) (l := []) rfl rfl) ?_
      intro b61
      refine zA (anb (an1 8 rfl ?_))
      refine zCo (olds := fs.flatMap Flt.cells) (news := [.int .i64 (pw : Int), .int .i64 (gn : Int), .int .i64 (nw : Int), .bool wd]) rfl rfl rfl Try.underlying25 F.ti49 rfl rfl rfl Nat.one_pos (fun h => by obtain ⟨b', o', e, _⟩ := hF hc.f1; rw [e] at h; cases h) (zH5 fs) (fun a w ha p' hp' j u hu => ?_) (by unfold maxLen; omega) om ?_
      ·subst hp'
       exact zUf (hF.later ha.below) j u hu
      intro A1 c1
      refine zA (anb (zG 9 rfl rfl rfl (zV rfl F.fi27_0 F.ti25) ?_))
      refine an1 10 rfl ?_
      refine zI rfl rfl F.ti25 rfl ?_
      refine zA (anb (adn (zC (zD ?_))))
      rcases his : (bstA (fs ++ [(⟨pw, gn, nw, wd⟩ : Flt)]) kiln days).is with _ | _
      ·refine zB (jF rfl rfl F.agg27 F.ti27 ?_)
       refine jX (vs := [(0, _)]) (l' := [_, _, _]) rfl rfl F.ti77 F.pl77 (.cons rfl rfl (.nil _)) rfl ?_
       refine qQ (X := Nat × Nat) (vs := [_]) (p := fun _ => True) (val := fun g => .pointer (some ⟨g.1, 0, none⟩)) (rs := fun g => [.blk g.1 (.cells [.slice A1 (fs.length + 1) c1, .int .i64 (kiln : Int), .slice dA days.length dc, .func (.func 66) [].toArray [].toArray, .func (.func 67) [].toArray [].toArray, .map (some g.2)].toArray 101 (0, 0)), .blk g.2 (KS.obj [])]) rfl rfl F.ent48 (fun a w ha => by
        have h9 := zFn A1 dA c1 days.length dc kiln (fs ++ [(⟨pw, gn, nw, wd⟩ : Flt)]) w
        rw [show (fs ++ [(⟨pw, gn, nw, wd⟩ : Flt)]).length = fs.length + 1 from by simp] at h9
        exact h9.mono (fun e w' h => by obtain ⟨b, km, h1, h2⟩ := h; exact ⟨(b, km), trivial, h1, h2⟩)) ?_
       rintro ⟨sb, km⟩ -
       dsimp only [List.cons_append, List.nil_append]
       have hfl : (fs ++ [(⟨pw, gn, nw, wd⟩ : Flt)]).length = fs.length + 1 := by simp
       refine qV (X := Option Addr × Nat × List Meta × List (Spot × Value)) (first := []) (cap := []) (vs := [_]) (p := fun _ => True) (val := fun g => .tuple #[.slice none 0 0, .int .i64 0, .bool false]) (rs := fun g => .row 49 4 A1 (fs.length + 1) c1 (fs.flatMap Flt.cells ++ [.int .i64 (pw : Int), .int .i64 (gn : Int), .int .i64 (nw : Int), .bool wd]) :: .blk b15 (.cells [.int .i64 (pw : Int), .int .i64 (gn : Int), .int .i64 (nw : Int), .bool wd].toArray 49 (0, 0)) :: .blk b2 (.cells [.slice A1 (fs.length + 1) c1, .int .i64 (kiln : Int), .slice dA days.length dc].toArray 27 (0, 0)) :: (.row 22 1 g.1 g.2.2.1.length g.2.1 (g.2.2.1.reverse.map mcell) :: .blk km (KS.obj g.2.2.2) :: .blk sb (.cells [.slice A1 (fs.length + 1) c1, .int .i64 (kiln : Int), .slice dA days.length dc, .func (.func 66) [].toArray [].toArray, .func (.func 67) [].toArray [].toArray, .map (some km)].toArray 101 (0, 0)) :: g.2.2.1.map mrow)) rfl rfl rfl F.ent49 (fun a w ha => ?_) ?_
       ·have h9 := zDv (s := (anyS A1 dA c1 dc kiln (fs ++ [(⟨pw, gn, nw, wd⟩ : Flt)]) days)) (zFh (hc.more hn2 hfok)) (T := [.row 49 4 A1 (fs.length + 1) c1 (fs.flatMap Flt.cells ++ [.int .i64 (pw : Int), .int .i64 (gn : Int), .int .i64 (nw : Int), .bool wd]), .blk b15 (.cells [.int .i64 (pw : Int), .int .i64 (gn : Int), .int .i64 (nw : Int), .bool wd].toArray 49 (0, 0)), .blk b2 (.cells [.slice A1 (fs.length + 1) c1, .int .i64 (kiln : Int), .slice dA days.length dc].toArray 27 (0, 0))]) (km := km) (sb := sb) (KnOk.nil _) (zH2 (zI2 (n := fs.length + 1) (c := c1) (by rw [List.flatMap_append]; exact List.mem_cons_self ..) hfl) (zHx hD)) (by unfold Srch.cells anyS; rw [hfl]; exact ha.pck pkk)
        refine h9.mono ?_
        rintro e w' ⟨kn', oA', oc', mr, hcase, hk, hA⟩
        unfold Srch.cells anyS at hA
        rw [hfl] at hA
        have hB := hA.permed zJf
        rcases hcase with ⟨h1, h2, h3⟩ | ⟨h1, h2, h3⟩
        ·exact absurd (his.symm.trans h1) (by simp)
        ·exact ⟨(oA', oc', mr, kn'), trivial, h3, hB⟩
       rintro ⟨oA', oc', mr, kn'⟩ hp
       dsimp only at hp ⊢
       refine zF rfl rfl (zX rfl rfl rfl (zX rfl rfl rfl (zX rfl rfl rfl (zE rfl rfl (zE rfl rfl (zE rfl rfl (zA (zC (zD (zB (zF rfl rfl (zF rfl rfl (jG rfl rfl rfl (jG rfl rfl rfl (jG rfl rfl rfl (kO rfl rfl rfl (kO rfl rfl rfl (kO rfl rfl rfl (jG rfl rfl rfl (kC rfl rfl rfl (zA (zC (kF rfl ?_)))))))))))))))))))))))
       refine zS (zM (zC (zB (zJ rfl rfl rfl (fun w => jM w (zT _ om om)) ?_))))
       refine zF rfl rfl (zA (qO (k + 1, A1, fs.length + 1, c1) tdo tdo (by (try dsimp only); rw [hsucc, if_neg (by rw [his]; simp)]; repeat (first | exact Sub.nil _ | refine Sub.cons rfl ?_)) pkk))
      ·refine zB (jF rfl rfl F.agg27 F.ti27 ?_)
       refine jX (vs := [(0, _)]) (l' := [_, _, _]) rfl rfl F.ti77 F.pl77 (.cons rfl rfl (.nil _)) rfl ?_
       refine qQ (X := Nat × Nat) (vs := [_]) (p := fun _ => True) (val := fun g => .pointer (some ⟨g.1, 0, none⟩)) (rs := fun g => [.blk g.1 (.cells [.slice A1 (fs.length + 1) c1, .int .i64 (kiln : Int), .slice dA days.length dc, .func (.func 66) [].toArray [].toArray, .func (.func 67) [].toArray [].toArray, .map (some g.2)].toArray 101 (0, 0)), .blk g.2 (KS.obj [])]) rfl rfl F.ent48 (fun a w ha => by
        have h9 := zFn A1 dA c1 days.length dc kiln (fs ++ [(⟨pw, gn, nw, wd⟩ : Flt)]) w
        rw [show (fs ++ [(⟨pw, gn, nw, wd⟩ : Flt)]).length = fs.length + 1 from by simp] at h9
        exact h9.mono (fun e w' h => by obtain ⟨b, km, h1, h2⟩ := h; exact ⟨(b, km), trivial, h1, h2⟩)) ?_
       rintro ⟨sb, km⟩ -
       dsimp only [List.cons_append, List.nil_append]
       have hfl : (fs ++ [(⟨pw, gn, nw, wd⟩ : Flt)]).length = fs.length + 1 := by simp
       refine qV (X := Option Addr × Nat × List Meta × List (Spot × Value)) (first := []) (cap := []) (vs := [_]) (p := fun _ => True) (val := fun g => .tuple #[.slice g.1 g.2.2.1.length g.2.1, .int .i64 (((bstA (fs ++ [(⟨pw, gn, nw, wd⟩ : Flt)]) kiln days).f : Nat) : Int), .bool true]) (rs := fun g => .row 49 4 A1 (fs.length + 1) c1 (fs.flatMap Flt.cells ++ [.int .i64 (pw : Int), .int .i64 (gn : Int), .int .i64 (nw : Int), .bool wd]) :: .blk b15 (.cells [.int .i64 (pw : Int), .int .i64 (gn : Int), .int .i64 (nw : Int), .bool wd].toArray 49 (0, 0)) :: .blk b2 (.cells [.slice A1 (fs.length + 1) c1, .int .i64 (kiln : Int), .slice dA days.length dc].toArray 27 (0, 0)) :: (.row 22 1 g.1 g.2.2.1.length g.2.1 (g.2.2.1.reverse.map mcell) :: .blk km (KS.obj g.2.2.2) :: .blk sb (.cells [.slice A1 (fs.length + 1) c1, .int .i64 (kiln : Int), .slice dA days.length dc, .func (.func 66) [].toArray [].toArray, .func (.func 67) [].toArray [].toArray, .map (some km)].toArray 101 (0, 0)) :: g.2.2.1.map mrow)) rfl rfl rfl F.ent49 (fun a w ha => ?_) ?_
       ·have h9 := zDv (s := (anyS A1 dA c1 dc kiln (fs ++ [(⟨pw, gn, nw, wd⟩ : Flt)]) days)) (zFh (hc.more hn2 hfok)) (T := [.row 49 4 A1 (fs.length + 1) c1 (fs.flatMap Flt.cells ++ [.int .i64 (pw : Int), .int .i64 (gn : Int), .int .i64 (nw : Int), .bool wd]), .blk b15 (.cells [.int .i64 (pw : Int), .int .i64 (gn : Int), .int .i64 (nw : Int), .bool wd].toArray 49 (0, 0)), .blk b2 (.cells [.slice A1 (fs.length + 1) c1, .int .i64 (kiln : Int), .slice dA days.length dc].toArray 27 (0, 0))]) (km := km) (sb := sb) (KnOk.nil _) (zH2 (zI2 (n := fs.length + 1) (c := c1) (by rw [List.flatMap_append]; exact List.mem_cons_self ..) hfl) (zHx hD)) (by unfold Srch.cells anyS; rw [hfl]; exact ha.pck pkk)
        refine h9.mono ?_
        rintro e w' ⟨kn', oA', oc', mr, hcase, hk, hA⟩
        unfold Srch.cells anyS at hA
        rw [hfl] at hA
        have hB := hA.permed zJf
        rcases hcase with ⟨h1, h2, h3⟩ | ⟨h1, h2, h3⟩
        ·exact ⟨(oA', oc', mr, kn'), trivial, h3, hB⟩
        ·exact absurd (his.symm.trans h1) (by simp)
       rintro ⟨oA', oc', mr, kn'⟩ hp
       dsimp only at hp ⊢
       refine zF rfl rfl (zX rfl rfl rfl (zX rfl rfl rfl (zX rfl rfl rfl (zE rfl rfl (zE rfl rfl (zE rfl rfl (zA (zC (zD ?_)))))))))
       have hif := hsucc
       have hle2 := zNn (fs := fs) (kiln := kiln) (days := days) (os := os) k
       rcases hbn : buyN fs kiln days os k with _ | ⟨bi, bfr⟩
       ·refine zB (zF rfl rfl (zF rfl rfl (zP rfl rfl (zF rfl rfl (zP rfl rfl (zJ rfl rfl rfl kL ?_))))))
        refine zP rfl rfl (zF rfl rfl (jG rfl rfl rfl (jG rfl rfl rfl (jG rfl rfl rfl (zP rfl rfl (jK rfl rfl rfl (jK rfl rfl rfl (zA (zC (qH rfl (zB (zF rfl rfl (zF rfl rfl (zE rfl rfl (zE rfl rfl (zA (zM (zC (zB (zJ rfl rfl rfl (fun w => jM w (zT _ om om)) ?_))))))))))))))))))))
        refine zF rfl rfl (zA (qO (k + 1, A1, fs.length + 1, c1) tdo tdo (by (try dsimp only); rw [hsucc, if_pos ⟨his, fun p hp => by rw [hbn] at hp; cases hp⟩]; repeat (first | exact Sub.nil _ | refine Sub.cons rfl ?_)) pkk))
       ·refine zB (zF rfl rfl (zF rfl rfl (zP rfl rfl (zF rfl rfl (zP rfl rfl (zJ (v := .bool false) rfl rfl rfl (fun w => by rw [kL]; rw [show decide (buyI (some (bi, bfr)) < 0) = false from decide_eq_false (by dsimp only [buyI]; omega)]) ?_))))))
        refine zP rfl rfl (zF rfl rfl (zP rfl rfl (zF rfl rfl (zP rfl rfl (zF rfl rfl (zP rfl rfl (zJ rfl rfl rfl kL ?_)))))))
        refine zP rfl rfl (kC rfl rfl rfl (jK rfl rfl rfl (zA (zC (zN rfl (fun hc6 => ?_) (fun hc6 => ?_))))))
        ·dsimp only [buyF] at hc6
         refine zB (zF rfl rfl (zF rfl rfl (zE rfl rfl (zE rfl rfl (zA (zM (zC (zB (zJ rfl rfl rfl (fun w => jM w (zT _ om om)) ?_)))))))))
         refine zF rfl rfl (zA (qO (k + 1, A1, fs.length + 1, c1) tdo tdo (by (try dsimp only); rw [hsucc, if_pos ⟨his, fun p hp => by rw [hbn] at hp; cases hp; omega⟩]; repeat (first | exact Sub.nil _ | refine Sub.cons rfl ?_)) pkk))
        ·dsimp only [buyF] at hc6
         refine zS (zM (zC (zB (zJ rfl rfl rfl (fun w => jM w (zT _ om om)) ?_))))
         refine zF rfl rfl (zA (qO (k + 1, A1, fs.length + 1, c1) tdo tdo (by (try dsimp only); rw [hsucc, if_neg (by rintro ⟨_, h⟩; have := h _ hbn; omega), hbn]; repeat (first | exact Sub.nil _ | refine Sub.cons rfl ?_)) pkk))
     ·obtain rfl : k = os.length := by omega
      refine jZ (zQ (zQ (jJ (zC (zD (zD ?_))))))
      rcases hbn : buyN fs kiln days os os.length with _ | ⟨bi, bfr⟩
      ·refine zB (zF rfl rfl (zJ rfl rfl rfl kL ?_))
       refine zA (zC (qH rfl (zD (zB (zE rfl rfl (zE rfl rfl (zE rfl rfl (zA (zC (zZ (jC ?_)))))))))))
       exact jH rfl (fun a w ha => xK rfl rfl rfl rfl ha) (fun a w ha => ⟨by rfl, ha.grown nsl⟩)
      ·refine zB (zF rfl rfl (zJ (v := .bool false) rfl rfl rfl (fun w => by rw [kL]; rw [show decide (buyI (some (bi, bfr)) < 0) = false from decide_eq_false (by dsimp only [buyI]; omega)]) ?_))
       refine zA (zC (kF rfl (zS (zC (zD (zB (zF rfl rfl (zF rfl rfl (zE rfl rfl (zE rfl rfl (zE rfl rfl (zA (zC (zZ ?_))))))))))))))
       exact jH rfl (fun a w ha => xK rfl rfl rfl rfl ha) (fun a w ha => ⟨by rfl, ha.grown nsl⟩)

end Go.Proofs.Yteppiphdbondeaa.N
namespace Go.Proofs.Yteppiphdbondeaa.N
open Go Go.RowKit Go.Proofs
set_option linter.unusedSectionVars false
def hfs : List Flt := [⟨3, 1, 3, false⟩, ⟨2, 1, 1, false⟩]
def hds : List Nat := [3, 2, 3]
def tfs : List Flt := [⟨2, 1, 1, false⟩, ⟨2, 1, 1, false⟩]
def tds : List Nat := [1, 1]
def jbs : List (List Nat) := [[0, 2], [3, 0], [0, 0]]
def ofs : List Flt := [⟨2, 0, 2, false⟩]
theorem zI3 : bstA hfs 1 hds = ⟨1, 1, true⟩ := by kernel_rfl
theorem zVf : planA hfs 1 hds = jbs := by kernel_rfl
theorem zLk : bstG tfs 1 tds = ⟨2, 0, true⟩ := by kernel_rfl
theorem zTu : planG tfs 1 tds = [[0, 3], [3, 0]] := by kernel_rfl
theorem zXk : buyN hfs 0 hds ofs 1 = some (0, 0) := by kernel_rfl
theorem zUw : verdO (bstF hfs 1 hds 0 1 true) (bstF hfs 1 hds 0 1 false) = (1, 0) := by kernel_rfl
theorem zVt : workE hfs 1 hds (jbs.map fun l => l.map fun (n : Nat) => (n : Int)) = (0, [[3, 1], [0, 2], [3, 0], [0, 0]], 1) := by kernel_rfl
def stpL (fs : List Flt) (kiln : Nat) (l : List Mor) (d : Nat) : List Mor := l.flatMap fun m => (exts [] fs.length).filterMap fun acts => if (dayE fs kiln m acts d).1 = 0 then some (dayE fs kiln m acts d).2 else none
def rchM (fs : List Flt) (kiln : Nat) (days : List Nat) : List Mor := days.foldl (stpL fs kiln) [start fs]
theorem zTm {fs : List Flt} {kiln d : Nat} {l : List Mor} {S : Mor -> Prop} (h : ∀ m, m ∈ l ↔ S m) : ∀ m, m ∈ stpL fs kiln l d ↔ stp fs kiln S d m := fun x => by
 unfold stpL stp
 rw [List.mem_flatMap]
 constructor
 ·rintro ⟨m, hm, h2⟩
  obtain ⟨acts, ha, h3⟩ := List.mem_filterMap.1 h2
  split at h3
  ·rename_i h0
   cases h3
   exact ⟨m, (h m).1 hm, acts, ha, Prod.ext h0 rfl⟩
  ·cases h3
 ·rintro ⟨m, hm, acts, ha, h2⟩
  exact ⟨m, (h m).2 hm, List.mem_filterMap.2 ⟨acts, ha, by rw [h2]; rfl⟩⟩
theorem zLu {fs : List Flt} {kiln : Nat} : ∀ (days : List Nat) (l : List Mor) (S : Mor -> Prop), (∀ m, m ∈ l ↔ S m) -> ∀ m, m ∈ days.foldl (stpL fs kiln) l ↔ days.foldl (stp fs kiln) S m
 | [], _, _, h => h
 | _ :: days, _, _, h => zLu days _ _ (zTm h)
theorem zYv {fs : List Flt} {kiln : Nat} {days : List Nat} {m : Mor} : m ∈ rchM fs kiln days ↔ Rch fs kiln days m := zLu days _ _ (fun m => by simp) m
theorem zX4 : (rchM hfs 0 [3]).isEmpty = false := by kernel_rfl
theorem zYl : (rchM hfs 0 [3, 2]).isEmpty = false := by kernel_rfl
theorem zX2 : (rchM hfs 0 [3, 2, 3]).isEmpty = true := by kernel_rfl
theorem hv {k : Nat} (hk : k <= 3) : ChV hfs k hds := ⟨by decide, by decide, by unfold FltOk; decide, hk, by decide, by decide, by decide⟩
theorem tv1 : ChV tfs 1 tds := ⟨by decide, by decide, by unfold FltOk; decide, by decide, by decide, by decide, by decide⟩
theorem zNl {α : Type} [DecidableEq α] {l m : List α} {k : Nat} (h1 : k <= l.length) (h2 : k <= m.length) (h3 : l.take k = m.take k) (h4 : ¬ (k < l.length ∧ k < m.length)) : decide (l = m) = decide ((l.length : Int) = (m.length : Int)) := by
 rw [decide_eq_decide]
 constructor
 ·rintro rfl; rfl
 ·intro e
  have e1 : k = l.length := by omega
  have e2 : k = m.length := by omega
  rw [e1, List.take_length, <- e1, e2, List.take_length] at h3
  exact h3
end Go.Proofs.Yteppiphdbondeaa.N
namespace Go.Proofs.Yteppiphdbondeaa.N
open Go Go.RowKit Go.Proofs
set_option linter.unusedSectionVars false
variable [I : Sys]
theorem F.ent46 : Enters Try.prog 46 := jD Try.func46 rfl (by kernel_rfl)
theorem F.pl27 : Places Try.prog 27 [(0, 1), (1, 1), (2, 1)] := .inl ⟨_, Try.underlying27, by kernel_rfl⟩
theorem F.pl49 : Places Try.prog 49 [(0, 1), (1, 1), (2, 1), (3, 1)] := .inl ⟨_, Try.underlying49, by kernel_rfl⟩
theorem zTc {A B : Option Addr} {ca cb : Nat} {l m : List Int} (hl : l.length < 1000000) (hm : m.length < 1000000) (w : World) (hA : RdL zcell 1 w A l) (hB : RdL zcell 1 w B m) : Calls Try.prog 46 #[.slice A l.length ca, .slice B m.length cb] w fun e w' => e = .returned (.bool (decide (l = m))) ∧ Grew w w' [] := by
 refine enter (N := 32) [(0, .slice A l.length ca), (1, .slice B m.length cb)] Try.func46 rfl Try.ntmps46 rfl rfl ?_
 refine zD (zB (zE rfl rfl (zA (zC (zD (zD (zB (zE rfl rfl (zA (zC (zW (xX (G := Nat) (fun k => k <= l.length ∧ k <= m.length ∧ l.take k = m.take k) (fun k => l.length - k) (fun k => [(0, .slice A l.length ca), (1, .slice B m.length cb), (5, .int .i64 (k : Int))]) (fun k => []) 0 ⟨Nat.zero_le _, Nat.zero_le _, rfl⟩ sbn sbl ?_))))))))))))
 intro k hk
 (try dsimp only at hk ⊢)
 refine zD (zD (zB (wZ 10 15 (.bool (decide (k < l.length ∧ k < m.length))) ?_ ?_)))
 ·refine zF rfl rfl (zF rfl rfl (kE rfl rfl Try.underlying22 ?_))
  refine zJ rfl rfl rfl kL ?_
  refine zF rfl rfl (wJ (t := 10) rfl (fun hg10 => ?_) (fun hg10 => ?_))
  ·refine zP rfl rfl (zF rfl rfl (zP rfl rfl (zF rfl rfl (zP rfl rfl (kE rfl rfl Try.underlying22 ?_)))))
   refine zP rfl rfl (zJ rfl rfl rfl kL ?_)
   refine jK rfl rfl rfl (zA ?_)
   exact xT (.cons (by simp_all [look] <;> omega) sbn) sbl
  ·refine jG rfl rfl rfl (jG rfl rfl rfl (jG rfl rfl rfl (jG rfl rfl rfl (kC rfl rfl rfl (zA ?_)))))
   exact xT (.cons (by simp_all [look] <;> omega) sbn) sbl
 refine zA (zC (zN rfl (fun hc0 => ?_) (fun hc0 => ?_)))
 ·obtain ⟨hk1, hk2, hk3⟩ := hk
  obtain ⟨ba, oa, hAe, hba, hca⟩ := hA om
  obtain ⟨bb, ob, hBe, hbb, hcb⟩ := hB om
  obtain ⟨x, hx⟩ : ∃ x, l[k]? = some x := ⟨_, List.getElem?_eq_getElem hc0.1⟩
  obtain ⟨y, hy⟩ : ∃ x, m[k]? = some x := ⟨_, List.getElem?_eq_getElem hc0.2⟩
  refine zS (zC (zD (zW (zD (kB [] F.follows 9 rfl [false, false, false, false, false, false, false, false, false] rfl ?_)))))
  refine zG 0 rfl rfl rfl (zY rfl) ?_
  refine zG 1 rfl rfl rfl (zY rfl) ?_
  refine zG 2 rfl rfl rfl (qF (j := k) (show _ = some (Value.slice (some ⟨ba, oa, none⟩) l.length ca) from by rw [<- hAe]; rfl) rfl Try.underlying22 F.ti3 rfl hc0.1) ?_
  refine zG 3 rfl rfl rfl (kM (v := .int .i64 x) rfl F.one3 (fun a w ha => ha.old (hca k x hx 0 _ rfl) hba)) ?_
  refine zG 4 rfl rfl rfl (zY rfl) ?_
  refine zG 5 rfl rfl rfl (zY rfl) ?_
  refine zG 6 rfl rfl rfl (qF (j := k) (show _ = some (Value.slice (some ⟨bb, ob, none⟩) m.length cb) from by rw [<- hBe]; rfl) rfl Try.underlying22 F.ti3 rfl hc0.2) ?_
  refine zG 7 rfl rfl rfl (kM (v := .int .i64 y) rfl F.one3 (fun a w ha => ha.old (hcb k y hy 0 _ rfl) hbb)) ?_
  refine zG 8 rfl rfl rfl (kZ rfl rfl qM) ?_
  refine adn (zC (zN rfl (fun hc1 => ?_) (fun hc1 => ?_)))
  ·refine zD (zB (zE rfl rfl (zA (zC (zZ (jS (jC (jC (jS (jC ?_))))))))))
   exact jH rfl (fun a w ha => jP rfl rfl ha) (fun a w ha => ⟨by rw [decide_eq_false (fun e => hc1 (by subst e; rw [hx] at hy; cases hy; rfl))], ha.grown nsl⟩)
  ·refine zS (zM (zC (zB (zF rfl rfl (zJ rfl rfl rfl (fun w => jM w (zT _ om om)) ?_)))))
   refine zE rfl rfl (zA (qZ (k + 1) ⟨by omega, by omega, by rw [List.take_add_one, List.take_add_one, hx, hy, hk3]; rw [show x = y from by simpa using hc1]⟩ tdo sbn sbl))
 ·obtain ⟨hk1, hk2, hk3⟩ := hk
  refine jZ (zQ (zQ (jJ (zC (zD (zB (zF rfl rfl (kE rfl rfl Try.underlying22 ?_))))))))
  refine zF rfl rfl (kE rfl rfl Try.underlying22 ?_)
  refine zJ rfl rfl rfl kI ?_
  refine zE rfl rfl (zA (zC (zZ ?_)))
  exact jH rfl (fun a w ha => jP rfl rfl ha) (fun a w ha => ⟨by rw [zNl hk1 hk2 hk3 hc0], ha.grown nsl⟩)

theorem zE2 {A B : Option Addr} {ca cb : Nat} {l m : List MetaZ} (hl : l.length < 1000000) (hm : m.length < 1000000) (hl2 : ∀ x ∈ l, x.2.2.length < 1000000) (hm2 : ∀ x ∈ m, x.2.2.length < 1000000) (w : World) (hA : RdZ w A l) (hB : RdZ w B m) : Calls Try.prog 21 #[.slice A l.length ca, .slice B m.length cb] w fun e w' => e = .returned (.bool (decide (l.map (·.2.2) = m.map (·.2.2)))) ∧ Grew w w' [] := by
 refine enter (N := 33) [(0, .slice A l.length ca), (1, .slice B m.length cb)] Try.func21 rfl Try.ntmps21 rfl rfl ?_
 refine zD (zB (zE rfl rfl (zA (zC (zD (zD (zB (zE rfl rfl (zA (zC (zW (xX (G := Nat) (fun k => k <= l.length ∧ k <= m.length ∧ (l.map (·.2.2)).take k = (m.map (·.2.2)).take k) (fun k => l.length - k) (fun k => [(0, .slice A l.length ca), (1, .slice B m.length cb), (5, .int .i64 (k : Int))]) (fun k => []) 0 ⟨Nat.zero_le _, Nat.zero_le _, rfl⟩ sbn sbl ?_))))))))))))
 intro k hk
 (try dsimp only at hk ⊢)
 refine zD (zD (zB (wZ 10 15 (.bool (decide (k < l.length ∧ k < m.length))) ?_ ?_)))
 ·refine zF rfl rfl (zF rfl rfl (kE rfl rfl Try.underlying29 ?_))
  refine zJ rfl rfl rfl kL ?_
  refine zF rfl rfl (wJ (t := 10) rfl (fun hg10 => ?_) (fun hg10 => ?_))
  ·refine zP rfl rfl (zF rfl rfl (zP rfl rfl (zF rfl rfl (zP rfl rfl (kE rfl rfl Try.underlying29 ?_)))))
   refine zP rfl rfl (zJ rfl rfl rfl kL ?_)
   refine jK rfl rfl rfl (zA ?_)
   exact xT (.cons (by simp_all [look] <;> omega) sbn) sbl
  ·refine jG rfl rfl rfl (jG rfl rfl rfl (jG rfl rfl rfl (jG rfl rfl rfl (kC rfl rfl rfl (zA ?_)))))
   exact xT (.cons (by simp_all [look] <;> omega) sbn) sbl
 refine zA (zC (zN rfl (fun hc0 => ?_) (fun hc0 => ?_)))
 ·obtain ⟨hk1, hk2, hk3⟩ := hk
  obtain ⟨ba, oa, hAe, hba, hca⟩ := hA.outer om
  obtain ⟨bb, ob, hBe, hbb, hcb⟩ := hB.outer om
  obtain ⟨x, hx⟩ : ∃ x, l[k]? = some x := ⟨_, List.getElem?_eq_getElem hc0.1⟩
  obtain ⟨y, hy⟩ : ∃ x, m[k]? = some x := ⟨_, List.getElem?_eq_getElem hc0.2⟩
  have hix := hA.inner x (List.mem_of_getElem? hx)
  have hiy := hB.inner y (List.mem_of_getElem? hy)
  have hlx := hl2 x (List.mem_of_getElem? hx)
  have hly := hm2 y (List.mem_of_getElem? hy)
  obtain ⟨xA, xc, xl⟩ := x
  obtain ⟨yA, yc, yl⟩ := y
  dsimp only at hix hiy hlx hly
  have hxm : (l.map (·.2.2))[k]? = some xl := by rw [List.getElem?_map, hx]; rfl
  have hym : (m.map (·.2.2))[k]? = some yl := by rw [List.getElem?_map, hy]; rfl
  refine zS (zC (zD (zW (zD (kB [] F.follows 10 rfl [false, false, false, false, false, false, false, false, false, false] rfl ?_)))))
  refine zG 0 rfl rfl rfl (zY rfl) ?_
  refine zG 1 rfl rfl rfl (zY rfl) ?_
  refine zG 2 rfl rfl rfl (qF (j := k) (show _ = some (Value.slice (some ⟨ba, oa, none⟩) l.length ca) from by rw [<- hAe]; rfl) rfl Try.underlying29 F.ti22 rfl hc0.1) ?_
  refine zG 3 rfl rfl rfl (kM (v := .slice xA xl.length xc) rfl F.one22 (fun a w ha => ha.old (hca k _ hx 0 _ rfl) hba)) ?_
  refine zG 4 rfl rfl rfl (zY rfl) ?_
  refine zG 5 rfl rfl rfl (zY rfl) ?_
  refine zG 6 rfl rfl rfl (qF (j := k) (show _ = some (Value.slice (some ⟨bb, ob, none⟩) m.length cb) from by rw [<- hBe]; rfl) rfl Try.underlying29 F.ti22 rfl hc0.2) ?_
  refine zG 7 rfl rfl rfl (kM (v := .slice yA yl.length yc) rfl F.one22 (fun a w ha => ha.old (hcb k _ hy 0 _ rfl) hbb)) ?_
  refine an1 8 rfl ?_
  refine jO (v := .bool (decide (xl = yl))) (vs := [_, _]) rfl rfl F.ent46 (fun a w ha => zTc hlx hly w (hix.later ha.below) (hiy.later ha.below)) ?_
  refine zA (anb (zG 9 rfl rfl rfl (zIh rfl) ?_))
  refine adn (zC (qI rfl (fun hc1 => ?_) (fun hc1 => ?_)))
  ·refine zD (zB (zE rfl rfl (zA (zC (zZ (jS (jC (jC (jS (jC ?_))))))))))
   exact jH rfl (fun a w ha => jP rfl rfl ha) (fun a w ha => ⟨by rw [decide_eq_false (fun e => by rw [e, hym] at hxm; cases hxm; simp at hc1)], ha.grown nsl⟩)
  ·refine zS (zM (zC (zB (zF rfl rfl (zJ rfl rfl rfl (fun w => jM w (zT _ om om)) ?_)))))
   refine zE rfl rfl (zA (qZ (k + 1) ⟨by omega, by omega, by rw [List.take_add_one, List.take_add_one, hxm, hym, hk3]; rw [show xl = yl from by simpa using hc1]⟩ tdo sbn sbl))
 ·obtain ⟨hk1, hk2, hk3⟩ := hk
  refine jZ (zQ (zQ (jJ (zC (zD (zB (zF rfl rfl (kE rfl rfl Try.underlying29 ?_))))))))
  refine zF rfl rfl (kE rfl rfl Try.underlying29 ?_)
  refine zJ rfl rfl rfl kI ?_
  refine zE rfl rfl (zA (zC (zZ ?_)))
  exact jH rfl (fun a w ha => jP rfl rfl ha) (fun a w ha => ⟨by rw [zNl (l := l.map (·.2.2)) (m := m.map (·.2.2)) (by simpa using hk1) (by simpa using hk2) hk3 (by simpa using hc0)]; simp, ha.grown nsl⟩)

theorem zDd (k : Nat) (w : World) : Calls Try.prog 42 #[.int .i64 (k : Int)] w fun e w' => ∃ b5 b7, e = .returned (.agg [.slice (some ⟨b5, 0, none⟩) 2 2, .int .i64 (k : Int), .slice (some ⟨b7, 0, none⟩) 3 3].toArray) ∧ Grew w w' [.blk b7 (.cells (ints hds).toArray 3 (0, 0)), .blk b5 (.cells (hfs.flatMap Flt.cells).toArray 49 (0, 0))] := by
 refine enter (N := 9) [(0, .int .i64 (k : Int))] Try.func42 rfl Try.ntmps42 rfl rfl ?_
 refine zD (zB (zU rfl F.ti27 ?_))
 intro b2
 refine zA (zC (zD (zB (jX (vs := [(0, _), (1, _), (2, _)]) (l' := [_, _, _, _]) rfl rfl F.ti49 F.pl49 (.cons rfl rfl (.cons rfl rfl (.cons rfl rfl (.nil _)))) rfl ?_))))
 refine jX (vs := [(0, _), (1, _), (2, _)]) (l' := [_, _, _, _]) rfl rfl F.ti49 F.pl49 (.cons rfl rfl (.cons rfl rfl (.cons rfl rfl (.nil _)))) rfl ?_
 refine yZ (vs := [(0, .agg (Flt.cells ⟨3, 1, 3, false⟩).toArray), (1, .agg (Flt.cells ⟨2, 1, 1, false⟩).toArray)]) (hfs.flatMap Flt.cells) rfl rfl Try.underlying25 F.ti49 rfl rfl rfl (Lit.agg (l1 := Flt.cells ⟨3, 1, 3, false⟩) rfl (Lit.agg (l1 := Flt.cells ⟨2, 1, 1, false⟩) (l := []) rfl rfl)) ?_
 intro b5
 refine zF rfl rfl (kD (vs := [(0, _), (1, _), (2, _)]) rfl rfl Try.underlying22 F.ti3 rfl rfl rfl ?_)
 intro b7
 refine jX (vs := [(0, _), (1, _), (2, _)]) (l' := [_, _, _]) rfl rfl F.ti27 F.pl27 (.cons rfl rfl (.cons rfl rfl (.cons rfl rfl (.nil _)))) rfl ?_
 refine zI rfl rfl F.ti27 rfl ?_
 refine zA (zC (zZ ?_))
 exact jH rfl (fun a w ha => by exact qX (ha := ha) rfl rfl F.agg27 F.ti27 rfl) (fun a w ha => ⟨b5, b7, rfl, ha.grown (.cons_cons _ (.cons_cons _ nsl))⟩)

theorem zVs  (w : World) : Calls Try.prog 45 #[] w fun e w' => ∃ b5 b7, e = .returned (.agg [.slice (some ⟨b5, 0, none⟩) 2 2, .int .i64 1, .slice (some ⟨b7, 0, none⟩) 2 2].toArray) ∧ Grew w w' [.blk b7 (.cells (ints tds).toArray 3 (0, 0)), .blk b5 (.cells (tfs.flatMap Flt.cells).toArray 49 (0, 0))] := by
 refine enter (N := 6) [] Try.func45 rfl Try.ntmps45 rfl rfl ?_
 refine zD (zB (zU rfl F.ti27 ?_))
 intro b0
 refine zA (zC (zD (zB (jX (vs := [(0, _), (1, _), (2, _)]) (l' := [_, _, _, _]) rfl rfl F.ti49 F.pl49 (.cons rfl rfl (.cons rfl rfl (.cons rfl rfl (.nil _)))) rfl ?_))))
 refine jX (vs := [(0, _), (1, _), (2, _)]) (l' := [_, _, _, _]) rfl rfl F.ti49 F.pl49 (.cons rfl rfl (.cons rfl rfl (.cons rfl rfl (.nil _)))) rfl ?_
 refine yZ (vs := [(0, .agg (Flt.cells ⟨2, 1, 1, false⟩).toArray), (1, .agg (Flt.cells ⟨2, 1, 1, false⟩).toArray)]) (tfs.flatMap Flt.cells) rfl rfl Try.underlying25 F.ti49 rfl rfl rfl (Lit.agg (l1 := Flt.cells ⟨2, 1, 1, false⟩) rfl (Lit.agg (l1 := Flt.cells ⟨2, 1, 1, false⟩) (l := []) rfl rfl)) ?_
 intro b5
 refine kD (vs := [(0, _), (1, _)]) rfl rfl Try.underlying22 F.ti3 rfl rfl rfl ?_
 intro b7
 refine jX (vs := [(0, _), (1, _), (2, _)]) (l' := [_, _, _]) rfl rfl F.ti27 F.pl27 (.cons rfl rfl (.cons rfl rfl (.cons rfl rfl (.nil _)))) rfl ?_
 refine zI rfl rfl F.ti27 rfl ?_
 refine zA (zC (zZ ?_))
 exact jH rfl (fun a w ha => by exact qX (ha := ha) rfl rfl F.agg27 F.ti27 rfl) (fun a w ha => ⟨b5, b7, rfl, ha.grown (.cons_cons _ (.cons_cons _ nsl))⟩)

theorem zQa  (w : World) : Calls Try.prog 44 #[] w fun e w' => ∃ b1 b2 b3 b4, e = .returned (.slice (some ⟨b4, 0, none⟩) 3 3) ∧ Grew w w' [.blk b4 (.cells [.slice (some ⟨b1, 0, none⟩) 2 2, .slice (some ⟨b2, 0, none⟩) 2 2, .slice (some ⟨b3, 0, none⟩) 2 2].toArray 22 (0, 0)), .blk b3 (.cells [.int .i64 0, .int .i64 0].toArray 3 (0, 0)), .blk b2 (.cells [.int .i64 3, .int .i64 0].toArray 3 (0, 0)), .blk b1 (.cells [.int .i64 0, .int .i64 2].toArray 3 (0, 0))] := by
 refine enter (N := 5) [] Try.func44 rfl Try.ntmps44 rfl rfl ?_
 refine zD (zB (zE rfl rfl (zA (zC (zD (zB (kD (vs := [(0, _), (1, _)]) rfl rfl Try.underlying22 F.ti3 rfl rfl rfl ?_)))))))
 intro b1
 refine kD (vs := [(0, _), (1, _)]) rfl rfl Try.underlying22 F.ti3 rfl rfl rfl ?_
 intro b2
 refine kD (vs := [(0, _), (1, _)]) rfl rfl Try.underlying22 F.ti3 rfl rfl rfl ?_
 intro b3
 refine kD (vs := [(0, _), (1, _), (2, _)]) rfl rfl Try.underlying29 F.ti22 rfl rfl rfl ?_
 intro b4
 refine zE rfl rfl (zA (zC (zZ ?_)))
 exact jH rfl (fun a w ha => jP rfl rfl ha) (fun a w ha => ⟨b1, b2, b3, b4, rfl, ha.grown (.cons_cons _ (.cons_cons _ (.cons_cons _ (.cons_cons _ nsl))))⟩)

end Go.Proofs.Yteppiphdbondeaa.N
namespace Go.Proofs.Yteppiphdbondeaa.N
open Go Go.RowKit Go.Proofs
set_option linter.unusedSectionVars false
theorem mr2 {l1 l2 : List Nat} {mr : List Meta} (h : mr.reverse.map (·.2.2) = [l1, l2]) : ∃ a b : Option Addr × Nat, mr = [(b.1, b.2, l2), (a.1, a.2, l1)] := by
 have hl : mr.length = 2 := by simpa using congrArg List.length h
 match mr, hl with
 | [(q1, q2, q3), (p1, p2, p3)], _ =>
  simp at h
  obtain ⟨rfl, rfl⟩ := h
  exact ⟨(p1, p2), (q1, q2), rfl⟩
theorem mr3 {l1 l2 l3 : List Nat} {mr : List Meta} (h : mr.reverse.map (·.2.2) = [l1, l2, l3]) : ∃ a b c : Option Addr × Nat, mr = [(c.1, c.2, l3), (b.1, b.2, l2), (a.1, a.2, l1)] := by
 have hl : mr.length = 3 := by simpa using congrArg List.length h
 match mr, hl with
 | [(r1, r2, r3), (q1, q2, q3), (p1, p2, p3)], _ =>
  simp at h
  obtain ⟨rfl, rfl, rfl⟩ := h
  exact ⟨(p1, p2), (q1, q2), (r1, r2), rfl⟩
theorem mr4 {l1 l2 l3 l4 : List Nat} {mr : List Meta} (h : mr.reverse.map (·.2.2) = [l1, l2, l3, l4]) : ∃ a b c d : Option Addr × Nat, mr = [(d.1, d.2, l4), (c.1, c.2, l3), (b.1, b.2, l2), (a.1, a.2, l1)] := by
 have hl : mr.length = 4 := by simpa using congrArg List.length h
 match mr, hl with
 | [(s1, s2, s3), (r1, r2, r3), (q1, q2, q3), (p1, p2, p3)], _ =>
  simp at h
  obtain ⟨rfl, rfl, rfl, rfl⟩ := h
  exact ⟨(p1, p2), (q1, q2), (r1, r2), (s1, s2), rfl⟩
theorem zL7 {fs : List Flt} {kiln : Nat} {days : List Nat} (h : (rchM fs kiln days).isEmpty = false) : ∃ m, Rch fs kiln days m := by
 cases hl : rchM fs kiln days with
 | nil => rw [hl] at h; cases h
 | cons m l => exact ⟨m, zYv.1 (by rw [hl]; simp)⟩
theorem zTe {fs : List Flt} {kiln : Nat} {days : List Nat} (h : (rchM fs kiln days).isEmpty = true) (m : Mor) : ¬ Rch fs kiln days m := fun hm => by
 have := zYv.2 hm
 rw [List.isEmpty_iff.1 h] at this
 cases this
theorem zSi {P : Nat -> Prop} {q : Prop} (h : (∃ d, d < hds.length ∧ (∀ j, j < d -> ∃ m, Rch hfs 0 (hds.take (j + 1)) m) ∧ (∀ m, ¬ Rch hfs 0 (hds.take (d + 1)) m) ∧ P d) ∨ ((∀ j, j < hds.length -> ∃ m, Rch hfs 0 (hds.take (j + 1)) m) ∧ q)) : P 2 := by
 rcases h with ⟨d, h1, h2, h3, h4⟩ | ⟨h1, _⟩
 ·rcases d with _ | _ | _ | d
  ·obtain ⟨m, hm⟩ := zL7 zX4
   exact absurd hm (h3 m)
  ·obtain ⟨m, hm⟩ := zL7 zYl
   exact absurd hm (h3 m)
  ·exact h4
  ·exact absurd h1 (by simp [hds])
 ·obtain ⟨m, hm⟩ := h1 2 (by decide)
  exact absurd hm (zTe zX2 m)
end Go.Proofs.Yteppiphdbondeaa.N
namespace Go.Proofs.Yteppiphdbondeaa.N
open Go Go.RowKit Go.Proofs
set_option linter.unusedSectionVars false
variable [I : Sys]
theorem F.ent15 : Enters Try.prog 15 := jD Try.func15 rfl (by kernel_rfl)
theorem F.ent17 : Enters Try.prog 17 := jD Try.func17 rfl (by kernel_rfl)
theorem F.ent19 : Enters Try.prog 19 := jD Try.func19 rfl (by kernel_rfl)
theorem F.ent21 : Enters Try.prog 21 := jD Try.func21 rfl (by kernel_rfl)
theorem F.ent23 : Enters Try.prog 23 := jD Try.func23 rfl (by kernel_rfl)
theorem F.ent28 : Enters Try.prog 28 := jD Try.func28 rfl (by kernel_rfl)
theorem F.ent33 : Enters Try.prog 33 := jD Try.func33 rfl (by kernel_rfl)
theorem F.ent42 : Enters Try.prog 42 := jD Try.func42 rfl (by kernel_rfl)
theorem F.ent44 : Enters Try.prog 44 := jD Try.func44 rfl (by kernel_rfl)
theorem F.ent45 : Enters Try.prog 45 := jD Try.func45 rfl (by kernel_rfl)
theorem zRs [R : ReaC] (w : World) (hR : RdC w) : Calls Try.prog 20 #[] w fun e w' => e = .returned (.bool true) ∧ Grew w w' [] := by
 refine enter (N := 125) [] Try.func20 rfl Try.ntmps20 rfl rfl ?_
 refine zD (zB (zE rfl rfl (zA (zC (zD (zB (qQ (X := Nat × Nat) (vs := [_]) (p := fun _ => True) (val := fun g => .agg [.slice (some ⟨g.1, 0, none⟩) 2 2, .int .i64 1, .slice (some ⟨g.2, 0, none⟩) 3 3].toArray) (rs := fun g => [.blk g.2 (.cells (ints hds).toArray 3 (0, 0)), .blk g.1 (.cells (hfs.flatMap Flt.cells).toArray 49 (0, 0))]) rfl rfl F.ent42 (fun a w ha => (zDd 1 w).mono (fun e w' h => by obtain ⟨b5, b7, h1, h2⟩ := h; exact ⟨(b5, b7), trivial, h1, h2⟩)) ?_)))))))
 rintro ⟨f1, d1⟩ -
 dsimp only [List.cons_append, List.nil_append]
 refine qQ (X := Option Addr × Nat × (Option Addr × Nat) × (Option Addr × Nat) × (Option Addr × Nat)) (vs := [_]) (p := fun _ => True) (val := fun g => .tuple #[.slice g.1 3 g.2.1, .int .i64 1, .int .i64 0]) (rs := fun g => [.row 22 1 g.1 3 g.2.1 [.slice g.2.2.1.1 2 g.2.2.1.2, .slice g.2.2.2.1.1 2 g.2.2.2.1.2, .slice g.2.2.2.2.1 2 g.2.2.2.2.2], .row 3 1 g.2.2.2.2.1 2 g.2.2.2.2.2 (ints [0, 0]), .row 3 1 g.2.2.2.1.1 2 g.2.2.2.1.2 (ints [3, 0]), .row 3 1 g.2.2.1.1 2 g.2.2.1.2 (ints [0, 2])]) rfl rfl F.ent15 (fun a w ha => ?_) ?_
 ·refine (zL1 (fA := some ⟨f1, 0, none⟩) (dA := some ⟨d1, 0, none⟩) (fc := 2) (dc := 3) (fs := hfs) (days := hds) (kiln := 1) (hv (by decide)) w (kN ha (cells := Flt.cells) (size := 4) (b := f1) (l := hfs) (fun _ => rfl) rfl) (kN ha (cells := ncell) (size := 1) (b := d1) (l := hds) (fun _ => rfl) rfl)).mono ?_
  rintro e w' ⟨oA, oc, mr, hcase, hg⟩
  rcases hcase with ⟨h1, h2, h3⟩ | ⟨h1, _⟩
  ·rw [zVf] at h2
   obtain ⟨a, b, c, rfl⟩ := mr3 h2
   rw [zI3] at h3
   exact ⟨(oA, oc, a, b, c), trivial, h3, hg⟩
  ·rw [zI3] at h1; cases h1
 rintro ⟨A1, c1, ⟨p1, q1⟩, ⟨p2, q2⟩, ⟨p3, q3⟩⟩ -
 dsimp only [List.cons_append, List.nil_append]
 refine zF rfl rfl (zX rfl rfl rfl (zX rfl rfl rfl (zX rfl rfl rfl (zE rfl rfl (zE rfl rfl (zE rfl rfl (zA (zC (zD (zB (qQ (X := Nat × Nat) (vs := [_]) (p := fun _ => True) (val := fun g => .agg [.slice (some ⟨g.1, 0, none⟩) 2 2, .int .i64 1, .slice (some ⟨g.2, 0, none⟩) 3 3].toArray) (rs := fun g => [.blk g.2 (.cells (ints hds).toArray 3 (0, 0)), .blk g.1 (.cells (hfs.flatMap Flt.cells).toArray 49 (0, 0))]) rfl rfl F.ent42 (fun a w ha => (zDd 1 w).mono (fun e w' h => by obtain ⟨b5, b7, h1, h2⟩ := h; exact ⟨(b5, b7), trivial, h1, h2⟩)) ?_)))))))))))
 rintro ⟨f2, d2⟩ -
 dsimp only [List.cons_append, List.nil_append]
 refine qQ (X := Nat × Nat × Nat × Nat) (vs := []) (p := fun _ => True) (val := fun g => .slice (some ⟨g.2.2.2, 0, none⟩) 3 3) (rs := fun g => [.blk g.2.2.2 (.cells [.slice (some ⟨g.1, 0, none⟩) 2 2, .slice (some ⟨g.2.1, 0, none⟩) 2 2, .slice (some ⟨g.2.2.1, 0, none⟩) 2 2].toArray 22 (0, 0)), .blk g.2.2.1 (.cells [.int .i64 0, .int .i64 0].toArray 3 (0, 0)), .blk g.2.1 (.cells [.int .i64 3, .int .i64 0].toArray 3 (0, 0)), .blk g.1 (.cells [.int .i64 0, .int .i64 2].toArray 3 (0, 0))]) rfl rfl F.ent44 (fun a w ha => (zQa w).mono (fun e w' h => by obtain ⟨b1, b2, b3, b4, h1, h2⟩ := h; exact ⟨(b1, b2, b3, b4), trivial, h1, h2⟩)) ?_
 rintro ⟨j1, j2, j3, j4⟩ -
 dsimp only [List.cons_append, List.nil_append]
 refine qQ (X := Option Addr × Nat × (Option Addr × Nat) × (Option Addr × Nat) × (Option Addr × Nat) × (Option Addr × Nat)) (vs := [_, _]) (p := fun _ => True) (val := fun g => .tuple #[.slice g.1 4 g.2.1, .int .i64 1, .int .i64 0]) (rs := fun g => [.row 22 1 g.1 4 g.2.1 [.slice g.2.2.1.1 2 g.2.2.1.2, .slice g.2.2.2.1.1 2 g.2.2.2.1.2, .slice g.2.2.2.2.1.1 2 g.2.2.2.2.1.2, .slice g.2.2.2.2.2.1 2 g.2.2.2.2.2.2], .row 3 1 g.2.2.2.2.2.1 2 g.2.2.2.2.2.2 (ints [0, 0]), .row 3 1 g.2.2.2.2.1.1 2 g.2.2.2.2.1.2 (ints [3, 0]), .row 3 1 g.2.2.2.1.1 2 g.2.2.2.1.2 (ints [0, 2]), .row 3 1 g.2.2.1.1 2 g.2.2.1.2 (ints [3, 1])]) rfl rfl F.ent17 (fun a w ha => ?_) ?_
 ·refine (zLm (fA := some ⟨f2, 0, none⟩) (dA := some ⟨d2, 0, none⟩) (fc := 2) (dc := 3) (fs := hfs) (days := hds) (kiln := 1) (pA := some ⟨j4, 0, none⟩) (pc := 3) (ms := [(some ⟨j1, 0, none⟩, 2, [0, 2]), (some ⟨j2, 0, none⟩, 2, [3, 0]), (some ⟨j3, 0, none⟩, 2, [0, 0])]) (hv (by decide)) (by show 3 < 1000000; decide) (by intro x hx; simp only [List.mem_cons, List.not_mem_nil, or_false] at hx; rcases hx with rfl | rfl | rfl <;> (dsimp only; decide)) w (kN ha (cells := Flt.cells) (size := 4) (b := f2) (l := hfs) (fun _ => rfl) rfl) (kN ha (cells := ncell) (size := 1) (b := d2) (l := hds) (fun _ => rfl) rfl) ⟨kN ha (cells := fun m => [zmcell m]) (size := 1) (b := j4) (l := [(some ⟨j1, 0, none⟩, 2, [0, 2]), (some ⟨j2, 0, none⟩, 2, [3, 0]), (some ⟨j3, 0, none⟩, 2, [0, 0])]) (fun _ => rfl) rfl, fun m hm => by
   simp only [List.mem_cons, List.not_mem_nil, or_false] at hm
   rcases hm with rfl | rfl | rfl
   ·exact kN ha (cells := zcell) (size := 1) (b := j1) (l := [0, 2]) (fun _ => rfl) rfl
   ·exact kN ha (cells := zcell) (size := 1) (b := j2) (l := [3, 0]) (fun _ => rfl) rfl
   ·exact kN ha (cells := zcell) (size := 1) (b := j3) (l := [0, 0]) (fun _ => rfl) rfl⟩).mono ?_
  rintro e w' ⟨oA, oc, mr, h2, h3, hg⟩
  rw [show workE hfs 1 hds (List.map (fun x => x.2.2) ([(some ⟨j1, 0, none⟩, 2, [0, 2]), (some ⟨j2, 0, none⟩, 2, [3, 0]), (some ⟨j3, 0, none⟩, 2, [0, 0])] : List MetaZ)) = (0, [[3, 1], [0, 2], [3, 0], [0, 0]], 1) from zVt] at h2 h3
  obtain ⟨a, b, c, d, rfl⟩ := mr4 h2
  exact ⟨(oA, oc, a, b, c, d), trivial, h3, hg⟩
 rintro ⟨A2, c2, ⟨r1, s1⟩, ⟨r2, s2⟩, ⟨r3, s3⟩, ⟨r4, s4⟩⟩ -
 dsimp only [List.cons_append, List.nil_append]
 refine zF rfl rfl (zX rfl rfl rfl (zX rfl rfl rfl (zX rfl rfl rfl (zE rfl rfl (zE rfl rfl (zE rfl rfl (zA (zC (zD (zB (qQ (X := Nat × Nat) (vs := [_]) (p := fun _ => True) (val := fun g => .agg [.slice (some ⟨g.1, 0, none⟩) 2 2, .int .i64 0, .slice (some ⟨g.2, 0, none⟩) 3 3].toArray) (rs := fun g => [.blk g.2 (.cells (ints hds).toArray 3 (0, 0)), .blk g.1 (.cells (hfs.flatMap Flt.cells).toArray 49 (0, 0))]) rfl rfl F.ent42 (fun a w ha => (zDd 0 w).mono (fun e w' h => by obtain ⟨b5, b7, h1, h2⟩ := h; exact ⟨(b5, b7), trivial, h1, h2⟩)) ?_)))))))))))
 rintro ⟨f3, d3⟩ -
 dsimp only [List.cons_append, List.nil_append]
 refine jO (v := .tuple #[.int .i64 2, .int .i64 0]) (vs := [_]) rfl rfl F.ent23 (fun a w ha => (zT5 (fA := some ⟨f3, 0, none⟩) (dA := some ⟨d3, 0, none⟩) (fc := 2) (dc := 3) (fs := hfs) (days := hds) (kiln := 0) (hv (by decide)) (by decide) w (hR.later ha.below) (fun _ => ⟨f3, 0, none, _, _, rfl, ha.mem_blk (InB.mem (b := f3)), by decide⟩) (kN ha (cells := Flt.cells) (size := 4) (b := f3) (l := hfs) (fun _ => rfl) rfl) (kN ha (cells := ncell) (size := 1) (b := d3) (l := hds) (fun _ => rfl) rfl)).mono (fun e w' h => ⟨zSi (P := fun d => e = .returned (.tuple #[.int .i64 (d : Int), .int .i64 0])) h.1, h.2⟩)) ?_
 refine zF rfl rfl (zX rfl rfl rfl (zX rfl rfl rfl (zE rfl rfl (zE rfl rfl (zA (zC (zD (zB (qQ (X := Nat × Nat) (vs := []) (p := fun _ => True) (val := fun g => .agg [.slice (some ⟨g.1, 0, none⟩) 2 2, .int .i64 1, .slice (some ⟨g.2, 0, none⟩) 2 2].toArray) (rs := fun g => [.blk g.2 (.cells (ints tds).toArray 3 (0, 0)), .blk g.1 (.cells (tfs.flatMap Flt.cells).toArray 49 (0, 0))]) rfl rfl F.ent45 (fun a w ha => (zVs w).mono (fun e w' h => by obtain ⟨b5, b7, h1, h2⟩ := h; exact ⟨(b5, b7), trivial, h1, h2⟩)) ?_)))))))))
 rintro ⟨f4, d4⟩ -
 dsimp only [List.cons_append, List.nil_append]
 refine qQ (X := Option Addr × Nat × (Option Addr × Nat) × (Option Addr × Nat)) (vs := [_]) (p := fun _ => True) (val := fun g => .tuple #[.slice g.1 2 g.2.1, .int .i64 2, .int .i64 0]) (rs := fun g => [.row 22 1 g.1 2 g.2.1 [.slice g.2.2.1.1 2 g.2.2.1.2, .slice g.2.2.2.1 2 g.2.2.2.2], .row 3 1 g.2.2.2.1 2 g.2.2.2.2 (ints [3, 0]), .row 3 1 g.2.2.1.1 2 g.2.2.1.2 (ints [0, 3])]) rfl rfl F.ent33 (fun a w ha => ?_) ?_
 ·refine (zUm (fA := some ⟨f4, 0, none⟩) (dA := some ⟨d4, 0, none⟩) (fc := 2) (dc := 2) (fs := tfs) (days := tds) (kiln := 1) tv1 w (kN ha (cells := Flt.cells) (size := 4) (b := f4) (l := tfs) (fun _ => rfl) rfl) (kN ha (cells := ncell) (size := 1) (b := d4) (l := tds) (fun _ => rfl) rfl)).mono ?_
  rintro e w' ⟨oA, oc, mr, hcase, hg⟩
  rcases hcase with ⟨h1, h2, h3⟩ | ⟨h1, _⟩
  ·rw [zTu] at h2
   obtain ⟨a, b, rfl⟩ := mr2 h2
   rw [zLk] at h3
   exact ⟨(oA, oc, a, b), trivial, h3, hg⟩
  ·rw [zLk] at h1; cases h1
 rintro ⟨A4, c4, ⟨t1, u1⟩, ⟨t2, u2⟩⟩ -
 dsimp only [List.cons_append, List.nil_append]
 refine zF rfl rfl (zX rfl rfl rfl (zX rfl rfl rfl (zX rfl rfl rfl (zE rfl rfl (zE rfl rfl (zE rfl rfl (zA (zC (zD (zB (qQ (X := Nat × Nat) (vs := [_]) (p := fun _ => True) (val := fun g => .agg [.slice (some ⟨g.1, 0, none⟩) 2 2, .int .i64 0, .slice (some ⟨g.2, 0, none⟩) 3 3].toArray) (rs := fun g => [.blk g.2 (.cells (ints hds).toArray 3 (0, 0)), .blk g.1 (.cells (hfs.flatMap Flt.cells).toArray 49 (0, 0))]) rfl rfl F.ent42 (fun a w ha => (zDd 0 w).mono (fun e w' h => by obtain ⟨b5, b7, h1, h2⟩ := h; exact ⟨(b5, b7), trivial, h1, h2⟩)) ?_)))))))))))
 rintro ⟨f5, d5⟩ -
 dsimp only [List.cons_append, List.nil_append]
 refine jX (vs := [(0, _), (2, _)]) (l' := [_, _, _, _]) rfl rfl F.ti49 F.pl49 (.cons rfl rfl (.cons rfl rfl (.nil _))) rfl ?_
 refine yZ (vs := [(0, .agg (Flt.cells ⟨2, 0, 2, false⟩).toArray)]) (ofs.flatMap Flt.cells) rfl rfl Try.underlying25 F.ti49 rfl rfl rfl (Lit.agg (l1 := Flt.cells ⟨2, 0, 2, false⟩) (l := []) rfl rfl) ?_
 intro o5
 refine jO (v := .tuple #[.int .i64 0, .int .i64 0, .int .i64 0]) (vs := [_, _]) rfl rfl F.ent28 (fun a w ha => (zYq (fA := some ⟨f5, 0, none⟩) (dA := some ⟨d5, 0, none⟩) (fc := 2) (dc := 3) (fs := hfs) (days := hds) (kiln := 0) (oA := some ⟨o5, 0, none⟩) (oc := 1) (os := ofs) (hv (by decide)) (by decide) (by unfold FltOk; decide) (by decide) (by decide) w (kN ha (cells := Flt.cells) (size := 4) (b := f5) (l := hfs) (fun _ => rfl) rfl) (kN ha (cells := ncell) (size := 1) (b := d5) (l := hds) (fun _ => rfl) rfl) (kN ha (cells := Flt.cells) (size := 4) (b := o5) (l := ofs) (fun _ => rfl) rfl)).mono (fun e w' h => ⟨h.1.trans (by rw [show ofs.length = 1 from rfl, zXk]; rfl), h.2⟩)) ?_
 refine zF rfl rfl (zX rfl rfl rfl (zX rfl rfl rfl (zX rfl rfl rfl (zE rfl rfl (zE rfl rfl (zE rfl rfl (zA (zC (zD (zB (qQ (X := Nat × Nat) (vs := [_]) (p := fun _ => True) (val := fun g => .agg [.slice (some ⟨g.1, 0, none⟩) 2 2, .int .i64 1, .slice (some ⟨g.2, 0, none⟩) 3 3].toArray) (rs := fun g => [.blk g.2 (.cells (ints hds).toArray 3 (0, 0)), .blk g.1 (.cells (hfs.flatMap Flt.cells).toArray 49 (0, 0))]) rfl rfl F.ent42 (fun a w ha => (zDd 1 w).mono (fun e w' h => by obtain ⟨b5, b7, h1, h2⟩ := h; exact ⟨(b5, b7), trivial, h1, h2⟩)) ?_)))))))))))
 rintro ⟨f6, d6⟩ -
 dsimp only [List.cons_append, List.nil_append]
 refine jO (v := .tuple #[.int .i64 1, .int .i64 0]) (vs := [_, _, _]) rfl rfl F.ent19 (fun a w ha => (zRc (fA := some ⟨f6, 0, none⟩) (dA := some ⟨d6, 0, none⟩) (fc := 2) (dc := 3) (fs := hfs) (days := hds) (kiln := 1) (f := 0) (day := 1) (hv (by decide)) (by decide) (by decide) w (kN ha (cells := Flt.cells) (size := 4) (b := f6) (l := hfs) (fun _ => rfl) rfl) (kN ha (cells := ncell) (size := 1) (b := d6) (l := hds) (fun _ => rfl) rfl)).mono (fun e w' h => ⟨h.1.trans (by rw [zUw]; rfl), h.2⟩)) ?_
 refine zF rfl rfl (zX rfl rfl rfl (zX rfl rfl rfl (zE rfl rfl (zE rfl rfl (zA (zC (zD (zB (zF rfl rfl (zJ rfl rfl rfl kI ?_))))))))))
 refine zF rfl rfl (zP rfl rfl (zF rfl rfl (zP rfl rfl (zJ rfl rfl rfl kI ?_))))
 refine jK rfl rfl rfl (zF rfl rfl (zP rfl rfl (zF rfl rfl (zP rfl rfl (zJ rfl rfl rfl kI ?_)))))
 refine jK rfl rfl rfl (zF rfl rfl (zP rfl rfl (zF rfl rfl (zP rfl rfl (zJ rfl rfl rfl kI ?_)))))
 refine jK rfl rfl rfl (zF rfl rfl (zP rfl rfl (zF rfl rfl (zP rfl rfl (zJ rfl rfl rfl kI ?_)))))
 refine jK rfl rfl rfl (zF rfl rfl (zP rfl rfl (zF rfl rfl (zP rfl rfl (zJ rfl rfl rfl kI ?_)))))
 refine jK rfl rfl rfl (zF rfl rfl (zP rfl rfl (zF rfl rfl (zP rfl rfl (zJ rfl rfl rfl kI ?_)))))
 refine jK rfl rfl rfl (zF rfl rfl (zP rfl rfl (zF rfl rfl (zP rfl rfl (zJ rfl rfl rfl kI ?_)))))
 refine jK rfl rfl rfl (zF rfl rfl (zP rfl rfl (zF rfl rfl (zP rfl rfl (zJ rfl rfl rfl kI ?_)))))
 refine jK rfl rfl rfl (zF rfl rfl (zP rfl rfl (zF rfl rfl (zP rfl rfl (zJ rfl rfl rfl kI ?_)))))
 refine jK rfl rfl rfl (zF rfl rfl (zP rfl rfl (zF rfl rfl (zP rfl rfl (zJ rfl rfl rfl kI ?_)))))
 refine jK rfl rfl rfl (zF rfl rfl (zP rfl rfl (zF rfl rfl (zP rfl rfl (zJ rfl rfl rfl kI ?_)))))
 refine jK rfl rfl rfl (zF rfl rfl (zP rfl rfl (zF rfl rfl (zP rfl rfl (zJ rfl rfl rfl kI ?_)))))
 refine jK rfl rfl rfl (zF rfl rfl (zP rfl rfl (zF rfl rfl (zP rfl rfl (qQ (X := Nat × Nat × Nat × Nat) (vs := []) (p := fun _ => True) (val := fun g => .slice (some ⟨g.2.2.2, 0, none⟩) 3 3) (rs := fun g => [.blk g.2.2.2 (.cells [.slice (some ⟨g.1, 0, none⟩) 2 2, .slice (some ⟨g.2.1, 0, none⟩) 2 2, .slice (some ⟨g.2.2.1, 0, none⟩) 2 2].toArray 22 (0, 0)), .blk g.2.2.1 (.cells [.int .i64 0, .int .i64 0].toArray 3 (0, 0)), .blk g.2.1 (.cells [.int .i64 3, .int .i64 0].toArray 3 (0, 0)), .blk g.1 (.cells [.int .i64 0, .int .i64 2].toArray 3 (0, 0))]) rfl rfl F.ent44 (fun a w ha => (zQa w).mono (fun e w' h => by obtain ⟨b1, b2, b3, b4, h1, h2⟩ := h; exact ⟨(b1, b2, b3, b4), trivial, h1, h2⟩)) ?_)))))
 rintro ⟨j5, j6, j7, j8⟩ -
 dsimp only [List.cons_append, List.nil_append]
 refine zP rfl rfl ?_
 refine jO (v := .bool true) (vs := [_, _]) rfl rfl F.ent21 (fun a w ha => (zE2 (A := A1) (B := some ⟨j8, 0, none⟩) (ca := c1) (cb := 3) (l := [(p1, q1, [0, 2]), (p2, q2, [3, 0]), (p3, q3, [0, 0])]) (m := [(some ⟨j5, 0, none⟩, 2, [0, 2]), (some ⟨j6, 0, none⟩, 2, [3, 0]), (some ⟨j7, 0, none⟩, 2, [0, 0])]) (by show 3 < 1000000; decide) (by show 3 < 1000000; decide) (by intro x hx; simp only [List.mem_cons, List.not_mem_nil, or_false] at hx; rcases hx with rfl | rfl | rfl <;> (dsimp only; decide)) (by intro x hx; simp only [List.mem_cons, List.not_mem_nil, or_false] at hx; rcases hx with rfl | rfl | rfl <;> (dsimp only; decide)) w ⟨xD ha (cells := fun m => [zmcell m]) (size := 1) (e := 22) (c := c1) (n := 3) (l := [(p1, q1, [0, 2]), (p2, q2, [3, 0]), (p3, q3, [0, 0])]) (fun _ => rfl) (InR.mem (A := A1)) rfl, fun m hm => by
   simp only [List.mem_cons, List.not_mem_nil, or_false] at hm
   rcases hm with rfl | rfl | rfl
   ·exact xD ha (cells := zcell) (size := 1) (e := 3) (c := q1) (n := 2) (l := [0, 2]) (fun _ => rfl) (InR.mem (A := p1)) rfl
   ·exact xD ha (cells := zcell) (size := 1) (e := 3) (c := q2) (n := 2) (l := [3, 0]) (fun _ => rfl) (InR.mem (A := p2)) rfl
   ·exact xD ha (cells := zcell) (size := 1) (e := 3) (c := q3) (n := 2) (l := [0, 0]) (fun _ => rfl) (InR.mem (A := p3)) rfl⟩ ⟨kN ha (cells := fun m => [zmcell m]) (size := 1) (b := j8) (l := [(some ⟨j5, 0, none⟩, 2, [0, 2]), (some ⟨j6, 0, none⟩, 2, [3, 0]), (some ⟨j7, 0, none⟩, 2, [0, 0])]) (fun _ => rfl) rfl, fun m hm => by
   simp only [List.mem_cons, List.not_mem_nil, or_false] at hm
   rcases hm with rfl | rfl | rfl
   ·exact kN ha (cells := zcell) (size := 1) (b := j5) (l := [0, 2]) (fun _ => rfl) rfl
   ·exact kN ha (cells := zcell) (size := 1) (b := j6) (l := [3, 0]) (fun _ => rfl) rfl
   ·exact kN ha (cells := zcell) (size := 1) (b := j7) (l := [0, 0]) (fun _ => rfl) rfl⟩).mono (fun e w' h => ⟨h.1.trans (by rfl), h.2⟩)) ?_
 refine jK rfl rfl rfl (zF rfl rfl (zP rfl rfl (zF rfl rfl (zP rfl rfl (kD (vs := [(0, _), (1, _)]) rfl rfl Try.underlying22 F.ti3 rfl rfl rfl ?_)))))
 intro b111
 refine zP rfl rfl (kD (vs := [(0, _), (1, _)]) rfl rfl Try.underlying22 F.ti3 rfl rfl rfl ?_)
 intro b112
 refine zP rfl rfl (kD (vs := [(0, _), (1, _)]) rfl rfl Try.underlying22 F.ti3 rfl rfl rfl ?_)
 intro b113
 refine zP rfl rfl (kD (vs := [(0, _), (1, _)]) rfl rfl Try.underlying22 F.ti3 rfl rfl rfl ?_)
 intro b114
 refine zP rfl rfl (kD (vs := [(0, _), (1, _), (2, _), (3, _)]) rfl rfl Try.underlying29 F.ti22 rfl rfl rfl ?_)
 intro b115
 refine zP rfl rfl ?_
 refine jO (v := .bool true) (vs := [_, _]) rfl rfl F.ent21 (fun a w ha => (zE2 (A := A2) (B := some ⟨b115, 0, none⟩) (ca := c2) (cb := 4) (l := [(r1, s1, [3, 1]), (r2, s2, [0, 2]), (r3, s3, [3, 0]), (r4, s4, [0, 0])]) (m := [(some ⟨b111, 0, none⟩, 2, [3, 1]), (some ⟨b112, 0, none⟩, 2, [0, 2]), (some ⟨b113, 0, none⟩, 2, [3, 0]), (some ⟨b114, 0, none⟩, 2, [0, 0])]) (by show 4 < 1000000; decide) (by show 4 < 1000000; decide) (by intro x hx; simp only [List.mem_cons, List.not_mem_nil, or_false] at hx; rcases hx with rfl | rfl | rfl | rfl <;> (dsimp only; decide)) (by intro x hx; simp only [List.mem_cons, List.not_mem_nil, or_false] at hx; rcases hx with rfl | rfl | rfl | rfl <;> (dsimp only; decide)) w ⟨xD ha (cells := fun m => [zmcell m]) (size := 1) (e := 22) (c := c2) (n := 4) (l := [(r1, s1, [3, 1]), (r2, s2, [0, 2]), (r3, s3, [3, 0]), (r4, s4, [0, 0])]) (fun _ => rfl) (InR.mem (A := A2)) rfl, fun m hm => by
   simp only [List.mem_cons, List.not_mem_nil, or_false] at hm
   rcases hm with rfl | rfl | rfl | rfl
   ·exact xD ha (cells := zcell) (size := 1) (e := 3) (c := s1) (n := 2) (l := [3, 1]) (fun _ => rfl) (InR.mem (A := r1)) rfl
   ·exact xD ha (cells := zcell) (size := 1) (e := 3) (c := s2) (n := 2) (l := [0, 2]) (fun _ => rfl) (InR.mem (A := r2)) rfl
   ·exact xD ha (cells := zcell) (size := 1) (e := 3) (c := s3) (n := 2) (l := [3, 0]) (fun _ => rfl) (InR.mem (A := r3)) rfl
   ·exact xD ha (cells := zcell) (size := 1) (e := 3) (c := s4) (n := 2) (l := [0, 0]) (fun _ => rfl) (InR.mem (A := r4)) rfl⟩ ⟨kN ha (cells := fun m => [zmcell m]) (size := 1) (b := b115) (l := [(some ⟨b111, 0, none⟩, 2, [3, 1]), (some ⟨b112, 0, none⟩, 2, [0, 2]), (some ⟨b113, 0, none⟩, 2, [3, 0]), (some ⟨b114, 0, none⟩, 2, [0, 0])]) (fun _ => rfl) rfl, fun m hm => by
   simp only [List.mem_cons, List.not_mem_nil, or_false] at hm
   rcases hm with rfl | rfl | rfl | rfl
   ·exact kN ha (cells := zcell) (size := 1) (b := b111) (l := [3, 1]) (fun _ => rfl) rfl
   ·exact kN ha (cells := zcell) (size := 1) (b := b112) (l := [0, 2]) (fun _ => rfl) rfl
   ·exact kN ha (cells := zcell) (size := 1) (b := b113) (l := [3, 0]) (fun _ => rfl) rfl
   ·exact kN ha (cells := zcell) (size := 1) (b := b114) (l := [0, 0]) (fun _ => rfl) rfl⟩).mono (fun e w' h => ⟨h.1.trans (by rfl), h.2⟩)) ?_
 refine jK rfl rfl rfl (zF rfl rfl (zP rfl rfl (zF rfl rfl (zP rfl rfl (kD (vs := [(0, _), (1, _)]) rfl rfl Try.underlying22 F.ti3 rfl rfl rfl ?_)))))
 intro b120
 refine zP rfl rfl (kD (vs := [(0, _), (1, _)]) rfl rfl Try.underlying22 F.ti3 rfl rfl rfl ?_)
 intro b121
 refine zP rfl rfl (kD (vs := [(0, _), (1, _)]) rfl rfl Try.underlying29 F.ti22 rfl rfl rfl ?_)
 intro b122
 refine zP rfl rfl ?_
 refine jO (v := .bool true) (vs := [_, _]) rfl rfl F.ent21 (fun a w ha => (zE2 (A := A4) (B := some ⟨b122, 0, none⟩) (ca := c4) (cb := 2) (l := [(t1, u1, [0, 3]), (t2, u2, [3, 0])]) (m := [(some ⟨b120, 0, none⟩, 2, [0, 3]), (some ⟨b121, 0, none⟩, 2, [3, 0])]) (by show 2 < 1000000; decide) (by show 2 < 1000000; decide) (by intro x hx; simp only [List.mem_cons, List.not_mem_nil, or_false] at hx; rcases hx with rfl | rfl <;> (dsimp only; decide)) (by intro x hx; simp only [List.mem_cons, List.not_mem_nil, or_false] at hx; rcases hx with rfl | rfl <;> (dsimp only; decide)) w ⟨xD ha (cells := fun m => [zmcell m]) (size := 1) (e := 22) (c := c4) (n := 2) (l := [(t1, u1, [0, 3]), (t2, u2, [3, 0])]) (fun _ => rfl) (InR.mem (A := A4)) rfl, fun m hm => by
   simp only [List.mem_cons, List.not_mem_nil, or_false] at hm
   rcases hm with rfl | rfl
   ·exact xD ha (cells := zcell) (size := 1) (e := 3) (c := u1) (n := 2) (l := [0, 3]) (fun _ => rfl) (InR.mem (A := t1)) rfl
   ·exact xD ha (cells := zcell) (size := 1) (e := 3) (c := u2) (n := 2) (l := [3, 0]) (fun _ => rfl) (InR.mem (A := t2)) rfl⟩ ⟨kN ha (cells := fun m => [zmcell m]) (size := 1) (b := b122) (l := [(some ⟨b120, 0, none⟩, 2, [0, 3]), (some ⟨b121, 0, none⟩, 2, [3, 0])]) (fun _ => rfl) rfl, fun m hm => by
   simp only [List.mem_cons, List.not_mem_nil, or_false] at hm
   rcases hm with rfl | rfl
   ·exact kN ha (cells := zcell) (size := 1) (b := b120) (l := [0, 3]) (fun _ => rfl) rfl
   ·exact kN ha (cells := zcell) (size := 1) (b := b121) (l := [3, 0]) (fun _ => rfl) rfl⟩).mono (fun e w' h => ⟨h.1.trans (by rfl), h.2⟩)) ?_
 refine jK rfl rfl rfl (zE rfl rfl (zA (zC (zZ ?_))))
 exact jH rfl (fun a w ha => jP rfl rfl ha) (fun a w ha => ⟨rfl, ha.grown nsl⟩)

theorem zA1 (z : Int) : ∃ m : Nat, m < 18446744073709551616 ∧ IntKind.u64.wrap z = (m : Int) := by
 refine ⟨(IntKind.u64.wrap z).toNat, ?_, ?_⟩
 ·simp [IntKind.wrap, IntKind.signed, IntKind.bits]
  omega
 ·simp [IntKind.wrap, IntKind.signed, IntKind.bits]
  omega
theorem xor64 {a b : Nat} (ha : a < 18446744073709551616) (hb : b < 18446744073709551616) : a ^^^ b < 18446744073709551616 := Nat.xor_lt_two_pow (n := 64) ha hb
theorem shr64 {a : Nat} (k : Nat) (ha : a < 18446744073709551616) : a >>> k < 18446744073709551616 := Nat.lt_of_le_of_lt (by rw [Nat.shiftRight_eq_div_pow]; exact Nat.div_le_self _ _) ha
theorem zJv {m : Nat} (h : m < 18446744073709551615) : IntKind.u64.wrap ((m : Int) + 1) = ((m + 1 : Nat) : Int) := by
 have := zGm (m + 1) om
 simpa using this
theorem zSn (x m : Nat) : (x : Int).tmod ((m : Nat) : Int) = ((x % m : Nat) : Int) := (Int.ofNat_tmod x m).symm
class Pul (b : Nat) (o : outParam Obj) (hp : List Res) (T : outParam (List Res)) : Prop where
 perm : hp.Perm (.blk b o :: T)
instance Pul.tail (b : Nat) (o : Obj) (x : Res) (l T : List Res) [h : Pul b o l T] : Pul b o (x :: l) (x :: T) := ⟨(h.perm.cons x).trans (.swap _ _ _)⟩
instance Pul.head (b : Nat) (o : Obj) (l : List Res) : Pul b o (.blk b o :: l) l := ⟨.refl _⟩
section
variable {C : Ctx} {fr : List (Nat × Value)} {hp hp' : List Res} {a : Act} {w : World} {ops : Array Oper} {Q : Exit -> Act -> World -> Prop} {rest : List Oper}
 {d : Nat} {ty : TypeId} {pos : String} {after : Array Edge}
theorem wG {X : Type} (b : Nat) {o : Obj} (o' : X -> Obj) {T : List Res} {f : FuncId} {vs : List Value} {args : Array Operand} {ts : Array TypeId} (p : X -> Prop) (val : X -> Value) [hq : Pul b o hp T] (hd : Nat.blt d C.N = true)
  (hargs : args.toList.map (ev fr) = vs.map some) (hf : Enters C.P f)
  (hc : ∀ a w, At C fr (.blk b o :: T) a w -> Calls C.P f vs.toArray w fun e w' => ∃ y, p y ∧ e = .returned (val y) ∧ At C fr (.blk b (o' y) :: T) a w')
  (k : ∀ y, p y -> Lst C ops Q rest ((d, val y) :: fr) (.blk b (o' y) :: T)) : Lst C ops Q (⟨some d, .call { callee := .value (.func f), args := args, argTypes := ts }, ty, pos, after, none⟩ :: rest) fr hp := by
 refine qV (first := []) (cap := []) (p := p) (val := val) (rs := fun y => .blk b (o' y) :: T) hd rfl hargs hf (fun a w ha => ?_) k
 simp only [List.nil_append, List.append_nil]
 exact hc a w (ha.permed hq.perm)
end
def hatO (nA : Option Addr) (n nc tk st : Nat) : Obj := .cells [.slice nA n nc, .int .i64 (tk : Int), .int .u64 (st : Int)].toArray 72 (0, 0)
theorem zSy {l : List Nat} {k : Nat} (h : k < l.length) : (ints l)[k]? = some (.int .i64 ((l.getD k 0 : Nat) : Int)) := by
 unfold ints
 rw [List.getElem?_map, List.getElem?_eq_getElem h, List.getD_eq_getElem?_getD, List.getElem?_eq_getElem h]
 rfl
theorem zR8 {l : List Nat} {k : Nat} (h : k < l.length) : l.getD k 0 ∈ l := by
 rw [List.getD_eq_getElem?_getD, List.getElem?_eq_getElem h]
 exact List.getElem_mem h
theorem F.ent26 : Enters Try.prog 26 := jD Try.func26 rfl (by kernel_rfl)
theorem F.ent30 : Enters Try.prog 30 := jD Try.func30 rfl (by kernel_rfl)
theorem F.ent47 : Enters Try.prog 47 := jD Try.func47 rfl (by kernel_rfl)
theorem F.ent55 : Enters Try.prog 55 := jD Try.func55 rfl (by kernel_rfl)
theorem F.ent58 : Enters Try.prog 58 := jD Try.func58 rfl (by kernel_rfl)
theorem F.fi72_0 : FI Try.prog 72 0 22 0 := ⟨_, _, Try.underlying72, rfl, rfl, rfl⟩
theorem F.fi72_1 : FI Try.prog 72 1 3 1 := ⟨_, _, Try.underlying72, rfl, rfl, rfl⟩
theorem F.fi72_2 : FI Try.prog 72 2 70 2 := ⟨_, _, Try.underlying72, rfl, rfl, rfl⟩
theorem F.one70 : One Try.prog 70 := ⟨by unfold aggB; rw [Try.underlying70], by rw [Try.underlying70]; simp⟩
theorem F.pl72 : Places Try.prog 72 [(0, 1), (1, 1), (2, 1)] := .inl ⟨_, Try.underlying72, by kernel_rfl⟩
theorem F.ti72 : TI Try.prog 72 (.agg [.slice none 0 0, .int .i64 0, .int .u64 0].toArray) 3 40 := TI.of (by kernel_rfl)
theorem zW6 {C : Ctx} {fr : List (Nat × Value)} {T : List Res} {a : Act} {w : World} (hC : C.P = Try.prog) {hb tk st nc : Nat} {nA : Option Addr} {nums : List Int} (hB : C.w0.heap.size = C.B) (hN : RdL icell 1 C.w0 nA nums) (htk : tk <= 1000000) (hst : st < 18446744073709551616) (ha : At C fr (.blk hb (.cells [.slice nA nums.length nc, .int .i64 (tk : Int), .int .u64 (st : Int)].toArray 72 (0, 0)) :: T) a w) : Calls C.P 58 #[.pointer (some ⟨hb, 0, none⟩)] w fun e w' => ∃ st' x : Nat, st' < 18446744073709551616 ∧ x < 18446744073709551616 ∧ e = .returned (.int .u64 (x : Int)) ∧ At C fr (.blk hb (.cells [.slice nA nums.length nc, .int .i64 ((tk + 1 : Nat) : Int), .int .u64 (st' : Int)].toArray 72 (0, 0)) :: T) a w' := by
 obtain ⟨P, B, w0, N0, ds⟩ := C
 obtain rfl : P = Try.prog := hC
 (try dsimp only at hB)
 (try dsimp only at hN)
 refine vQ (N := 75) [(0, .pointer (some ⟨hb, 0, none⟩))] ha Try.func58 rfl Try.ntmps58 rfl rfl ?_
 refine zD (zB (zE rfl rfl (zA (zC (zD (zB (zF rfl rfl (qT rfl rfl (zL rfl rfl F.fi72_1 F.ti3 ?_)))))))))
 refine zO rfl rfl F.one3 ?_
 obtain ⟨v9, hv9, ev9⟩ := zA1 (tk : Int)
 refine zA3 rfl rfl Try.underlying3 Try.underlying70 ev9 ?_
 obtain ⟨v10, hv10, ev10⟩ := zA1 ((v9 : Int) + 1)
 refine zJ rfl rfl rfl (fun w => jM w ev10) ?_
 refine zE rfl rfl (zA (zC (zD (zD (kB [] F.follows 10 rfl [false, false, false, false, false, false, false, false, false, false] rfl ?_)))))
 refine zG 0 rfl rfl rfl (zY rfl) ?_
 refine zG 1 rfl rfl rfl (kQ rfl) ?_
 refine zG 2 rfl rfl rfl (zV rfl F.fi72_1 F.ti3) ?_
 refine zG 3 rfl rfl rfl (jU rfl F.one3) ?_
 refine zG 4 rfl rfl rfl (zY rfl) ?_
 refine zG 5 rfl rfl rfl (kQ rfl) ?_
 refine zG 6 rfl rfl rfl (zV rfl F.fi72_0 F.ti22) ?_
 refine zG 7 rfl rfl rfl (jU rfl F.one22) ?_
 refine zG 8 rfl rfl rfl (vB rfl Try.underlying22) ?_
 refine zG 9 rfl rfl rfl (kZ rfl rfl kL) ?_
 refine adn (zC (vG (G := Nat) (fun q => q < 18446744073709551616) (fun q => [(0, .pointer (some ⟨hb, 0, none⟩)), (2, .int .u64 0), (3, .int .u64 (q : Int))]) (fun _ => .blk hb (.cells [.slice nA nums.length nc, .int .i64 (tk : Int), .int .u64 (st : Int)].toArray 72 (0, 0)) :: T) ?_ ?_))
 ·refine zN rfl (fun hc0 => ?_) (fun hc0 => ?_)
  ·have hk' : tk < nums.length := by omega
   obtain ⟨b, o, hAe, hb', hcell⟩ := hN om
   obtain ⟨x, hx⟩ : ∃ x, nums[tk]? = some x := ⟨_, List.getElem?_eq_getElem hk'⟩
   obtain ⟨v32, hv32, ev32⟩ := zA1 x
   obtain ⟨v33, hv33, ev33⟩ := zA1 ((v32 : Int) * 13787848793156543929)
   refine kB [] F.follows 15 rfl [false, false, false, false, false, false, false, false, false, false, false, false, false, false, false] rfl ?_
   refine zG 0 rfl rfl rfl (zY rfl) ?_
   refine zG 1 rfl rfl rfl (zY rfl) ?_
   refine zG 2 rfl rfl rfl (kQ rfl) ?_
   refine zG 3 rfl rfl rfl (zV rfl F.fi72_0 F.ti22) ?_
   refine zG 4 rfl rfl rfl (jU rfl F.one22) ?_
   refine zG 5 rfl rfl rfl (zY rfl) ?_
   refine zG 6 rfl rfl rfl (kQ rfl) ?_
   refine zG 7 rfl rfl rfl (zV rfl F.fi72_1 F.ti3) ?_
   refine zG 8 rfl rfl rfl (jU rfl F.one3) ?_
   refine zG 9 rfl rfl rfl (qF (j := tk) (show _ = some (Value.slice (some ⟨b, o, none⟩) nums.length nc) from by rw [<- hAe]; rfl) rfl Try.underlying22 F.ti3 rfl hk') ?_
   refine zG 10 rfl rfl rfl (kM (v := .int .i64 x) rfl F.one3 (fun a w ha => ha.old (hcell tk x hx 0 _ rfl) (Nat.lt_of_lt_of_le hb' (Nat.le_of_eq hB)))) ?_
   refine an1 11 rfl ?_
   refine zA3 rfl rfl Try.underlying3 Try.underlying70 ev32 ?_
   refine zA (anb (an1 12 rfl ?_))
   refine zJ rfl rfl rfl (fun w => zCc w ev33) ?_
   refine zA (anb (an1 13 rfl ?_))
   refine zJ rfl rfl rfl (fun w => zB5 w (zCb v10 v33 hv10 hv33)) ?_
   refine zA (anb (zG 14 rfl rfl rfl (kR rfl) ?_))
   refine adn ?_
   exact kH (v10 ^^^ v33) (xor64 hv10 hv33) sbn pkk
  ·refine zS ?_
   exact kH v10 hv10 sbn pkk
 ·rintro q hq
  (try dsimp only)
  refine zC (zD (zB (zF rfl rfl (qT rfl rfl (zL rfl rfl F.fi72_1 F.ti3 ?_)))))
  refine zO rfl rfl F.one3 ?_
  refine zJ rfl rfl rfl (fun w => jM w (show IntKind.i64.wrap ((tk : Int) + 1) = ((tk + 1 : Nat) : Int) from zT _ om om)) ?_
  refine qT rfl rfl (zL rfl rfl F.fi72_1 F.ti3 ?_)
  refine zI rfl rfl F.ti3 rfl ?_
  refine zA (zC (zD (zB (zF rfl rfl (zF rfl rfl (qT rfl rfl (zL rfl rfl F.fi72_2 F.ti70 ?_)))))))
  refine zO rfl rfl F.one70 ?_
  refine zF rfl rfl (zJ rfl rfl rfl (fun w => zB5 w (zCb st q hst hq)) ?_)
  obtain ⟨v49, hv49, ev49⟩ := zA1 (((st ^^^ q : Nat) : Int) * 10723151780598845931)
  refine zJ rfl rfl rfl (fun w => zCc w ev49) ?_
  refine qT rfl rfl (zL rfl rfl F.fi72_2 F.ti70 ?_)
  refine zI rfl rfl F.ti70 rfl ?_
  refine zA (zC (zD (vG (G := Nat) (fun s2 => s2 < 18446744073709551616) (fun s2 => [(0, .pointer (some ⟨hb, 0, none⟩)), (2, .int .u64 0)]) (fun s2 => .blk hb (.cells [.slice nA nums.length nc, .int .i64 ((tk + 1 : Nat) : Int), .int .u64 (s2 : Int)].toArray 72 (0, 0)) :: T) ?_ ?_)))
  ·refine kB [.b hb] F.follows 14 rfl [false, false, false, false, false, false, false, false, false, false, false, false, false, false] rfl ?_
   refine zG 0 rfl rfl rfl (zY rfl) ?_
   refine zG 1 rfl rfl rfl (zY rfl) ?_
   refine zG 2 rfl rfl rfl (kQ rfl) ?_
   refine zG 3 rfl rfl rfl (zV rfl F.fi72_2 F.ti70) ?_
   refine zG 5 rfl rfl rfl (zY rfl) ?_
   refine zG 6 rfl rfl rfl (kQ rfl) ?_
   refine zG 7 rfl rfl rfl (zV rfl F.fi72_2 F.ti70) ?_
   refine qN 4 8 kr rfl rfl rfl rfl ?_ ?_
   ·refine zO rfl rfl F.one70 ?_
    refine zA (anb (an1 8 rfl ?_))
    refine zO rfl rfl F.one70 ?_
    refine zA (anb (an1 9 rfl ?_))
    refine zCd rfl rfl rfl om (zCk v49 31 _) ?_
    refine zA (anb (an1 10 rfl ?_))
    refine zJ rfl rfl rfl (fun w => zB5 w (zCb v49 (v49 >>> (min 31 64)) hv49 (shr64 _ hv49))) ?_
    refine zA (anb (zG 11 rfl rfl rfl (kQ rfl) ?_))
    refine zG 12 rfl rfl rfl (zV rfl F.fi72_2 F.ti70) ?_
    refine an1 13 rfl ?_
    refine zI rfl rfl F.ti70 rfl ?_
    refine zA (anb (adn ?_))
    exact kH (v49 ^^^ (v49 >>> (min 31 64))) (xor64 hv49 (shr64 _ hv49)) sbn pkk
   ·refine zO rfl rfl F.one70 ?_
    refine zA (anb (qN 4 9 kr rfl rfl rfl rfl ?_ ?_))
    ·refine zO rfl rfl F.one70 ?_
     refine zA (anb (an1 9 rfl ?_))
     refine zCd rfl rfl rfl om (zCk v49 31 _) ?_
     refine zA (anb (an1 10 rfl ?_))
     refine zJ rfl rfl rfl (fun w => zB5 w (zCb v49 (v49 >>> (min 31 64)) hv49 (shr64 _ hv49))) ?_
     refine zA (anb (zG 11 rfl rfl rfl (kQ rfl) ?_))
     refine zG 12 rfl rfl rfl (zV rfl F.fi72_2 F.ti70) ?_
     refine an1 13 rfl ?_
     refine zI rfl rfl F.ti70 rfl ?_
     refine zA (anb (adn ?_))
     exact kH (v49 ^^^ (v49 >>> (min 31 64))) (xor64 hv49 (shr64 _ hv49)) sbn pkk
    ·refine zCd rfl rfl rfl om (zCk v49 31 _) ?_
     refine zA (anb (an1 4 rfl ?_))
     refine zO rfl rfl F.one70 ?_
     refine zA (anb (an1 10 rfl ?_))
     refine zJ rfl rfl rfl (fun w => zB5 w (zCb v49 (v49 >>> (min 31 64)) hv49 (shr64 _ hv49))) ?_
     refine zA (anb (zG 11 rfl rfl rfl (kQ rfl) ?_))
     refine zG 12 rfl rfl rfl (zV rfl F.fi72_2 F.ti70) ?_
     refine an1 13 rfl ?_
     refine zI rfl rfl F.ti70 rfl ?_
     refine zA (anb (adn ?_))
     exact kH (v49 ^^^ (v49 >>> (min 31 64))) (xor64 hv49 (shr64 _ hv49)) sbn pkk
  ·rintro s2 hs2
   (try dsimp only)
   refine zC (zD (zB ?_))
   obtain ⟨v69, hv69, ev69⟩ := zA1 ((s2 : Int) * 15485907386658061715)
   refine zF rfl rfl (qT rfl rfl (zL rfl rfl F.fi72_2 F.ti70 ?_))
   refine zO rfl rfl F.one70 ?_
   refine zJ rfl rfl rfl (fun w => zCc w ev69) ?_
   refine zE rfl rfl (zA (zC (zD (zB (zF rfl rfl (zF rfl rfl (zCd rfl rfl rfl om (zCk v69 32 _) ?_)))))))
   refine zJ rfl rfl rfl (fun w => zB5 w (zCb v69 (v69 >>> (min 32 64)) hv69 (shr64 _ hv69))) ?_
   refine zCd rfl rfl rfl om (zCk (v69 ^^^ (v69 >>> (min 32 64))) 9 _) ?_
   refine zE rfl rfl (zA (zC (zZ ?_)))
   exact jH rfl (fun a w ha => jP rfl rfl ha) (fun _ _ ha' => ⟨s2, _, hs2, shr64 _ (xor64 hv69 (shr64 _ hv69)), rfl, ha.back (ha'.pck pkk)⟩)

theorem To_c {C : Ctx} {fr : List (Nat × Value)} {T : List Res} {a : Act} {w : World} (hC : C.P = Try.prog) {hb tk st nc : Nat} {nA : Option Addr} {nums : List Int} (hB : C.w0.heap.size = C.B) (hN : RdL icell 1 C.w0 nA nums) (htk : tk <= 1000000) (hst : st < 18446744073709551616) {n : Int} (hn : n <= 1000000)  (ha : At C fr (.blk hb (.cells [.slice nA nums.length nc, .int .i64 (tk : Int), .int .u64 (st : Int)].toArray 72 (0, 0)) :: T) a w) : Calls C.P 26 #[.pointer (some ⟨hb, 0, none⟩), .int .i64 n] w fun e w' => ∃ st' x : Nat, st' < 18446744073709551616 ∧ x <= n.toNat ∧ e = .returned (.int .i64 (x : Int)) ∧ At C fr (.blk hb (.cells [.slice nA nums.length nc, .int .i64 ((tk + 1 : Nat) : Int), .int .u64 (st' : Int)].toArray 72 (0, 0)) :: T) a w' := by
 obtain ⟨P, B, w0, N0, ds⟩ := C
 obtain rfl : P = Try.prog := hC
 (try dsimp only at hB)
 (try dsimp only at hN)
 refine vQ (N := 16) [(0, .pointer (some ⟨hb, 0, none⟩)), (1, .int .i64 n)] ha Try.func26 rfl Try.ntmps26 rfl rfl ?_
 refine zD (zB (zE rfl rfl (zA (zC (zD (zB (zF rfl rfl (qV (X := Nat × Nat) (first := []) (cap := []) (vs := [_]) (p := fun y => y.1 < 18446744073709551616 ∧ y.2 < 18446744073709551616) (val := fun y => .int .u64 (y.2 : Int)) (rs := fun y => .blk hb (.cells [.slice nA nums.length nc, .int .i64 ((tk + 1 : Nat) : Int), .int .u64 (y.1 : Int)].toArray 72 (0, 0)) :: T) rfl rfl rfl F.ent58 (fun a w ha => (zW6 (C := ⟨Try.prog, B, w0, _, _⟩) rfl hB hN htk hst ha).mono (fun e w' h => by obtain ⟨s', x, h1, h2, h3, h4⟩ := h; exact ⟨(s', x), ⟨h1, h2⟩, h3, h4⟩)) ?_))))))))
 rintro ⟨s1, x⟩ ⟨hs1, hx⟩
 dsimp only at hs1 hx ⊢
 refine zE rfl rfl (zA (zC (zD (zD (zB (zF rfl rfl (zJ rfl rfl rfl kL ?_)))))))
 refine zA (zC (zN rfl (fun hc0 => ?_) (fun hc0 => ?_)))
 ·refine zD (zB (zE rfl rfl (zA (zC (zZ (jC ?_))))))
  exact jH rfl (fun a w ha => jP rfl rfl ha) (fun _ _ ha' => ⟨s1, 0, hs1, Nat.zero_le _, rfl, ha.back (ha'.pck pkk)⟩)
 ·obtain ⟨m, rfl⟩ := Int.eq_ofNat_of_zero_le (show 0 <= n by omega)
  refine zS (zC (zD (zB (zF rfl rfl (zF rfl rfl (zA3 rfl rfl Try.underlying3 Try.underlying70 (zGm m om) ?_))))))
  refine zJ rfl rfl rfl (fun w => jM w (zJv om)) ?_
  refine zJ rfl rfl rfl (fun w => zVk w om (zSn x (m + 1))) ?_
  have hmod : x % (m + 1) < m + 1 := Nat.mod_lt _ om
  refine zA3 rfl rfl Try.underlying70 Try.underlying3 (zT _ om om) ?_
  refine zE rfl rfl (zA (zC (zZ ?_)))
  exact jH rfl (fun a w ha => jP rfl rfl ha) (fun _ _ ha' => ⟨s1, x % (m + 1), hs1, by rw [Int.toNat_natCast]; omega, rfl, ha.back (ha'.pck pkk)⟩)

theorem yG {C : Ctx} {fr : List (Nat × Value)} {hp T : List Res} {ops : Array Oper} {Q : Exit -> Act -> World -> Prop} {rest : List Oper} {d : Nat} {ty : TypeId} {pos : String} {after : Array Edge} {args : Array Operand} {ts : Array TypeId} {hb tk st nc : Nat} {nA : Option Addr} {nums : List Int} {n : Int} [hq : Pul hb (hatO nA nums.length nc tk st) hp T]
  (hP : C.P = Try.prog) (hd : Nat.blt d C.N = true) (hargs : args.toList.map (ev fr) = ([.pointer (some ⟨hb, 0, none⟩), .int .i64 n] : List Value).map some) (hB : C.w0.heap.size = C.B) (hN : RdL icell 1 C.w0 nA nums) (hst : st < 18446744073709551616) (htk : tk <= 1000000) (hn : n <= 1000000)
  (k : ∀ (s x : Nat), s < 18446744073709551616 -> x <= n.toNat -> Lst C ops Q rest ((d, .int .i64 (x : Int)) :: fr) (.blk hb (hatO nA nums.length nc (tk + 1) s) :: T)) : Lst C ops Q (⟨some d, .call { callee := .value (.func 26), args := args, argTypes := ts }, ty, pos, after, none⟩ :: rest) fr hp := by
 refine wG (X := Nat × Nat) hb (fun y => hatO nA nums.length nc (tk + 1) y.1) (fun y => y.1 < 18446744073709551616 ∧ y.2 <= n.toNat) (fun y => .int .i64 (y.2 : Int)) hd hargs (hP ▸ F.ent26) (fun a w ha => (To_c hP hB hN htk hst hn ha).mono fun e w' h => ?_) fun y hy => k y.1 y.2 hy.1 hy.2
 obtain ⟨s', x, h1, h2, h3, h4⟩ := h
 exact ⟨(s', x), ⟨h1, h2⟩, h3, h4⟩

theorem zXh {C : Ctx} {fr : List (Nat × Value)} {T : List Res} {a : Act} {w : World} (hC : C.P = Try.prog) {hb tk st nc : Nat} {nA : Option Addr} {nums : List Int} (hB : C.w0.heap.size = C.B) (hN : RdL icell 1 C.w0 nA nums) (htk : tk <= 1000000) (hst : st < 18446744073709551616) {lo hi : Nat} (hlh : lo <= hi) (hhi : hi <= 1000) (ha : At C fr (.blk hb (hatO nA nums.length nc (tk) (st)) :: T) a w) : Calls C.P 30 #[.pointer (some ⟨hb, 0, none⟩), .int .i64 (lo : Int), .int .i64 (hi : Int)] w fun e w' => ∃ st' x : Nat, st' < 18446744073709551616 ∧ lo <= x ∧ x <= hi ∧ e = .returned (.int .i64 (x : Int)) ∧ At C fr (.blk hb (hatO nA nums.length nc (tk + 1) (st')) :: T) a w' := by
 obtain ⟨P, B, w0, N0, ds⟩ := C
 obtain rfl : P = Try.prog := hC
 (try dsimp only at hB)
 (try dsimp only at hN)
 refine vQ (N := 14) [(0, .pointer (some ⟨hb, 0, none⟩)), (1, .int .i64 (lo : Int)), (2, .int .i64 (hi : Int))] ha Try.func30 rfl Try.ntmps30 rfl rfl ?_
 refine zD (zB (zE rfl rfl (zA (zC (zD (zB (zF rfl rfl (zF rfl rfl (zF rfl rfl (zF rfl rfl (zJ rfl rfl rfl (fun w => xC w (zT ((hi : Int) - (lo : Int)) om om)) ?_)))))))))))
 refine yG rfl rfl rfl hB hN hst om om ?_
 rintro s1 x1 hs1 hx1
 refine zJ rfl rfl rfl (fun w => jM w (show IntKind.i64.wrap ((lo : Int) + (x1 : Int)) = ((lo + x1 : Nat) : Int) from zT _ om om)) ?_
 refine zE rfl rfl (zA (zC (zZ ?_)))
 exact jH rfl (fun a w ha => jP rfl rfl ha) (fun _ _ ha' => ⟨s1, lo + x1, hs1, by omega, by omega, rfl, ha.back (ha'.pck pkk)⟩)

theorem zLi {C : Ctx} {fr : List (Nat × Value)} {hp T : List Res} {ops : Array Oper} {Q : Exit -> Act -> World -> Prop} {rest : List Oper} {d : Nat} {ty : TypeId} {pos : String} {after : Array Edge} {args : Array Operand} {ts : Array TypeId} {hb tk st nc : Nat} {nA : Option Addr} {nums : List Int} {lo hi : Nat} [hq : Pul hb (hatO nA nums.length nc tk st) hp T]
  (hP : C.P = Try.prog) (hd : Nat.blt d C.N = true) (hargs : args.toList.map (ev fr) = ([.pointer (some ⟨hb, 0, none⟩), .int .i64 (lo : Int), .int .i64 (hi : Int)] : List Value).map some) (hB : C.w0.heap.size = C.B) (hN : RdL icell 1 C.w0 nA nums) (hst : st < 18446744073709551616) (htk : tk <= 1000000) (hlh : lo <= hi) (hhi : hi <= 1000)
  (k : ∀ (s x : Nat), s < 18446744073709551616 -> lo <= x -> x <= hi -> Lst C ops Q rest ((d, .int .i64 (x : Int)) :: fr) (.blk hb (hatO nA nums.length nc (tk + 1) s) :: T)) : Lst C ops Q (⟨some d, .call { callee := .value (.func 30), args := args, argTypes := ts }, ty, pos, after, none⟩ :: rest) fr hp := by
 refine wG (X := Nat × Nat) hb (fun y => hatO nA nums.length nc (tk + 1) y.1) (fun y => y.1 < 18446744073709551616 ∧ lo <= y.2 ∧ y.2 <= hi) (fun y => .int .i64 (y.2 : Int)) hd hargs (hP ▸ F.ent30) (fun a w ha => (zXh hP hB hN htk hst hlh hhi ha).mono fun e w' h => ?_) fun y hy => k y.1 y.2 hy.1 hy.2.1 hy.2.2
 obtain ⟨s', x, h1, h2, h3, h4, h5⟩ := h
 exact ⟨(s', x), ⟨h1, h2, h3⟩, h4, h5⟩

theorem zSu {C : Ctx} {fr : List (Nat × Value)} {T : List Res} {a : Act} {w : World} (hC : C.P = Try.prog) {hb tk st nc : Nat} {nA : Option Addr} {nums : List Int} (hB : C.w0.heap.size = C.B) (hN : RdL icell 1 C.w0 nA nums) (htk : tk <= 1000000) (hst : st < 18446744073709551616) {n : Int} (hn0 : 0 <= n) (hn : n <= 1000000) (ha : At C fr (.blk hb (hatO nA nums.length nc (tk) (st)) :: T) a w) : Calls C.P 55 #[.pointer (some ⟨hb, 0, none⟩), .int .i64 n] w fun e w' => ∃ (st' : Nat) (b : Bool), st' < 18446744073709551616 ∧ e = .returned (.bool b) ∧ At C fr (.blk hb (hatO nA nums.length nc (tk + 1) (st')) :: T) a w' := by
 obtain ⟨P, B, w0, N0, ds⟩ := C
 obtain rfl : P = Try.prog := hC
 (try dsimp only at hB)
 (try dsimp only at hN)
 refine vQ (N := 10) [(0, .pointer (some ⟨hb, 0, none⟩)), (1, .int .i64 n)] ha Try.func55 rfl Try.ntmps55 rfl rfl ?_
 refine zD (zB (zE rfl rfl (zA (zC (zD (zB (zF rfl rfl (zF rfl rfl (zJ rfl rfl rfl (fun w => xC w (zT (n - 1) om om)) ?_)))))))))
 refine yG rfl rfl rfl hB hN hst om om ?_
 rintro s1 x1 hs1 hx1
 refine zJ rfl rfl rfl kI ?_
 refine zE rfl rfl (zA (zC (zZ ?_)))
 exact jH rfl (fun a w ha => jP rfl rfl ha) (fun _ _ ha' => ⟨s1, _, hs1, rfl, ha.back (ha'.pck pkk)⟩)

theorem zB2 {C : Ctx} {fr : List (Nat × Value)} {hp T : List Res} {ops : Array Oper} {Q : Exit -> Act -> World -> Prop} {rest : List Oper} {d : Nat} {ty : TypeId} {pos : String} {after : Array Edge} {args : Array Operand} {ts : Array TypeId} {hb tk st nc : Nat} {nA : Option Addr} {nums : List Int} {n : Int} [hq : Pul hb (hatO nA nums.length nc tk st) hp T]
  (hP : C.P = Try.prog) (hd : Nat.blt d C.N = true) (hargs : args.toList.map (ev fr) = ([.pointer (some ⟨hb, 0, none⟩), .int .i64 n] : List Value).map some) (hB : C.w0.heap.size = C.B) (hN : RdL icell 1 C.w0 nA nums) (hst : st < 18446744073709551616) (htk : tk <= 1000000) (hn0 : 0 <= n) (hn : n <= 1000000)
  (k : ∀ (s : Nat) (b : Bool), s < 18446744073709551616 -> Lst C ops Q rest ((d, .bool b) :: fr) (.blk hb (hatO nA nums.length nc (tk + 1) s) :: T)) : Lst C ops Q (⟨some d, .call { callee := .value (.func 55), args := args, argTypes := ts }, ty, pos, after, none⟩ :: rest) fr hp := by
 refine wG (X := Nat × Bool) hb (fun y => hatO nA nums.length nc (tk + 1) y.1) (fun y => y.1 < 18446744073709551616) (fun y => .bool y.2) hd hargs (hP ▸ F.ent55) (fun a w ha => (zSu hP hB hN htk hst hn0 hn ha).mono fun e w' h => ?_) fun y hy => k y.1 y.2 hy
 obtain ⟨s', x, h1, h2, h3⟩ := h
 exact ⟨(s', x), h1, h2, h3⟩

theorem zX7 {C : Ctx} {fr : List (Nat × Value)} {T : List Res} {a : Act} {w : World} (hC : C.P = Try.prog) {hb tk st nc : Nat} {nA : Option Addr} {nums : List Int} (hB : C.w0.heap.size = C.B) (hN : RdL icell 1 C.w0 nA nums) (htk : tk <= 1000000) (hst : st < 18446744073709551616) {lb lc : Nat} {l : List Nat} (hl1 : 1 <= l.length) (hl2 : l.length <= 100) (hm : Res.blk lb (.cells (ints l).toArray 3 (0, 0)) ∈ T) (ha : At C fr (.blk hb (hatO nA nums.length nc (tk) (st)) :: T) a w) : Calls C.P 47 #[.pointer (some ⟨hb, 0, none⟩), .slice (some ⟨lb, 0, none⟩) l.length lc] w fun e w' => ∃ st' x : Nat, st' < 18446744073709551616 ∧ x ∈ l ∧ e = .returned (.int .i64 (x : Int)) ∧ At C fr (.blk hb (hatO nA nums.length nc (tk + 1) (st')) :: T) a w' := by
 obtain ⟨P, B, w0, N0, ds⟩ := C
 obtain rfl : P = Try.prog := hC
 (try dsimp only at hB)
 (try dsimp only at hN)
 refine vQ (N := 13) [(0, .pointer (some ⟨hb, 0, none⟩)), (1, .slice (some ⟨lb, 0, none⟩) l.length lc)] ha Try.func47 rfl Try.ntmps47 rfl rfl ?_
 refine zD (zB (zE rfl rfl (zA (zC (zD (zB (zF rfl rfl (zF rfl rfl (zF rfl rfl (kE rfl rfl Try.underlying22 ?_))))))))))
 refine zJ rfl rfl rfl (fun w => xC w (zT ((l.length : Int) - 1) om om)) ?_
 refine yG rfl rfl rfl hB hN hst om om ?_
 rintro s1 x1 hs1 hx1
 have hx : x1 < l.length := by omega
 refine qW (j := x1) rfl rfl rfl Try.underlying22 F.ti3 rfl hx ?_
 refine kU (v := .int .i64 ((l.getD x1 0 : Nat) : Int)) rfl rfl F.one3 (fun a w ha => by rw [Nat.zero_add, Nat.mul_one]; exact kP (ha.mem_blk (List.mem_cons_of_mem _ hm)) (zSy hx)) ?_
 refine zE rfl rfl (zA (zC (zZ ?_)))
 exact jH rfl (fun a w ha => jP rfl rfl ha) (fun _ _ ha' => ⟨s1, l.getD x1 0, hs1, zR8 hx, rfl, ha.back (ha'.pck pkk)⟩)

theorem vM {C : Ctx} {fr : List (Nat × Value)} {hp T : List Res} {ops : Array Oper} {Q : Exit -> Act -> World -> Prop} {rest : List Oper} {d : Nat} {ty : TypeId} {pos : String} {after : Array Edge} {args : Array Operand} {ts : Array TypeId} {hb tk st nc : Nat} {nA : Option Addr} {nums : List Int} (l : List Nat) {lb lc : Nat} [hq : Pul hb (hatO nA nums.length nc tk st) hp T]
  (hP : C.P = Try.prog) (hd : Nat.blt d C.N = true) (hargs : args.toList.map (ev fr) = ([.pointer (some ⟨hb, 0, none⟩), .slice (some ⟨lb, 0, none⟩) l.length lc] : List Value).map some) (hB : C.w0.heap.size = C.B) (hN : RdL icell 1 C.w0 nA nums) (hst : st < 18446744073709551616) (htk : tk <= 1000000) (hl1 : 1 <= l.length) (hl2 : l.length <= 100) (hm : Res.blk lb (.cells (ints l).toArray 3 (0, 0)) ∈ T)
  (k : ∀ (s x : Nat), s < 18446744073709551616 -> x ∈ l -> Lst C ops Q rest ((d, .int .i64 (x : Int)) :: fr) (.blk hb (hatO nA nums.length nc (tk + 1) s) :: T)) : Lst C ops Q (⟨some d, .call { callee := .value (.func 47), args := args, argTypes := ts }, ty, pos, after, none⟩ :: rest) fr hp := by
 refine wG (X := Nat × Nat) hb (fun y => hatO nA nums.length nc (tk + 1) y.1) (fun y => y.1 < 18446744073709551616 ∧ y.2 ∈ l) (fun y => .int .i64 (y.2 : Int)) hd hargs (hP ▸ F.ent47) (fun a w ha => (zX7 hP hB hN htk hst hl1 hl2 hm ha).mono fun e w' h => ?_) fun y hy => k y.1 y.2 hy.1 hy.2
 obtain ⟨s', x, h1, h2, h3, h4⟩ := h
 exact ⟨(s', x), ⟨h1, h2⟩, h3, h4⟩

theorem zTp (nA : Option Addr) (n nc : Nat) (w : World) : Calls Try.prog 13 #[.slice nA n nc] w fun e w' => ∃ b, e = .returned (.pointer (some ⟨b, 0, none⟩)) ∧ Grew w w' [.blk b (hatO nA n nc 0 11400714819323198485)] := by
 refine enter (N := 6) [(0, .slice nA n nc)] Try.func13 rfl Try.ntmps13 rfl rfl ?_
 refine zD (zB (zE rfl rfl (zA (zC (zD (zB (zF rfl rfl (jX (vs := [(0, _), (2, _)]) (l' := [_, _, _]) rfl rfl F.ti72 F.pl72 (.cons rfl rfl (.cons rfl rfl (.nil _))) rfl ?_))))))))
 refine jV rfl rfl ?_
 intro b5
 refine zE rfl rfl (zA (zC (zZ ?_)))
 exact jH rfl (fun a w ha => jP rfl rfl ha) (fun a w ha => ⟨b5, rfl, ha.grown sbl⟩)

section
variable {C : Ctx} {fr : List (Nat × Value)} {hp hp' : List Res} {a : Act} {w : World} {ops : Array Oper} {Q : Exit -> Act -> World -> Prop} {rest : List Oper}
 {d : Nat} {ty : TypeId} {pos : String} {after : Array Edge}
theorem zEr {X : Type} (b : Nat) {o : Obj} (o' : X -> Obj) (rs : X -> List Res) {T : List Res} {f : FuncId} {vs : List Value} {args : Array Operand} {ts : Array TypeId} (p : X -> Prop) (val : X -> Value) [hq : Pul b o hp T] (hd : Nat.blt d C.N = true)
  (hargs : args.toList.map (ev fr) = vs.map some) (hf : Enters C.P f)
  (hc : ∀ a w, At C fr (.blk b o :: T) a w -> Calls C.P f vs.toArray w fun e w' => ∃ y, p y ∧ e = .returned (val y) ∧ At C fr (rs y ++ .blk b (o' y) :: T) a w')
  (k : ∀ y, p y -> Lst C ops Q rest ((d, val y) :: fr) (rs y ++ .blk b (o' y) :: T)) : Lst C ops Q (⟨some d, .call { callee := .value (.func f), args := args, argTypes := ts }, ty, pos, after, none⟩ :: rest) fr hp := by
 refine qV (first := []) (cap := []) (p := p) (val := val) (rs := fun y => rs y ++ .blk b (o' y) :: T) hd rfl hargs hf (fun a w ha => ?_) k
 simp only [List.nil_append, List.append_nil]
 exact hc a w (ha.permed hq.perm)
end
end Go.Proofs.Yteppiphdbondeaa.N
