/- Parts of the walk of the law CharKnown: T21, ChR, T22, T23, ChB, T24, ChC, T25, ChF, T26, Sx7, ChA, ChG, T30, ChU, ChY, T31, T32, T33, ChAA. -/
import Derived.Test.YteppiphdbondeaaSCharKnown08
import Derived.Test.YteppiphdbondeaaProg
import Derived.Test.YteppiphdbondeaaSCharKnown05
import Derived.DeepKeys3
namespace Go.Proofs.Yteppiphdbondeaa.N
open Go Go.RowKit Go.Proofs
set_option linter.unusedSectionVars false
variable [I : Sys]
theorem F.ent53 : Enters Try.prog 53 := jG Try.func53 rfl (by kernel_rfl)
theorem F.ent54 : Enters Try.prog 54 := jG Try.func54 rfl (by kernel_rfl)
theorem zE4 {fA dA : Option Addr} {fc dc kiln f day : Nat} {fs : List Flt} {days : List Nat} (hc : ChV fs kiln days) (hf : f < fs.length) (hd : day < days.length) (w : World) (hF : RdL Flt.cells 4 w fA fs) (hD : RdL ncell 1 w dA days) : Calls Try.prog 19 #[.agg (CA fA fs.length fc kiln dA days.length dc).toArray, .int .i64 (f : Int), .int .i64 (day : Int)] w fun e w' => e = .returned (.tuple #[.int .i64 (((verdO (bstF fs kiln days f day true) (bstF fs kiln days f day false)).1 : Nat) : Int), .int .i64 (((verdO (bstF fs kiln days f day true) (bstF fs kiln days f day false)).2 : Nat) : Int)]) ∧ Grew w w' [] := by
 refine enter (N := 85) [(0, .agg (CA fA fs.length fc kiln dA days.length dc).toArray), (1, .int .i64 (f : Int)), (2, .int .i64 (day : Int))] Try.func19 rfl Try.ntmps19 rfl rfl ?_
 refine zD (zB (jT rfl rfl ?_))
 intro b3
 refine zE rfl rfl (zE rfl rfl (zA (zC (zD (zD (zB (zX rfl rfl F.agg27 F.ti27 ?_)))))))
 refine zW (v := .int .i64 0) (vs := [_]) rfl rfl F.ent43 (fun a w ha => by
  have h := xT (fA := fA) (dA := dA) (fc := fc) (dc := dc) (fs := fs.map Flt.toZ) (kiln := (kiln : Int)) (days := toZs days) (by have := hc.f3; simp; omega) (by have := hc.d4; simp [toZs]; omega) w (RdL.mapped Flt.toZ (hF.later ha.below) (fun _ => rfl)) (RdL.mapped (fun (n : Nat) => (n : Int)) (hD.later ha.below) (fun _ => rfl))
  rw [chk0 hc] at h
  simpa [toZs] using h) ?_
 refine zE rfl rfl (zA (zC (zD (zB (zF rfl rfl (zI rfl rfl rfl jP ?_))))))
 refine zA (zC (zR rfl (fun hc0 => ?_) (fun hc0 => ?_)))
 ·exact absurd rfl hc0
  done
 ·refine zQ (zC (zD (zD (zB (zF rfl rfl (zP rfl rfl F.fi27_0 F.ti25 ?_))))))
  refine jE rfl rfl F.one25 ?_
  refine jX rfl rfl Try.underlying25 ?_
  refine zI (v := .int .i64 ((fs.length : Int) - 1)) rfl rfl rfl (fun w => vJ w (jF _ (by have := hc.f3; omega) (by have := hc.f3; omega))) ?_
  refine zW (v := .bool true) (vs := [_, _, _]) rfl rfl F.ent52 (fun a w ha => (vZ (f : Int) 0 ((fs.length : Int) - 1) w).mono (fun e w' h => ⟨h.1.trans (by rw [show btw (f : Int) 0 ((fs.length : Int) - 1) = true from by unfold btw; simp; omega]), h.2⟩)) ?_
  refine kO rfl rfl (zF rfl rfl (zJ rfl rfl (zF rfl rfl (zJ rfl rfl (zP rfl rfl F.fi27_2 F.ti22 ?_)))))
  refine zJ rfl rfl (jE rfl rfl F.one22 ?_)
  refine zJ rfl rfl (jX rfl rfl Try.underlying22 ?_)
  refine zJ rfl rfl (zI (v := .int .i64 ((days.length : Int) - 1)) rfl rfl rfl (fun w => vJ w (jF _ (by have := hc.d4; omega) (by have := hc.d4; omega))) ?_)
  refine zJ rfl rfl (zW (v := .bool true) (vs := [_, _, _]) rfl rfl F.ent52 (fun a w ha => (vZ (day : Int) 0 ((days.length : Int) - 1) w).mono (fun e w' h => ⟨h.1.trans (by rw [show btw (day : Int) 0 ((days.length : Int) - 1) = true from by unfold btw; simp; omega]), h.2⟩)) ?_)
  refine zJ rfl rfl (kO rfl rfl (zY rfl rfl rfl (zA (zC (jL rfl (zQ (zC (zD (zB (zX rfl rfl F.agg27 F.ti27 ?_))))))))))
  refine kD (vs := [(0, _)]) (l' := [_, _, _]) rfl rfl F.ti77 F.pl77 (.cons rfl rfl (.nil _)) rfl ?_
  refine zF rfl rfl (zF rfl rfl (zW (v := .tuple #[.int .i64 (((bstF fs kiln days f day true).f : Nat) : Int), .bool (bstF fs kiln days f day true).is]) (vs := [_, _, _, _]) rfl rfl F.ent53 (fun a w ha => zNw (dc := dc) (fc := fc) (bu := true) hc hf w (hF.later ha.below) (hD.later ha.below)) ?_))
  refine zF rfl rfl (zL rfl rfl rfl (zL rfl rfl rfl (zE rfl rfl (zE rfl rfl (zA (zC (zD (zB (zX rfl rfl F.agg27 F.ti27 ?_)))))))))
  refine kD (vs := [(0, _)]) (l' := [_, _, _]) rfl rfl F.ti77 F.pl77 (.cons rfl rfl (.nil _)) rfl ?_
  refine zF rfl rfl (zF rfl rfl (zW (v := .tuple #[.int .i64 (((bstF fs kiln days f day false).f : Nat) : Int), .bool (bstF fs kiln days f day false).is]) (vs := [_, _, _, _]) rfl rfl F.ent53 (fun a w ha => zNw (dc := dc) (fc := fc) (bu := false) hc hf w (hF.later ha.below) (hD.later ha.below)) ?_))
  refine zF rfl rfl (zL rfl rfl rfl (zL rfl rfl rfl (zE rfl rfl (zE rfl rfl (zA (zC (zD (zD ?_))))))))
  generalize (bstF fs kiln days f day true) = o1
  generalize (bstF fs kiln days f day false) = o2
  obtain ⟨f1, w1, i1⟩ := o1
  obtain ⟨f2, w2, i2⟩ := o2
  dsimp only
  rcases i1 with _ | _ <;> rcases i2 with _ | _
  ·refine zB (zF rfl rfl (kO rfl rfl (zF rfl rfl (zJ rfl rfl (zF rfl rfl (zJ rfl rfl (kO rfl rfl (jD rfl rfl rfl (zA (zC (jZ rfl (zD (zB (zE rfl rfl (zE rfl rfl (zA (zC (zZ (zU ?_)))))))))))))))))))
   exact jI rfl (fun a w ha => qM rfl rfl rfl ha) (fun a w ha => ⟨by rfl, ha.grown nsl⟩)
  ·refine zB (zF rfl rfl (kO rfl rfl (zF rfl rfl (zJ rfl rfl (zF rfl rfl (zJ rfl rfl (kO rfl rfl (jD rfl rfl rfl (zA (zC (jL rfl (zQ (zC (zD (zB (zE rfl rfl (zA (zC (zD (zV (zD (zV (zD ?_)))))))))))))))))))))))
   refine zV (zD (zD (zD (zB (zF rfl rfl (kO rfl rfl (zF rfl rfl (jJ rfl rfl rfl (jJ rfl rfl rfl (kP rfl rfl rfl (kP rfl rfl rfl (kP rfl rfl rfl (jJ rfl rfl rfl (jD rfl rfl rfl (zE rfl rfl (zA (zC (jZ rfl (kI (zT (zT (jK (zC ?_)))))))))))))))))))))))
   refine zB (zF rfl rfl (zI (v := .int .i64 ((2 : Nat) : Int)) rfl rfl rfl (fun w => vJ w (jF _ om om)) ?_))
   refine zE rfl rfl (zA (zO (zC (zD (zB (zF rfl rfl (zI (v := .int .i64 ((1 : Nat) : Int)) rfl rfl rfl (fun w => vJ w (jF _ om om)) ?_)))))))
   refine zE rfl rfl (zA (zC (kI (jK (zC (zD (zB (zF rfl rfl (zW (v := .int .i64 2) (vs := [_]) rfl rfl F.ent54 (fun a w ha => (zAi 1 om w).mono (fun e w' h => ⟨h.1.trans rfl, h.2⟩)) ?_)))))))))
   refine zE rfl rfl (zE rfl rfl (zA (zC (zZ ?_))))
   exact jI rfl (fun a w ha => qM rfl rfl rfl ha) (fun a w ha => ⟨by unfold verdO; simp, ha.grown nsl⟩)
  ·refine zB (zF rfl rfl (kO rfl rfl (zF rfl rfl (jJ rfl rfl rfl (jJ rfl rfl rfl (zY rfl rfl rfl (zA (zC (jL rfl (zQ (zC (zD (zB (zE rfl rfl (zA (zC (zD (zV (zD (zV (zD (zV (zD ?_)))))))))))))))))))))))
   refine zD (zD (zB (zF rfl rfl (kO rfl rfl (zF rfl rfl (zJ rfl rfl (zF rfl rfl (zJ rfl rfl (zF rfl rfl (jJ rfl rfl rfl (jJ rfl rfl rfl (jJ rfl rfl rfl (zJ rfl rfl (zY rfl rfl rfl (zY rfl rfl rfl (zE rfl rfl (zA (zC (jL rfl (zQ (zC (zD (zB ?_)))))))))))))))))))))))
   refine zF rfl rfl (kO rfl rfl (zF rfl rfl (jJ rfl rfl rfl (jJ rfl rfl rfl (kP rfl rfl rfl (kP rfl rfl rfl (kP rfl rfl rfl (jJ rfl rfl rfl (jD rfl rfl rfl (zE rfl rfl (zA (zC (jZ rfl (kI (zT (yE rfl (zT (jK (zC (zD (zB (zF rfl rfl (zI (v := .int .i64 ((2 : Nat) : Int)) rfl rfl rfl (fun w => vJ w (jF _ om om)) ?_)))))))))))))))))))))))
   refine zE rfl rfl (zA (zC (kI (jK (zC (zD (zB (zF rfl rfl (zW (v := .int .i64 1) (vs := [_]) rfl rfl F.ent54 (fun a w ha => (zAi 2 om w).mono (fun e w' h => ⟨h.1.trans rfl, h.2⟩)) ?_)))))))))
   refine zE rfl rfl (zE rfl rfl (zA (zC (zZ ?_))))
   exact jI rfl (fun a w ha => qM rfl rfl rfl ha) (fun a w ha => ⟨by unfold verdO; simp, ha.grown nsl⟩)
  ·refine zB (zF rfl rfl (kO rfl rfl (zF rfl rfl (jJ rfl rfl rfl (jJ rfl rfl rfl (zY rfl rfl rfl (zA (zC (jL rfl (zQ (zC (zD (zB (zE rfl rfl (zA (zC (zD (zV (zD (zV (zD (zV (zD ?_)))))))))))))))))))))))
   refine zD (zD (zB (zF rfl rfl (kO rfl rfl (zF rfl rfl (zJ rfl rfl (zF rfl rfl (zJ rfl rfl (zF rfl rfl (zJ rfl rfl (zF rfl rfl (zJ rfl rfl (zF rfl rfl (zJ rfl rfl (zI rfl rfl rfl kG ?_)))))))))))))))
   refine zJ rfl rfl (jD rfl rfl rfl (zY rfl rfl rfl (zE rfl rfl (zA (zC (zR rfl (fun hc3 => ?_) (fun hc3 => ?_)))))))
   ·refine kI (zT (zT (jK (zC (zB (zF rfl rfl (zI (v := .int .i64 ((2 : Nat) : Int)) rfl rfl rfl (fun w => vJ w (jF _ om om)) ?_)))))))
    refine zE rfl rfl (zA (zO (zC (zD (zB (zF rfl rfl (zI (v := .int .i64 ((1 : Nat) : Int)) rfl rfl rfl (fun w => vJ w (jF _ om om)) ?_)))))))
    refine zE rfl rfl (zA (zC (kI (jK (zC (zD (zB (zF rfl rfl (zW (v := .int .i64 2) (vs := [_]) rfl rfl F.ent54 (fun a w ha => (zAi 1 om w).mono (fun e w' h => ⟨h.1.trans rfl, h.2⟩)) ?_)))))))))
    refine zE rfl rfl (zE rfl rfl (zA (zC (zZ ?_))))
    exact jI rfl (fun a w ha => qM rfl rfl rfl ha) (fun a w ha => ⟨by have h : f2 < f1 := om; simp [verdO, h], ha.grown nsl⟩)
   ·refine zQ (zC (zD (zB (zF rfl rfl (kO rfl rfl (zF rfl rfl (zJ rfl rfl (zF rfl rfl (zJ rfl rfl (zF rfl rfl (zJ rfl rfl (zF rfl rfl (zJ rfl rfl (zF rfl rfl (zJ rfl rfl (zI rfl rfl rfl kG ?_))))))))))))))))
    refine zJ rfl rfl (jD rfl rfl rfl (zY rfl rfl rfl (zE rfl rfl (zA (zC (zR rfl (fun hc4 => ?_) (fun hc4 => ?_)))))))
    ·refine kI (zT (yE rfl (zT (jK (zC (zD (zB (zF rfl rfl (zI (v := .int .i64 ((2 : Nat) : Int)) rfl rfl rfl (fun w => vJ w (jF _ om om)) ?_)))))))))
     refine zE rfl rfl (zA (zC (kI (jK (zC (zD (zB (zF rfl rfl (zW (v := .int .i64 1) (vs := [_]) rfl rfl F.ent54 (fun a w ha => (zAi 2 om w).mono (fun e w' h => ⟨h.1.trans rfl, h.2⟩)) ?_)))))))))
     refine zE rfl rfl (zE rfl rfl (zA (zC (zZ ?_))))
     exact jI rfl (fun a w ha => qM rfl rfl rfl ha) (fun a w ha => ⟨by have h : ¬ f2 < f1 := om; have h2 : f1 < f2 := om; simp [verdO, h, h2], ha.grown nsl⟩)
    ·refine zQ (zC (kI (yE rfl (zT (yE rfl (zT (jK (zC (zD (zB (zF rfl rfl (zW (v := .int .i64 3) (vs := [_]) rfl rfl F.ent54 (fun a w ha => (zAi 3 om w).mono (fun e w' h => ⟨h.1.trans rfl, h.2⟩)) ?_))))))))))))
     refine zE rfl rfl (zE rfl rfl (zA (zC (zZ ?_))))
     exact jI rfl (fun a w ha => qM rfl rfl rfl ha) (fun a w ha => ⟨by have h : ¬ f2 < f1 := om; have h2 : ¬ f1 < f2 := om; simp [verdO, h, h2], ha.grown nsl⟩)

end Go.Proofs.Yteppiphdbondeaa.N
namespace Go.Proofs.Yteppiphdbondeaa.N
open Go Go.RowKit Go.Proofs
set_option linter.unusedSectionVars false
def agnL (fst m : Mor) : Bool := ((List.range 3).all fun i => decide (fst.s.getD i 0 <= m.s.getD i 0)) && decide (m.w &&& (7 - fst.w) = 0)
theorem andNot8 : ∀ a < 8, ∀ b < 8, IntKind.u8.wrap ((BitVec.ofInt 8 ((a : Nat) : Int) &&& ~~~ BitVec.ofInt 8 ((b : Nat) : Int)).toNat) = ((a &&& (7 - b) : Nat) : Int) := by decide
theorem zL1 {P : Program} {k : TypeId} {m : Nat} (hm : m <= 10000) (hk : P.keyTypeAt m k = true) (hw : (match P.underlying k with | some (.array _ _) | some (.struct _) => true | _ => false) = true) (hgt : P.eqGuardType P.depth k = false)
  (law : WideMaps.KeyLaw P k) {xs ys : Array Value} {a b : Go.Lit} (ha : keyOf P k (.agg xs) = some a) (hb : keyOf P k (.agg ys) = some b) (x y : Operand) (w : World) :
  ∃ r, (do eqGuard .eql k x y (.agg xs) (.agg ys); binOp .eql k (.agg xs) (.agg ys) : Sem Value).run P w = .ok (.bool r) w ∧ (r = true ↔ Value.agg xs = .agg ys) := by
 obtain ⟨r, hr, hiff⟩ := run_equal_deep (P := P) w (m := m) hm (k := k) hk hw ha hb
 have hg : (eqGuard .eql k x y (.agg xs) (.agg ys)).run P w = .ok () w := by
  have hp : (program : Sem Program).run P w = .ok P w := rfl
  simp [eqGuard, Sem.run_bind, hp, hgt]
 have hb' : (binOp .eql k (.agg xs) (.agg ys)).run P w = .ok (.bool r) w := by
  show (do pure (.bool (<- Op.equal k (.agg xs) (.agg ys))) : Sem Value).run P w = _
  simp only [Sem.run_bind, hr, Result.andThen_ok, Sem.run_pure]
 refine ⟨r, by simp only [Sem.run_bind, hg, Result.andThen_ok, hb'], ?_⟩
 rw [hiff]
 constructor
 ·intro e
  exact law.inj (by rw [ha, e]) hb
 ·intro e
  rw [e] at ha
  rw [ha] at hb
  exact Option.some.inj hb
theorem key92 {a b c : Nat} (ha : a < 2 ^ 63) (hb : b < 2 ^ 63) (hc : c < 2 ^ 63) : ∃ x, keyOf Try.prog 92 (.agg [.int .i64 (a : Int), .int .i64 (b : Int), .int .i64 (c : Int)].toArray) = some x := by
 unfold keyOf
 rw [Try.underlying92]
 have hk : Try.prog.keyType 92 = true := by kernel_rfl
 simp only [hk, Bool.true_and]
 have hf : (Value.agg [.int .i64 (a : Int), .int .i64 (b : Int), .int .i64 (c : Int)].toArray).formed Try.prog 92 = true := by simp [Value.formed, Try.underlying92, co92]
 rw [if_pos hf, tszC]
 generalize Try.prog.types.size - 4 = D
 have := zL6 ha hb hc (D + 1 + 1 + 1)
 rw [show (Value.agg [.int .i64 (a : Int), .int .i64 (b : Int), .int .i64 (c : Int)].toArray).cells.toList = [.int .i64 (a : Int), .int .i64 (b : Int), .int .i64 (c : Int)] from rfl, this]
 exact ⟨_, rfl⟩
theorem arrLaw : WideMaps.KeyLaw Try.prog 92 := deep_law (m := 4) (by omega) (by kernel_rfl) (by kernel_rfl) (by rw [Try.underlying92])
theorem zKi {a b c x y z : Nat} (ha : a < 2 ^ 63) (hb : b < 2 ^ 63) (hc : c < 2 ^ 63) (hx : x < 2 ^ 63) (hy : y < 2 ^ 63) (hz : z < 2 ^ 63) (p q : Operand) (w : World) :
  (do eqGuard .eql 92 p q (.agg [.int .i64 (a : Int), .int .i64 (b : Int), .int .i64 (c : Int)].toArray) (.agg [.int .i64 (x : Int), .int .i64 (y : Int), .int .i64 (z : Int)].toArray); binOp .eql 92 (.agg [.int .i64 (a : Int), .int .i64 (b : Int), .int .i64 (c : Int)].toArray) (.agg [.int .i64 (x : Int), .int .i64 (y : Int), .int .i64 (z : Int)].toArray) : Sem Value).run Try.prog w = .ok (.bool (decide (a = x ∧ b = y ∧ c = z))) w := by
 obtain ⟨k1, hk1⟩ := key92 ha hb hc
 obtain ⟨k2, hk2⟩ := key92 hx hy hz
 obtain ⟨r, h1, h2⟩ := zL1 (P := Try.prog) (m := 4) om (k := 92) kr (by rw [Try.underlying92]) kr arrLaw hk1 hk2 p q w
 have e : r = decide (a = x ∧ b = y ∧ c = z) := by
  rw [Bool.eq_iff_iff, h2, decide_eq_true_iff]
  simp
  omega
 rw [<- e]
 exact h1
instance TB.three (f g h : Int) (u : Value) : TB (.agg [.int .i64 f, .int .i64 g, .int .i64 h].toArray) u := TB.agg (by
 intro x hx
 simp at hx
 rcases hx with rfl | rfl | rfl <;> exact .int _ _) u
def agnS (fA dA : Option Addr) (fc dc kiln : Nat) (fs : List Flt) (days : List Nat) (b7 : Nat) : Srch := ⟨fA, dA, fc, dc, kiln, fs, days, 66, 61, [], [.pointer (some ⟨b7, 0, none⟩)], fun _ _ => true, agnL (start fs)⟩
def bstG (fs : List Flt) (kiln : Nat) (days : List Nat) : Oc := (agnS none none 0 0 kiln fs days 0).bst days.length (start fs)
def planG (fs : List Flt) (kiln : Nat) (days : List Nat) : List (List Nat) := (agnS none none 0 0 kiln fs days 0).planL days.length (start fs)
theorem zLe {fA dA : Option Addr} {fc dc kiln b7 : Nat} {fs : List Flt} {days : List Nat} : ∀ n m, (agnS fA dA fc dc kiln fs days b7).planL n m = (agnS none none 0 0 kiln fs days 0).planL n m
 | 0, _ => rfl
 | n + 1, _m => congrArg (List.cons _) (zLe n _)
theorem zQz {x0 x1 x2 xw z0 z1 z2 zw : Nat} (h0 : x0 <= z0) (h1 : x1 <= z1) (h2 : x2 <= z2) : agnL ⟨[x0, x1, x2], xw⟩ ⟨[z0, z1, z2], zw⟩ = decide (((zw &&& (7 - xw) : Nat) : Int) = 0) := by
 unfold agnL
 have : (List.range 3).all (fun i => decide ([x0, x1, x2].getD i 0 <= [z0, z1, z2].getD i 0)) = true := by
  rw [List.all_eq_true]
  intro i hi
  have : i < 3 := List.mem_range.1 hi
  rcases i with _ | _ | _ | i <;> simp <;> omega
 rw [this, Bool.true_and, decide_eq_decide]
 exact (Int.natCast_eq_zero (n := zw &&& (7 - xw))).symm
theorem zHg (a b c : Nat) (k : Nat) (hk : k < 3) : [Value.int .i64 (a : Int), .int .i64 (b : Int), .int .i64 (c : Int)][k]? = some (.int .i64 (([a, b, c].getD k 0 : Nat) : Int)) := by
 rcases k with _ | _ | _ | k
 ·rfl
 ·rfl
 ·rfl
 ·omega
theorem zVv {x0 x1 x2 xw z0 z1 z2 zw k : Nat} (hk : k < 3) (h : [z0, z1, z2].getD k 0 < [x0, x1, x2].getD k 0) : agnL ⟨[x0, x1, x2], xw⟩ ⟨[z0, z1, z2], zw⟩ = false := by
 unfold agnL
 have : (List.range 3).all (fun i => decide ([x0, x1, x2].getD i 0 <= [z0, z1, z2].getD i 0)) = false := by
  rw [List.all_eq_false]
  exact ⟨k, List.mem_range.2 hk, by simpa using h⟩
 rw [this, Bool.false_and]
section
variable [I : Sys] {C : Ctx} {fr : List (Nat × Value)} {hp : List Res} {ops : Array Oper} {Q : Exit -> Act -> World -> Prop} {rest : List Oper} {d : Nat} {ty : TypeId} {pos : String} {after : Array Edge}
theorem zE9 {x y : Operand} {t e : TypeId} {cs : List Value} {v : Value} {len j m : Nat} {kd : IntKind} {i : Int} {z : Value} (hd : Nat.blt d C.N = true) (hx : ev fr x = some (.agg cs.toArray)) (hy : ev fr y = some (.int kd i))
  (ht : C.P.underlying t = some (.array len e)) (ho : One C.P e) (he : TI C.P e z 1 m) (hi : i = (j : Int)) (hj : j < len) (hv : cs[j]? = some v)
  (k : Lst C ops Q rest ((d, v) :: fr) hp) : Lst C ops Q (⟨some d, .index t x y, ty, pos, after, none⟩ :: rest) fr hp := by
 obtain ⟨i', hi', _, hs, _⟩ := he
 subst hi
 refine kU _ hd (fun _ _ _ => zJx ..) (fun a w ha => ⟨w, ?_, ha⟩) k
 have h1 : (isAgg e).run C.P w = .ok false w := yL ho.1 ho.2 w
 have h2 : (sizeOf e).run C.P w = .ok 1 w := by simp [sizeOf, typeInfo, hi', hs]
 have h3 : (Instr.index t (.agg cs.toArray) (.int kd (j : Int))).run C.P w = .ok v w := by
  have hb : (0 <= (j : Int) ∧ (j : Int) < (len : Int)) := by omega
  have hv' : cs.toArray[j]? = some v := by simpa using hv
  simp only [Instr.index, asIntOf, Sem.run_bind, Sem.run_pure, Result.andThen_ok, run_underlying ht, if_pos hb, h2, part, h1, Int.toNat_natCast, Nat.mul_one, hv']
  simp
 simp only [execOp, ha.eval hx, ha.eval hy, Sem.run_bind, h3, Result.andThen_ok, Sem.run_pure]
end
end Go.Proofs.Yteppiphdbondeaa.N
namespace Go.Proofs.Yteppiphdbondeaa.N
open Go Go.RowKit Go.Proofs
set_option linter.unusedSectionVars false
variable [I : Sys]
theorem F.agg92 : aggB Try.prog 92 = true := by unfold aggB; rw [Try.underlying92]
theorem zR9 {z0 z1 z2 zw x0 x1 x2 xw b7 : Nat} (hz0 : z0 <= 4) (hz1 : z1 <= 4) (hz2 : z2 <= 4) (hzw : zw < 8) (hx0 : x0 <= 4) (hx1 : x1 <= 4) (hx2 : x2 <= 4) (hxw : xw < 8) (w : World) (hb7 : b7 < w.heap.size) (hc7 : ∀ (j : Nat) (v : Value), (V4 x0 x1 x2 xw)[j]? = some v -> w.cell? ⟨b7, j, none⟩ = some v) : Calls Try.prog 61 #[.agg (V4 z0 z1 z2 zw).toArray, .pointer (some ⟨b7, 0, none⟩)] w fun e w' => e = .returned (.bool (agnL (⟨[x0, x1, x2], xw⟩ : Mor) (⟨[z0, z1, z2], zw⟩ : Mor))) ∧ Grew w w' [] := by
 refine enter (N := 36) [(0, .agg (V4 z0 z1 z2 zw).toArray), (1, .pointer (some ⟨b7, 0, none⟩))] Try.func61 rfl Try.ntmps61 rfl rfl ?_
 refine zD (zB (jT rfl rfl ?_))
 intro b2
 refine zE rfl rfl (zA (zC (zD (zD (zB (zP rfl rfl F.fi95_0 F.ti92 ?_))))))
 refine zX (o := 0) (l := [.int .i64 (z0 : Int), .int .i64 (z1 : Int), .int .i64 (z2 : Int)]) rfl rfl F.agg92 F.ti92 ?_
 refine zP rfl rfl F.fi95_0 F.ti92 ?_
 refine qS (l := [.int .i64 (x0 : Int), .int .i64 (x1 : Int), .int .i64 (x2 : Int)]) rfl rfl F.agg92 F.ti92 rfl (fun a w ha j u hu => ha.old (hc7 (0 + j) u (by rcases j with _ | _ | _ | j <;> simp at hu ⊢ <;> exact hu)) hb7) ?_
 refine zNg rfl rfl rfl (zKi om om om om om om _ _) ?_
 refine zA (zC (zR rfl (fun hc0 => ?_) (fun hc0 => ?_)))
 ·refine zD (zB (zP rfl rfl F.fi95_1 F.ti93 ?_))
  refine jE rfl rfl F.one93 ?_
  refine zP rfl rfl F.fi95_1 F.ti93 ?_
  refine kQ (v := .int .u8 (xw : Int)) rfl rfl F.one93 (fun a w ha => ha.old (hc7 3 _ rfl) hb7) ?_
  refine zI (v := .int .u8 ((zw &&& (7 - xw) : Nat) : Int)) rfl rfl rfl (fun w => zDv w (andNot8 zw hzw xw hxw)) ?_
  refine zI rfl rfl rfl kC ?_
  refine zE rfl rfl (zA (zC (zZ (zU ?_))))
  exact jI rfl (fun a w ha => jY rfl rfl ha) (fun a w ha => ⟨by rw [zQz om om om], ha.grown nsl⟩)
 ·refine zQ (zC (zD (zD (zB (zP rfl rfl F.fi95_0 F.ti92 ?_)))))
  refine qS (l := [.int .i64 (x0 : Int), .int .i64 (x1 : Int), .int .i64 (x2 : Int)]) rfl rfl F.agg92 F.ti92 rfl (fun a w ha j u hu => ha.old (hc7 (0 + j) u (by rcases j with _ | _ | _ | j <;> simp at hu ⊢ <;> exact hu)) hb7) ?_
  refine zF rfl rfl (zA (zC (zV (xM (G := Nat) (fun k => k <= 3 ∧ ∀ j, j < k -> [x0, x1, x2].getD j 0 <= [z0, z1, z2].getD j 0) (fun k => 3 - k) (fun k => [(1, .pointer (some ⟨b7, 0, none⟩)), (2, .pointer (some ⟨b2, 0, none⟩)), (18, .agg [.int .i64 (x0 : Int), .int .i64 (x1 : Int), .int .i64 (x2 : Int)].toArray), (19, .int .i64 (k : Int))]) (fun k => [.blk b2 (.cells (V4 z0 z1 z2 zw).toArray 95 (0, 0))]) 0 ⟨Nat.zero_le _, fun j hj => absurd hj (Nat.not_lt_zero _)⟩ sbn sbl ?_))))
  intro k hk
  (try dsimp only at hk ⊢)
  refine zD (zB (zI rfl rfl rfl kG ?_))
  refine zA (zC (zD (zR rfl (fun hc1 => ?_) (fun hc1 => ?_))))
  ·refine zQ (zC (zD (zV (zD (zB (zF rfl rfl (zE9 (v := .int .i64 (([x0, x1, x2].getD k 0 : Nat) : Int)) rfl rfl rfl Try.underlying92 F.one3 F.ti3 rfl om (zHg x0 x1 x2 k om) ?_)))))))
   refine zE rfl rfl (zE rfl rfl (zA (zC (zD (zB (zF rfl rfl (zP rfl rfl F.fi95_0 F.ti92 ?_)))))))
   refine zBj (j := k) rfl rfl rfl Try.underlying92 F.ti3 rfl om ?_
   refine kQ (v := .int .i64 (([z0, z1, z2].getD k 0 : Nat) : Int)) rfl rfl F.one3 (fun a w ha => jU (ha.mem_blk (InB.mem (b := b2) (o := .cells (V4 z0 z1 z2 zw).toArray 95 (0, 0)))) (by rw [Nat.zero_add, Nat.mul_one]; exact zFb z0 z1 z2 _ k om)) ?_
   refine zF rfl rfl (zI rfl rfl rfl kG ?_)
   refine zA (zC (zR rfl (fun hc2 => ?_) (fun hc2 => ?_)))
   ·refine zD (zB (zE rfl rfl (zA (zC (zZ (jQ (zU (zU (jQ (zU ?_))))))))))
    exact jI rfl (fun a w ha => jY rfl rfl ha) (fun a w ha => ⟨by rw [zVv (k := k) om om], ha.grown nsl⟩)
   ·refine zQ (zO (zC (zB (zI rfl rfl rfl (fun w => jO w (jF _ om om)) ?_))))
    refine zF rfl rfl (zA (qR (k + 1) ⟨by omega, fun j hj => ?_⟩ tdo sbn sbl))
    rcases Nat.lt_or_ge j k with h | h
    ·exact hk.2 j h
    ·obtain rfl : j = k := by omega
     omega
  ·refine kI (zT (zT (jK (zC (zD (zB (zP rfl rfl F.fi95_1 F.ti93 ?_)))))))
   refine jE rfl rfl F.one93 ?_
   refine zP rfl rfl F.fi95_1 F.ti93 ?_
   refine kQ (v := .int .u8 (xw : Int)) rfl rfl F.one93 (fun a w ha => ha.old (hc7 3 _ rfl) hb7) ?_
   refine zI (v := .int .u8 ((zw &&& (7 - xw) : Nat) : Int)) rfl rfl rfl (fun w => zDv w (andNot8 zw hzw xw hxw)) ?_
   refine zI rfl rfl rfl kC ?_
   refine zE rfl rfl (zA (zC (zZ ?_)))
   exact jI rfl (fun a w ha => jY rfl rfl ha) (fun a w ha => ⟨by rw [zQz (by have := hk.2 0 om; simpa using this) (by have := hk.2 1 om; simpa using this) (by have := hk.2 2 om; simpa using this)], ha.grown nsl⟩)

theorem zQ3 {fA dA : Option Addr} {fc dc kiln b7 : Nat} {fs : List Flt} {days : List Nat} (h : ChV fs kiln days) : (agnS fA dA fc dc kiln fs days b7).Ok := ⟨h.f3, h.ff, Nat.le_succ_of_le h.d4, h.dd, jG Try.func66 rfl (by kernel_rfl), jG Try.func61 rfl (by kernel_rfl)⟩
theorem zI8 {fA dA : Option Addr} {fc dc kiln b7 x0 x1 x2 xw : Nat} {fs : List Flt} {days : List Nat} {w : World} (hx : start fs = ⟨[x0, x1, x2], xw⟩) (hx0 : x0 <= 4) (hx1 : x1 <= 4) (hx2 : x2 <= 4) (hxw : xw < 8) (hF : RdL Flt.cells 4 w fA fs) (hD : RdL ncell 1 w dA days) :
  Stays w.heap.size w [.blk b7 (.cells (V4 x0 x1 x2 xw).toArray 95 (0, 0))] (agnS fA dA fc dc kiln fs days b7).Env := fun _ _ _ _ _ w' hr ha => ⟨hF.later ha.below, hD.later ha.below, fun A c d acts _ _ _ => zRd _ A _ c w', fun m hm => by
  obtain ⟨a, b, c, x, rfl, h1, h2, h3, h4⟩ := hm.form
  have hb := ha.mem_blk (hr (.blk b7 (.cells (V4 x0 x1 x2 xw).toArray 95 (0, 0))) (by simp))
  have h9 := zR9 h1 h2 h3 h4 hx0 hx1 hx2 hxw w' (b7 := b7) (Array.getElem?_eq_some_iff.1 hb).1 (fun j v hv => jU hb (by simpa using hv))
  rw [<- hx] at h9
  exact h9⟩

set_option maxRecDepth 4000 in
theorem zNy {fA dA : Option Addr} {fc dc kiln : Nat} {fs : List Flt} {days : List Nat} (hc : ChV fs kiln days) (w : World) (hF : RdL Flt.cells 4 w fA fs) (hD : RdL ncell 1 w dA days) : Calls Try.prog 33 #[.agg (CA fA fs.length fc kiln dA days.length dc).toArray] w fun e w' => ∃ oA oc mr, (((bstG fs kiln days).is = true ∧ mr.reverse.map (·.2.2) = planG fs kiln days ∧ e = .returned (.tuple #[.slice oA mr.length oc, .int .i64 (((bstG fs kiln days).f : Nat) : Int), .int .i64 0])) ∨ ((bstG fs kiln days).is = false ∧ mr = [] ∧ e = .returned (.tuple #[.slice none 0 0, .int .i64 0, .int .i64 11]))) ∧ Grew w w' (.row 22 1 oA mr.length oc (mr.reverse.map mcell) :: mr.map mrow) := by
 have hm0 : MOk (start fs) := vU hc.f3 hc.ff _ (Nat.le_refl _)
 obtain ⟨x0, x1, x2, xw, hx, hx0, hx1, hx2, hxw⟩ := hm0.form
 refine enter (N := 38) [(0, .agg (CA fA fs.length fc kiln dA days.length dc).toArray)] Try.func33 rfl Try.ntmps33 rfl rfl ?_
 refine zD (zB (jT rfl rfl ?_))
 intro b1
 refine zE rfl rfl (zE rfl rfl (zE rfl rfl (zA (zC (zD (zD (zB (zX rfl rfl F.agg27 F.ti27 ?_))))))))
 refine zW (v := .int .i64 0) (vs := [_]) rfl rfl F.ent43 (fun a w ha => by
  have h := xT (fA := fA) (dA := dA) (fc := fc) (dc := dc) (fs := fs.map Flt.toZ) (kiln := (kiln : Int)) (days := toZs days) (by have := hc.f3; simp; omega) (by have := hc.d4; simp [toZs]; omega) w (RdL.mapped Flt.toZ (hF.later ha.below) (fun _ => rfl)) (RdL.mapped (fun (n : Nat) => (n : Int)) (hD.later ha.below) (fun _ => rfl))
  rw [chk0 hc] at h
  simpa [toZs] using h) ?_
 refine zE rfl rfl (zA (zC (zD (zB (zF rfl rfl (zI rfl rfl rfl jP ?_))))))
 refine zA (zC (zR rfl (fun hc0 => ?_) (fun hc0 => ?_)))
 ·exact absurd rfl hc0
  done
 ·refine zQ (zC (zD (zB (zX rfl rfl F.agg27 F.ti27 ?_))))
  refine kD (vs := [(0, _)]) (l' := [_, _, _]) rfl rfl F.ti77 F.pl77 (.cons rfl rfl (.nil _)) rfl ?_
  refine jR (X := Nat × Nat) (vs := [_]) (p := fun _ => True) (val := fun g => .pointer (some ⟨g.1, 0, none⟩)) (rs := fun g => [.blk g.1 (.cells [.slice fA fs.length fc, .int .i64 (kiln : Int), .slice dA days.length dc, .func (.func 66) [].toArray [].toArray, .func (.func 67) [].toArray [].toArray, .map (some g.2)].toArray 101 (0, 0)), .blk g.2 (KS.obj [])]) rfl rfl F.ent48 (fun a w ha => (zDs fA dA fc days.length dc kiln fs w).mono (fun e w' h => by obtain ⟨b, km, h1, h2⟩ := h; exact ⟨(b, km), trivial, h1, h2⟩)) ?_
  rintro ⟨sb, km⟩ -
  dsimp only [List.cons_append, List.nil_append]
  refine zE rfl rfl (zA (zC (zD (zB (zF rfl rfl (vD rfl rfl (vW rfl rfl F.fi101_0 F.ti77 ?_)))))))
  refine zX (o := 0) (l := (CA fA fs.length fc kiln dA days.length dc)) rfl rfl F.agg77 F.ti77 ?_
  refine zW (v := .agg (V4 x0 x1 x2 xw).toArray) (vs := [_]) rfl rfl F.ent60 (fun a w ha => (zBy fA dA fc days.length dc kiln fs hc.f3 hc.ff w (hF.later ha.below)).mono (fun e w' h => ⟨h.1.trans (by rw [hx]; rfl), h.2⟩)) ?_
  refine jA rfl F.ti95 ?_
  intro b7
  refine zK rfl rfl F.ti95 rfl ?_
  refine zA (zC (zD (zB (zF rfl rfl (vE (fs := []) (cs := [_]) rfl rfl rfl ?_)))))
  refine vD rfl rfl (vW rfl rfl F.fi101_2 F.ti98 ?_)
  refine zK rfl rfl F.ti98 rfl ?_
  refine zA (zC (zD ?_))
  rcases his : (bstG fs kiln days).is with _ | _
  ·refine zB (zF rfl rfl (qY (X := Option Addr × Nat × List Meta × List (Spot × Value)) (first := []) (cap := []) (vs := [_]) (p := fun g => g.2.2.1 = []) (val := fun g => .tuple #[.slice none 0 0, .int .i64 0, .bool false]) (rs := fun g => .row 22 1 g.1 g.2.2.1.length g.2.1 (g.2.2.1.reverse.map mcell) :: .blk km (KS.obj g.2.2.2) :: .blk sb (.cells [.slice fA fs.length fc, .int .i64 (kiln : Int), .slice dA days.length dc, .func (.func 66) [].toArray [].toArray, .func (.func 61) [].toArray [.pointer (some ⟨b7, 0, none⟩)].toArray, .map (some km)].toArray 101 (0, 0)) :: (g.2.2.1.map mrow ++ [.blk b7 (.cells (V4 x0 x1 x2 xw).toArray 95 (0, 0)), .blk b1 (.cells (CA fA fs.length fc kiln dA days.length dc).toArray 27 (0, 0))])) rfl rfl rfl F.ent49 (fun a w ha => ?_) ?_))
   ·refine (zC2 (s := (agnS fA dA fc dc kiln fs days b7)) (zQ3 hc) (T := [.blk b7 (.cells (V4 x0 x1 x2 xw).toArray 95 (0, 0)), .blk b1 (.cells (CA fA fs.length fc kiln dA days.length dc).toArray 27 (0, 0))]) (km := km) (sb := sb) (KnOk.nil _) ((zI8 hx hx0 hx1 hx2 hxw hF hD).more (fun r hr => by simp at hr; simp [hr])) (ha.pck pkk)).mono ?_
    rintro e w' ⟨kn', oA, oc, mr, hcase, hk, hA⟩
    rcases hcase with ⟨h1, h2, h3⟩ | ⟨h1, h2, h3⟩
    ·exact absurd (his.symm.trans h1) (by simp)
    ·exact ⟨(oA, oc, mr, kn'), h2, h3, hA⟩
   rintro ⟨oA, oc, mr, kn'⟩ hp
   dsimp only at hp ⊢
   refine zF rfl rfl (zL rfl rfl rfl (zL rfl rfl rfl (zL rfl rfl rfl (zE rfl rfl (zE rfl rfl (zE rfl rfl (zA (zC (zD (zD (zB (zF rfl rfl (kO rfl rfl (zA (zC (jZ rfl (zD (zB (zE rfl rfl (zE rfl rfl (zE rfl rfl (zA (zC ?_)))))))))))))))))))))))
   refine zZ (zU ?_)
   exact jI rfl (fun a w ha => xE rfl rfl rfl rfl ha) (fun a w ha => ⟨oA, oc, mr, .inr ⟨rfl, hp, rfl⟩, ha.grown (.cons_cons _ (.cons _ (.cons _ (List.sublist_append_left ..))))⟩)
  ·refine zB (zF rfl rfl (qY (X := Option Addr × Nat × List Meta × List (Spot × Value)) (first := []) (cap := []) (vs := [_]) (p := fun g => g.2.2.1.reverse.map (·.2.2) = planG fs kiln days) (val := fun g => .tuple #[.slice g.1 g.2.2.1.length g.2.1, .int .i64 (((bstG fs kiln days).f : Nat) : Int), .bool true]) (rs := fun g => .row 22 1 g.1 g.2.2.1.length g.2.1 (g.2.2.1.reverse.map mcell) :: .blk km (KS.obj g.2.2.2) :: .blk sb (.cells [.slice fA fs.length fc, .int .i64 (kiln : Int), .slice dA days.length dc, .func (.func 66) [].toArray [].toArray, .func (.func 61) [].toArray [.pointer (some ⟨b7, 0, none⟩)].toArray, .map (some km)].toArray 101 (0, 0)) :: (g.2.2.1.map mrow ++ [.blk b7 (.cells (V4 x0 x1 x2 xw).toArray 95 (0, 0)), .blk b1 (.cells (CA fA fs.length fc kiln dA days.length dc).toArray 27 (0, 0))])) rfl rfl rfl F.ent49 (fun a w ha => ?_) ?_))
   ·refine (zC2 (s := (agnS fA dA fc dc kiln fs days b7)) (zQ3 hc) (T := [.blk b7 (.cells (V4 x0 x1 x2 xw).toArray 95 (0, 0)), .blk b1 (.cells (CA fA fs.length fc kiln dA days.length dc).toArray 27 (0, 0))]) (km := km) (sb := sb) (KnOk.nil _) ((zI8 hx hx0 hx1 hx2 hxw hF hD).more (fun r hr => by simp at hr; simp [hr])) (ha.pck pkk)).mono ?_
    rintro e w' ⟨kn', oA, oc, mr, hcase, hk, hA⟩
    rcases hcase with ⟨h1, h2, h3⟩ | ⟨h1, h2, h3⟩
    ·exact ⟨(oA, oc, mr, kn'), h2.trans (zLe _ _), h3, hA⟩
    ·exact absurd (his.symm.trans h1) (by simp)
   rintro ⟨oA, oc, mr, kn'⟩ hp
   dsimp only at hp ⊢
   refine zF rfl rfl (zL rfl rfl rfl (zL rfl rfl rfl (zL rfl rfl rfl (zE rfl rfl (zE rfl rfl (zE rfl rfl (zA (zC (zD (zD (zB (zF rfl rfl (kO rfl rfl (zA (zC (jL rfl (zQ (zC (zD (zB (zF rfl rfl (zF rfl rfl (zE rfl rfl ?_)))))))))))))))))))))))
   refine zE rfl rfl (zE rfl rfl (zA (zC (zZ ?_))))
   exact jI rfl (fun a w ha => xE rfl rfl rfl rfl ha) (fun a w ha => ⟨oA, oc, mr, .inl ⟨rfl, hp, rfl⟩, ha.grown (.cons_cons _ (.cons _ (.cons _ (List.sublist_append_left ..))))⟩)

end Go.Proofs.Yteppiphdbondeaa.N
namespace Go.Proofs.Yteppiphdbondeaa.N
open Go Go.RowKit Go.Proofs
set_option linter.unusedSectionVars false
def buyN (fs : List Flt) (kiln : Nat) (days : List Nat) (os : List Flt) : Nat -> Option (Nat × Nat)
 | 0 => none
 | k + 1 => if (bstA (fs ++ [os.getD k default]) kiln days).is = true ∧ (∀ p, buyN fs kiln days os k = some p -> (bstA (fs ++ [os.getD k default]) kiln days).f < p.2) then some (k, (bstA (fs ++ [os.getD k default]) kiln days).f) else buyN fs kiln days os k
def buyI : Option (Nat × Nat) -> Int
 | none => -1
 | some p => p.1
def buyF : Option (Nat × Nat) -> Nat
 | none => 0
 | some p => p.2
theorem zNk {fs : List Flt} {kiln : Nat} {days : List Nat} {os : List Flt} : ∀ k p, buyN fs kiln days os k = some p -> p.1 < k
 | 0, p, h => by cases h
 | k + 1, p, h => by
  unfold buyN at h
  split at h
  ·cases h; exact Nat.lt_succ_self _
  ·have := zNk k p h; omega
section
variable [I : Sys]
theorem zH4 {B : Nat} {w0 : World} {T : List Res} {fA dA : Option Addr} {fc dc kiln : Nat} {fs : List Flt} {days : List Nat} (hF : Stays B w0 T fun w => RdL Flt.cells 4 w fA fs) (hD : Stays B w0 T fun w => RdL ncell 1 w dA days) : Stays B w0 T (anyS fA dA fc dc kiln fs days).Env :=
 fun N ds fr hp a w hr ha => zNd (hF N ds fr hp a w hr ha) (hD N ds fr hp a w hr ha)
theorem zG4 {w0 : World} {T : List Res} {fA : Option Addr} {l : List Nat} (hF : RdL ncell 1 w0 fA l) : Stays w0.heap.size w0 T fun w => RdL ncell 1 w fA l := fun _ _ _ _ _ _ _ ha => hF.later ha.below
theorem zI6 {B c n : Nat} {w0 : World} {T : List Res} {fA : Option Addr} {fs : List Flt} (hm : Res.row 49 4 fA n c (fs.flatMap Flt.cells) ∈ T) (hn : fs.length = n) : Stays B w0 T fun w => RdL Flt.cells 4 w fA fs := fun _ _ _ _ _ _ hr ha => qD ha (cells := Flt.cells) (e := 49) (c := c) (n := n) (l := fs) (fun _ => rfl) (hr _ hm) hn.symm
end
theorem ChV.more {fs : List Flt} {kiln : Nat} {days : List Nat} {f : Flt} (h : ChV fs kiln days) (h2 : fs.length <= 2) (hf : FltOk f) : ChV (fs ++ [f]) kiln days :=
 ⟨by simp, by simp; omega, fun g hg => by
  rcases List.mem_append.1 hg with hg | hg
  ·exact h.ff g hg
  ·simp at hg; subst hg; exact hf, h.k3, h.d1, h.d4, h.dd⟩
theorem zWd {p g n : Nat} {wd : Bool} (h : FltOk ⟨p, g, n, wd⟩) : chkF ⟨(p : Int), (g : Int), (n : Int), wd⟩ = 0 := by
 obtain ⟨a1, a2, a3, a4⟩ := h
 dsimp only at a1 a2 a3 a4
 unfold chkF btw
 rw [if_pos]
 simp
 omega
theorem zI4 {x y z t1 t2 t3 : Res} {M : List Res} : (x :: y :: z :: (M ++ [t1, t2, t3])).Perm (t1 :: t2 :: t3 :: (x :: y :: z :: M)) := List.perm_append_comm (l₁ := x :: y :: z :: M) (l₂ := [t1, t2, t3])
theorem zAh (fs : List Flt) : (fs.flatMap Flt.cells).length = fs.length * 4 := by
 induction fs with
 | nil => rfl
 | cons f fs ih => rw [List.flatMap_cons, List.length_append, ih]; simp [Flt.cells]; omega
theorem zIq [I : Sys] {w : World} {p : Addr} {fs : List Flt} (h : RdL Flt.cells 4 w (some p) fs) : ∀ j u, (fs.flatMap Flt.cells)[j]? = some u -> w.cell? (p.add j) = some u := fun j u hu => by
 have hj : j < fs.length * 4 := by rw [<- zAh]; exact (List.getElem?_eq_some_iff.1 hu).1
 obtain ⟨b, o, h1, _, h3⟩ := h om
 cases h1
 rw [qO]
 have key : ∀ (fs : List Flt) (j : Nat) (u : Value), (fs.flatMap Flt.cells)[j]? = some u -> ∃ f, fs[j / 4]? = some f ∧ (Flt.cells f)[j % 4]? = some u := by
  intro fs
  induction fs with
  | nil => intro j u h; simp at h
  | cons f fs ih =>
   intro j u h
   rw [List.flatMap_cons, List.getElem?_append] at h
   split at h
   ·rename_i hl
    have hl4 : j < 4 := hl
    exact ⟨f, by rw [Nat.div_eq_of_lt hl4]; rfl, by rw [Nat.mod_eq_of_lt hl4]; exact h⟩
   ·rename_i hl
    have hl4 : 4 <= j := by simpa [Flt.cells] using hl
    obtain ⟨g, h1, h2⟩ := ih (j - 4) u (by simpa [Flt.cells] using h)
    refine ⟨g, ?_, by rw [show j % 4 = (j - 4) % 4 from by omega]; exact h2⟩
    rw [show j / 4 = (j - 4) / 4 + 1 from by omega]
    simpa using h1
 obtain ⟨f, hf, hc⟩ := key fs j u hu
 have := h3 (j / 4) f hf (j % 4) u hc
 rw [show o + j = o + j / 4 * 4 + j % 4 from by omega]
 exact this
end Go.Proofs.Yteppiphdbondeaa.N
namespace Go.Proofs.Yteppiphdbondeaa.N
open Go Go.RowKit Go.Proofs
set_option linter.unusedSectionVars false
variable [I : Sys]

set_option maxRecDepth 4000 in
theorem zTj {fA dA oA : Option Addr} {fc dc oc kiln : Nat} {fs os : List Flt} {days : List Nat} (hc : ChV fs kiln days) (hn2 : fs.length <= 2) (ho : ∀ f ∈ os, FltOk f) (ho3 : os.length <= 3) (hcap : fs.length <= fc) (w : World) (hF : RdL Flt.cells 4 w fA fs) (hD : RdL ncell 1 w dA days) (hO : RdL Flt.cells 4 w oA os) : Calls Try.prog 28 #[.agg (CA fA fs.length fc kiln dA days.length dc).toArray, .slice oA os.length oc] w fun e w' => e = .returned (match buyN fs kiln days os os.length with | none => .tuple #[.int .i64 0, .int .i64 0, .int .i64 11] | some q => .tuple #[.int .i64 (q.1 : Int), .int .i64 (q.2 : Int), .int .i64 0]) ∧ Grew w w' [] := by
 refine enter (N := 89) [(0, .agg (CA fA fs.length fc kiln dA days.length dc).toArray), (1, .slice oA os.length oc)] Try.func28 rfl Try.ntmps28 rfl rfl ?_
 refine zD (zB (jT rfl rfl ?_))
 intro b2
 refine zE rfl rfl (zE rfl rfl (zE rfl rfl (zA (zC (zD (zD (zB (zX rfl rfl F.agg27 F.ti27 ?_))))))))
 refine zW (v := .int .i64 0) (vs := [_]) rfl rfl F.ent43 (fun a w ha => by
  have h := xT (fA := fA) (dA := dA) (fc := fc) (dc := dc) (fs := fs.map Flt.toZ) (kiln := (kiln : Int)) (days := toZs days) (by have := hc.f3; simp; omega) (by have := hc.d4; simp [toZs]; omega) w (RdL.mapped Flt.toZ (hF.later ha.below) (fun _ => rfl)) (RdL.mapped (fun (n : Nat) => (n : Int)) (hD.later ha.below) (fun _ => rfl))
  rw [chk0 hc] at h
  simpa [toZs] using h) ?_
 refine zE rfl rfl (zA (zC (zD (zB (zF rfl rfl (zI rfl rfl rfl jP ?_))))))
 refine zA (zC (zR rfl (fun hc0 => ?_) (fun hc0 => ?_)))
 ·exact absurd rfl hc0
  done
 ·refine zQ (zC (zD (zV (zD (zB (zP rfl rfl F.fi27_0 F.ti25 ?_))))))
  refine jE rfl rfl F.one25 ?_
  refine jX rfl rfl Try.underlying25 ?_
  refine zI rfl rfl rfl kC ?_
  refine zE rfl rfl (zA (zC (zR rfl (fun hc1 => ?_) (fun hc1 => ?_))))
  ·exact absurd hc1 om
   done
  ·refine zD (zB (zF rfl rfl (jX rfl rfl Try.underlying25 ?_)))
   refine zI rfl rfl rfl zBu ?_
   refine zE rfl rfl (zA (zC (zR rfl (fun hc2 => ?_) (fun hc2 => ?_))))
   ·exact absurd hc2 om
    done
   ·refine zQ (zO (zC (zD (zD (zB (zF rfl rfl (jX rfl rfl Try.underlying25 ?_)))))))
    refine zF rfl rfl (zA (zC (zV (xM (G := Nat) (fun k => k <= os.length) (fun k => os.length - k) (fun k => [(1, .slice oA os.length oc), (2, .pointer (some ⟨b2, 0, none⟩)), (33, .slice oA os.length oc), (34, .int .i64 (os.length : Int)), (35, .int .i64 (k : Int))]) (fun k => [.blk b2 (.cells (CA fA fs.length fc kiln dA days.length dc).toArray 27 (0, 0))]) 0 (Nat.zero_le _) sbn sbl ?_))))
    intro k hk
    (try dsimp only at hk ⊢)
    refine zD (zB (zI rfl rfl rfl kG ?_))
    refine zA (zC (zD (zR rfl (fun hc3 => ?_) (fun hc3 => ?_))))
    ·have hk' : k < os.length := by omega
     obtain ⟨bf, bo, hoA, hbf, hcf⟩ := hO om
     obtain ⟨f, hx⟩ : ∃ x, os[k]? = some x := ⟨_, List.getElem?_eq_getElem hk'⟩
     have hfok := ho f (List.mem_of_getElem? hx)
     obtain ⟨pw, gn, nw, wd⟩ := f
     refine zQ (zC (zD (zV (zD (zB (qE (j := k) rfl (show _ = some (Value.slice (some ⟨bf, bo, none⟩) os.length oc) from by rw [<- hoA]; rfl) rfl Try.underlying25 F.ti49 rfl hk' ?_))))))
     refine qS (l := [.int .i64 (pw : Int), .int .i64 (gn : Int), .int .i64 (nw : Int), .bool wd]) rfl rfl F.agg49 F.ti49 rfl (fun a w ha j u hu => ha.old (hcf k _ hx j u hu) hbf) ?_
     refine jA rfl F.ti49 ?_
     intro b9
     refine zK rfl rfl F.ti49 rfl ?_
     refine zA (zC (zD (zB (zX rfl rfl F.agg49 F.ti49 ?_))))
     refine zW (v := .int .i64 0) (vs := [_]) rfl rfl F.ent59 (fun a w ha => (zD6 (pw : Int) (gn : Int) (nw : Int) wd w).mono (fun e w' h => ⟨h.1.trans (by rw [show chkF ⟨(pw : Int), (gn : Int), (nw : Int), wd⟩ = 0 from zWd hfok]; rfl), h.2⟩)) ?_
     refine zE rfl rfl (zA (zC (zD (zB (zF rfl rfl (zI rfl rfl rfl jP ?_))))))
     refine zA (zC (zR rfl (fun hc4 => ?_) (fun hc4 => ?_)))
     ·exact absurd rfl hc4
      done
     ·refine zQ (zO (zC (zB (zI rfl rfl rfl (fun w => jO w (jF _ om om)) ?_))))
      refine zF rfl rfl (zA (qR (k + 1) om tdo sbn sbl))
    ·refine kI (zT (zT (jK (zC (zD (zB (zE rfl rfl (zE rfl rfl (zA (zC (zD (zB (zP rfl rfl F.fi27_0 F.ti25 ?_)))))))))))))
     refine jE rfl rfl F.one25 ?_
     refine zE rfl rfl (zA (zC (zD (zD (zB (zF rfl rfl (jX rfl rfl Try.underlying25 ?_)))))))
     refine zF rfl rfl (zA (zC (zV (vT (G := Nat × Option Addr × Nat × Nat) (fun g => g.1 <= os.length) (fun g => os.length - g.1) (fun g => [(2, .pointer (some ⟨b2, 0, none⟩)), (11, .int .i64 (buyI (buyN fs kiln days os g.1))), (12, .int .i64 ((buyF (buyN fs kiln days os g.1) : Nat) : Int)), (13, .slice fA fs.length fc), (47, .slice oA os.length oc), (48, .int .i64 (os.length : Int)), (49, .int .i64 (g.1 : Int))]) (fun g => [.blk b2 (.cells [.slice g.2.1 g.2.2.1 g.2.2.2, .int .i64 (kiln : Int), .slice dA days.length dc].toArray 27 (0, 0))]) (0, fA, fs.length, fc) (Nat.zero_le _) sbn pkk ?_))))
     rintro ⟨k, X, xn, xc⟩ hkk
     dsimp only at hkk ⊢
     refine zD (zB (zI rfl rfl rfl kG ?_))
     refine zA (zC (zD (zR rfl (fun hc5 => ?_) (fun hc5 => ?_))))
     ·have hk' : k < os.length := by omega
      obtain ⟨bf, bo, hoA, hbf, hcf⟩ := hO om
      obtain ⟨f, hx⟩ : ∃ x, os[k]? = some x := ⟨_, List.getElem?_eq_getElem hk'⟩
      have hfok := ho f (List.mem_of_getElem? hx)
      obtain ⟨pw, gn, nw, wd⟩ := f
      have hgd : os.getD k default = (⟨pw, gn, nw, wd⟩ : Flt) := by rw [List.getD_eq_getElem?_getD, hx]; rfl
      have hsucc : buyN fs kiln days os (k + 1) = if (bstA (fs ++ [(⟨pw, gn, nw, wd⟩ : Flt)]) kiln days).is = true ∧ (∀ p, buyN fs kiln days os k = some p -> (bstA (fs ++ [(⟨pw, gn, nw, wd⟩ : Flt)]) kiln days).f < p.2) then some (k, (bstA (fs ++ [(⟨pw, gn, nw, wd⟩ : Flt)]) kiln days).f) else buyN fs kiln days os k := by rw [<- hgd]; rfl
      have hbf2 := (anyS none none 0 0 kiln (fs ++ [(⟨pw, gn, nw, wd⟩ : Flt)]) days).bst_le (zEr (hc.more hn2 hfok)) days.length (start (fs ++ [(⟨pw, gn, nw, wd⟩ : Flt)]))
      refine zQ (zC (zD (zV (zD (zB (zF rfl rfl (qE (j := k) rfl (show _ = some (Value.slice (some ⟨bf, bo, none⟩) os.length oc) from by rw [<- hoA]; rfl) rfl Try.underlying25 F.ti49 rfl hk' ?_)))))))
      refine qS (l := [.int .i64 (pw : Int), .int .i64 (gn : Int), .int .i64 (nw : Int), .bool wd]) rfl rfl F.agg49 F.ti49 rfl (fun a w ha j u hu => ha.old (hcf k _ hx j u hu) hbf) ?_
      refine jA rfl F.ti49 ?_
      intro b15
      refine zE rfl rfl (zK rfl rfl F.ti49 rfl ?_)
      refine zA (zC (zD (kJ [.b b2] F.follows 11 rfl [false, false, false, false, false, false, false, false, false, false, false] rfl ?_)))
      refine zG 0 rfl rfl rfl (jC rfl) ?_
      refine zG 1 rfl rfl rfl (jC rfl) ?_
      refine zG 2 rfl rfl rfl (zB1 rfl Try.underlying25) ?_
      refine zG 3 rfl rfl rfl (jC rfl) ?_
      refine zG 4 rfl rfl rfl (zB1 rfl Try.underlying25) ?_
      refine zG 5 rfl rfl rfl (wB (k := fs.length) rfl rfl rfl Try.underlying25 F.ti49 hcap) ?_
      refine zG 6 rfl rfl rfl (qJ rfl F.agg49 F.ti49) ?_
      refine an1 7 rfl ?_
      refine yX (vs := [(0, .agg ([.int .i64 (pw : Int), .int .i64 (gn : Int), .int .i64 (nw : Int), .bool wd] : List Value).toArray)]) [.int .i64 (pw : Int), .int .i64 (gn : Int), .int .i64 (nw : Int), .bool wd] rfl rfl Try.underlying25 F.ti49 rfl rfl rfl (Lit.agg (l1 := [.int .i64 (pw : Int), .int .i64 (gn : Int), .int .i64 (nw : Int), .bool wd]) (l := []) rfl rfl) ?_
      intro b61
      refine zA (anb (an1 8 rfl ?_))
      refine zCg (olds := fs.flatMap Flt.cells) (news := [.int .i64 (pw : Int), .int .i64 (gn : Int), .int .i64 (nw : Int), .bool wd]) rfl rfl rfl Try.underlying25 F.ti49 rfl rfl rfl Nat.one_pos (fun h => by obtain ⟨b', o', e, _⟩ := hF hc.f1; rw [e] at h; cases h) (zAh fs) (fun a w ha p' hp' j u hu => ?_) (by unfold maxLen; omega) om ?_
      ·subst hp'
       exact zIq (hF.later ha.below) j u hu
      intro A1 c1
      refine zA (anb (zG 9 rfl rfl rfl (jS rfl F.fi27_0 F.ti25) ?_))
      refine an1 10 rfl ?_
      refine zK rfl rfl F.ti25 rfl ?_
      refine zA (anb (adn (zC (zD ?_))))
      rcases his : (bstA (fs ++ [(⟨pw, gn, nw, wd⟩ : Flt)]) kiln days).is with _ | _
      ·refine zB (zX rfl rfl F.agg27 F.ti27 ?_)
       refine kD (vs := [(0, _)]) (l' := [_, _, _]) rfl rfl F.ti77 F.pl77 (.cons rfl rfl (.nil _)) rfl ?_
       refine jR (X := Nat × Nat) (vs := [_]) (p := fun _ => True) (val := fun g => .pointer (some ⟨g.1, 0, none⟩)) (rs := fun g => [.blk g.1 (.cells [.slice A1 (fs.length + 1) c1, .int .i64 (kiln : Int), .slice dA days.length dc, .func (.func 66) [].toArray [].toArray, .func (.func 67) [].toArray [].toArray, .map (some g.2)].toArray 101 (0, 0)), .blk g.2 (KS.obj [])]) rfl rfl F.ent48 (fun a w ha => by
        have h9 := zDs A1 dA c1 days.length dc kiln (fs ++ [(⟨pw, gn, nw, wd⟩ : Flt)]) w
        rw [show (fs ++ [(⟨pw, gn, nw, wd⟩ : Flt)]).length = fs.length + 1 from by simp] at h9
        exact h9.mono (fun e w' h => by obtain ⟨b, km, h1, h2⟩ := h; exact ⟨(b, km), trivial, h1, h2⟩)) ?_
       rintro ⟨sb, km⟩ -
       dsimp only [List.cons_append, List.nil_append]
       have hfl : (fs ++ [(⟨pw, gn, nw, wd⟩ : Flt)]).length = fs.length + 1 := by simp
       refine qY (X := Option Addr × Nat × List Meta × List (Spot × Value)) (first := []) (cap := []) (vs := [_]) (p := fun _ => True) (val := fun g => .tuple #[.slice none 0 0, .int .i64 0, .bool false]) (rs := fun g => .row 49 4 A1 (fs.length + 1) c1 (fs.flatMap Flt.cells ++ [.int .i64 (pw : Int), .int .i64 (gn : Int), .int .i64 (nw : Int), .bool wd]) :: .blk b15 (.cells [.int .i64 (pw : Int), .int .i64 (gn : Int), .int .i64 (nw : Int), .bool wd].toArray 49 (0, 0)) :: .blk b2 (.cells [.slice A1 (fs.length + 1) c1, .int .i64 (kiln : Int), .slice dA days.length dc].toArray 27 (0, 0)) :: (.row 22 1 g.1 g.2.2.1.length g.2.1 (g.2.2.1.reverse.map mcell) :: .blk km (KS.obj g.2.2.2) :: .blk sb (.cells [.slice A1 (fs.length + 1) c1, .int .i64 (kiln : Int), .slice dA days.length dc, .func (.func 66) [].toArray [].toArray, .func (.func 67) [].toArray [].toArray, .map (some km)].toArray 101 (0, 0)) :: g.2.2.1.map mrow)) rfl rfl rfl F.ent49 (fun a w ha => ?_) ?_
       ·have h9 := zC2 (s := (anyS A1 dA c1 dc kiln (fs ++ [(⟨pw, gn, nw, wd⟩ : Flt)]) days)) (zEr (hc.more hn2 hfok)) (T := [.row 49 4 A1 (fs.length + 1) c1 (fs.flatMap Flt.cells ++ [.int .i64 (pw : Int), .int .i64 (gn : Int), .int .i64 (nw : Int), .bool wd]), .blk b15 (.cells [.int .i64 (pw : Int), .int .i64 (gn : Int), .int .i64 (nw : Int), .bool wd].toArray 49 (0, 0)), .blk b2 (.cells [.slice A1 (fs.length + 1) c1, .int .i64 (kiln : Int), .slice dA days.length dc].toArray 27 (0, 0))]) (km := km) (sb := sb) (KnOk.nil _) (zH4 (zI6 (n := fs.length + 1) (c := c1) (by rw [List.flatMap_append]; exact List.mem_cons_self ..) hfl) (zG4 hD)) (by unfold Srch.cells anyS; rw [hfl]; exact ha.pck pkk)
        refine h9.mono ?_
        rintro e w' ⟨kn', oA', oc', mr, hcase, hk, hA⟩
        unfold Srch.cells anyS at hA
        rw [hfl] at hA
        have hB := hA.permed zI4
        rcases hcase with ⟨h1, h2, h3⟩ | ⟨h1, h2, h3⟩
        ·exact absurd (his.symm.trans h1) (by simp)
        ·exact ⟨(oA', oc', mr, kn'), trivial, h3, hB⟩
       rintro ⟨oA', oc', mr, kn'⟩ hp
       dsimp only at hp ⊢
       refine zF rfl rfl (zL rfl rfl rfl (zL rfl rfl rfl (zL rfl rfl rfl (zE rfl rfl (zE rfl rfl (zE rfl rfl (zA (zC (zD (zB (zF rfl rfl (zF rfl rfl (jJ rfl rfl rfl (jJ rfl rfl rfl (jJ rfl rfl rfl (kP rfl rfl rfl (kP rfl rfl rfl (kP rfl rfl rfl (jJ rfl rfl rfl (zY rfl rfl rfl (zA (zC (jL rfl ?_)))))))))))))))))))))))
       refine zQ (zO (zC (zB (zI rfl rfl rfl (fun w => jO w (jF _ om om)) ?_))))
       refine zF rfl rfl (zA (qU (k + 1, A1, fs.length + 1, c1) tdo tdo (by (try dsimp only); rw [hsucc, if_neg (by rw [his]; simp)]; repeat (first | exact Sub.nil _ | refine Sub.cons rfl ?_)) pkk))
      ·refine zB (zX rfl rfl F.agg27 F.ti27 ?_)
       refine kD (vs := [(0, _)]) (l' := [_, _, _]) rfl rfl F.ti77 F.pl77 (.cons rfl rfl (.nil _)) rfl ?_
       refine jR (X := Nat × Nat) (vs := [_]) (p := fun _ => True) (val := fun g => .pointer (some ⟨g.1, 0, none⟩)) (rs := fun g => [.blk g.1 (.cells [.slice A1 (fs.length + 1) c1, .int .i64 (kiln : Int), .slice dA days.length dc, .func (.func 66) [].toArray [].toArray, .func (.func 67) [].toArray [].toArray, .map (some g.2)].toArray 101 (0, 0)), .blk g.2 (KS.obj [])]) rfl rfl F.ent48 (fun a w ha => by
        have h9 := zDs A1 dA c1 days.length dc kiln (fs ++ [(⟨pw, gn, nw, wd⟩ : Flt)]) w
        rw [show (fs ++ [(⟨pw, gn, nw, wd⟩ : Flt)]).length = fs.length + 1 from by simp] at h9
        exact h9.mono (fun e w' h => by obtain ⟨b, km, h1, h2⟩ := h; exact ⟨(b, km), trivial, h1, h2⟩)) ?_
       rintro ⟨sb, km⟩ -
       dsimp only [List.cons_append, List.nil_append]
       have hfl : (fs ++ [(⟨pw, gn, nw, wd⟩ : Flt)]).length = fs.length + 1 := by simp
       refine qY (X := Option Addr × Nat × List Meta × List (Spot × Value)) (first := []) (cap := []) (vs := [_]) (p := fun _ => True) (val := fun g => .tuple #[.slice g.1 g.2.2.1.length g.2.1, .int .i64 (((bstA (fs ++ [(⟨pw, gn, nw, wd⟩ : Flt)]) kiln days).f : Nat) : Int), .bool true]) (rs := fun g => .row 49 4 A1 (fs.length + 1) c1 (fs.flatMap Flt.cells ++ [.int .i64 (pw : Int), .int .i64 (gn : Int), .int .i64 (nw : Int), .bool wd]) :: .blk b15 (.cells [.int .i64 (pw : Int), .int .i64 (gn : Int), .int .i64 (nw : Int), .bool wd].toArray 49 (0, 0)) :: .blk b2 (.cells [.slice A1 (fs.length + 1) c1, .int .i64 (kiln : Int), .slice dA days.length dc].toArray 27 (0, 0)) :: (.row 22 1 g.1 g.2.2.1.length g.2.1 (g.2.2.1.reverse.map mcell) :: .blk km (KS.obj g.2.2.2) :: .blk sb (.cells [.slice A1 (fs.length + 1) c1, .int .i64 (kiln : Int), .slice dA days.length dc, .func (.func 66) [].toArray [].toArray, .func (.func 67) [].toArray [].toArray, .map (some km)].toArray 101 (0, 0)) :: g.2.2.1.map mrow)) rfl rfl rfl F.ent49 (fun a w ha => ?_) ?_
       ·have h9 := zC2 (s := (anyS A1 dA c1 dc kiln (fs ++ [(⟨pw, gn, nw, wd⟩ : Flt)]) days)) (zEr (hc.more hn2 hfok)) (T := [.row 49 4 A1 (fs.length + 1) c1 (fs.flatMap Flt.cells ++ [.int .i64 (pw : Int), .int .i64 (gn : Int), .int .i64 (nw : Int), .bool wd]), .blk b15 (.cells [.int .i64 (pw : Int), .int .i64 (gn : Int), .int .i64 (nw : Int), .bool wd].toArray 49 (0, 0)), .blk b2 (.cells [.slice A1 (fs.length + 1) c1, .int .i64 (kiln : Int), .slice dA days.length dc].toArray 27 (0, 0))]) (km := km) (sb := sb) (KnOk.nil _) (zH4 (zI6 (n := fs.length + 1) (c := c1) (by rw [List.flatMap_append]; exact List.mem_cons_self ..) hfl) (zG4 hD)) (by unfold Srch.cells anyS; rw [hfl]; exact ha.pck pkk)
        refine h9.mono ?_
        rintro e w' ⟨kn', oA', oc', mr, hcase, hk, hA⟩
        unfold Srch.cells anyS at hA
        rw [hfl] at hA
        have hB := hA.permed zI4
        rcases hcase with ⟨h1, h2, h3⟩ | ⟨h1, h2, h3⟩
        ·exact ⟨(oA', oc', mr, kn'), trivial, h3, hB⟩
        ·exact absurd (his.symm.trans h1) (by simp)
       rintro ⟨oA', oc', mr, kn'⟩ hp
       dsimp only at hp ⊢
       refine zF rfl rfl (zL rfl rfl rfl (zL rfl rfl rfl (zL rfl rfl rfl (zE rfl rfl (zE rfl rfl (zE rfl rfl (zA (zC (zD ?_)))))))))
       have hif := hsucc
       have hle2 := zNk (fs := fs) (kiln := kiln) (days := days) (os := os) k
       rcases hbn : buyN fs kiln days os k with _ | ⟨bi, bfr⟩
       ·refine zB (zF rfl rfl (zF rfl rfl (zJ rfl rfl (zF rfl rfl (zJ rfl rfl (zI rfl rfl rfl kG ?_))))))
        refine zJ rfl rfl (zF rfl rfl (jJ rfl rfl rfl (jJ rfl rfl rfl (jJ rfl rfl rfl (zJ rfl rfl (jD rfl rfl rfl (jD rfl rfl rfl (zA (zC (jZ rfl (zB (zF rfl rfl (zF rfl rfl (zE rfl rfl (zE rfl rfl (zA (zO (zC (zB (zI rfl rfl rfl (fun w => jO w (jF _ om om)) ?_))))))))))))))))))))
        refine zF rfl rfl (zA (qU (k + 1, A1, fs.length + 1, c1) tdo tdo (by (try dsimp only); rw [hsucc, if_pos ⟨his, fun p hp => by rw [hbn] at hp; cases hp⟩]; repeat (first | exact Sub.nil _ | refine Sub.cons rfl ?_)) pkk))
       ·refine zB (zF rfl rfl (zF rfl rfl (zJ rfl rfl (zF rfl rfl (zJ rfl rfl (zI (v := .bool false) rfl rfl rfl (fun w => by rw [kG]; rw [show decide (buyI (some (bi, bfr)) < 0) = false from decide_eq_false (by dsimp only [buyI]; omega)]) ?_))))))
        refine zJ rfl rfl (zF rfl rfl (zJ rfl rfl (zF rfl rfl (zJ rfl rfl (zF rfl rfl (zJ rfl rfl (zI rfl rfl rfl kG ?_)))))))
        refine zJ rfl rfl (zY rfl rfl rfl (jD rfl rfl rfl (zA (zC (zR rfl (fun hc6 => ?_) (fun hc6 => ?_))))))
        ·dsimp only [buyF] at hc6
         refine zB (zF rfl rfl (zF rfl rfl (zE rfl rfl (zE rfl rfl (zA (zO (zC (zB (zI rfl rfl rfl (fun w => jO w (jF _ om om)) ?_)))))))))
         refine zF rfl rfl (zA (qU (k + 1, A1, fs.length + 1, c1) tdo tdo (by (try dsimp only); rw [hsucc, if_pos ⟨his, fun p hp => by rw [hbn] at hp; cases hp; omega⟩]; repeat (first | exact Sub.nil _ | refine Sub.cons rfl ?_)) pkk))
        ·dsimp only [buyF] at hc6
         refine zQ (zO (zC (zB (zI rfl rfl rfl (fun w => jO w (jF _ om om)) ?_))))
         refine zF rfl rfl (zA (qU (k + 1, A1, fs.length + 1, c1) tdo tdo (by (try dsimp only); rw [hsucc, if_neg (by rintro ⟨_, h⟩; have := h _ hbn; omega), hbn]; repeat (first | exact Sub.nil _ | refine Sub.cons rfl ?_)) pkk))
     ·obtain rfl : k = os.length := by omega
      refine kI (zT (zT (jK (zC (zD (zD ?_))))))
      rcases hbn : buyN fs kiln days os os.length with _ | ⟨bi, bfr⟩
      ·refine zB (zF rfl rfl (zI rfl rfl rfl kG ?_))
       refine zA (zC (jZ rfl (zD (zB (zE rfl rfl (zE rfl rfl (zE rfl rfl (zA (zC (zZ (zU ?_)))))))))))
       exact jI rfl (fun a w ha => xE rfl rfl rfl rfl ha) (fun a w ha => ⟨by rfl, ha.grown nsl⟩)
      ·refine zB (zF rfl rfl (zI (v := .bool false) rfl rfl rfl (fun w => by rw [kG]; rw [show decide (buyI (some (bi, bfr)) < 0) = false from decide_eq_false (by dsimp only [buyI]; omega)]) ?_))
       refine zA (zC (jL rfl (zQ (zC (zD (zB (zF rfl rfl (zF rfl rfl (zE rfl rfl (zE rfl rfl (zE rfl rfl (zA (zC (zZ ?_))))))))))))))
       exact jI rfl (fun a w ha => xE rfl rfl rfl rfl ha) (fun a w ha => ⟨by rfl, ha.grown nsl⟩)

end Go.Proofs.Yteppiphdbondeaa.N
namespace Go.Proofs.Yteppiphdbondeaa.N
open Go Go.RowKit Go.Proofs
set_option linter.unusedSectionVars false
def hfs : List Flt := [⟨3, 1, 3, false⟩, ⟨2, 1, 1, false⟩]
def hds : List Nat := [3, 2, 3]
def tfs : List Flt := [⟨2, 1, 1, false⟩, ⟨2, 1, 1, false⟩]
def tds : List Nat := [1, 1]
def jbs : List (List Nat) := [[0, 2], [3, 0], [0, 0]]
def ofs : List Flt := [⟨2, 0, 2, false⟩]
theorem zJg : bstA hfs 1 hds = ⟨1, 1, true⟩ := by kernel_rfl
theorem zU5 : planA hfs 1 hds = jbs := by kernel_rfl
theorem zLv : bstG tfs 1 tds = ⟨2, 0, true⟩ := by kernel_rfl
theorem zRm : planG tfs 1 tds = [[0, 3], [3, 0]] := by kernel_rfl
theorem zV6 : buyN hfs 0 hds ofs 1 = some (0, 0) := by kernel_rfl
theorem zUn : verdO (bstF hfs 1 hds 0 1 true) (bstF hfs 1 hds 0 1 false) = (1, 0) := by kernel_rfl
theorem zT7 : workE hfs 1 hds (jbs.map fun l => l.map fun (n : Nat) => (n : Int)) = (0, [[3, 1], [0, 2], [3, 0], [0, 0]], 1) := by kernel_rfl
def stpL (fs : List Flt) (kiln : Nat) (l : List Mor) (d : Nat) : List Mor := l.flatMap fun m => (exts [] fs.length).filterMap fun acts => if (dayE fs kiln m acts d).1 = 0 then some (dayE fs kiln m acts d).2 else none
def rchM (fs : List Flt) (kiln : Nat) (days : List Nat) : List Mor := days.foldl (stpL fs kiln) [start fs]
theorem zSd {fs : List Flt} {kiln d : Nat} {l : List Mor} {S : Mor -> Prop} (h : ∀ m, m ∈ l ↔ S m) : ∀ m, m ∈ stpL fs kiln l d ↔ stp fs kiln S d m := fun x => by
 unfold stpL stp
 rw [List.mem_flatMap]
 constructor
 ·rintro ⟨m, hm, h2⟩
  obtain ⟨acts, ha, h3⟩ := List.mem_filterMap.1 h2
  split at h3
  ·rename_i h0
   cases h3
   exact ⟨m, (h m).1 hm, acts, ha, Prod.ext h0 rfl⟩
  ·cases h3
 ·rintro ⟨m, hm, acts, ha, h2⟩
  exact ⟨m, (h m).2 hm, List.mem_filterMap.2 ⟨acts, ha, by rw [h2]; rfl⟩⟩
theorem zMb {fs : List Flt} {kiln : Nat} : ∀ (days : List Nat) (l : List Mor) (S : Mor -> Prop), (∀ m, m ∈ l ↔ S m) -> ∀ m, m ∈ days.foldl (stpL fs kiln) l ↔ days.foldl (stp fs kiln) S m
 | [], _, _, h => h
 | _ :: days, _, _, h => zMb days _ _ (zSd h)
theorem zYv {fs : List Flt} {kiln : Nat} {days : List Nat} {m : Mor} : m ∈ rchM fs kiln days ↔ Rch fs kiln days m := zMb days _ _ (fun m => by simp) m
theorem zYr : (rchM hfs 0 [3]).isEmpty = false := by kernel_rfl
theorem zX6 : (rchM hfs 0 [3, 2]).isEmpty = false := by kernel_rfl
theorem zX1 : (rchM hfs 0 [3, 2, 3]).isEmpty = true := by kernel_rfl
theorem hv {k : Nat} (hk : k <= 3) : ChV hfs k hds := ⟨by decide, by decide, by unfold FltOk; decide, hk, by decide, by decide, by decide⟩
theorem tv1 : ChV tfs 1 tds := ⟨by decide, by decide, by unfold FltOk; decide, by decide, by decide, by decide, by decide⟩
theorem zNi {α : Type} [DecidableEq α] {l m : List α} {k : Nat} (h1 : k <= l.length) (h2 : k <= m.length) (h3 : l.take k = m.take k) (h4 : ¬ (k < l.length ∧ k < m.length)) : decide (l = m) = decide ((l.length : Int) = (m.length : Int)) := by
 rw [decide_eq_decide]
 constructor
 ·rintro rfl; rfl
 ·intro e
  have e1 : k = l.length := by omega
  have e2 : k = m.length := by omega
  rw [e1, List.take_length, <- e1, e2, List.take_length] at h3
  exact h3
end Go.Proofs.Yteppiphdbondeaa.N
namespace Go.Proofs.Yteppiphdbondeaa.N
open Go Go.RowKit Go.Proofs
set_option linter.unusedSectionVars false
variable [I : Sys]
theorem F.ent46 : Enters Try.prog 46 := jG Try.func46 rfl (by kernel_rfl)
theorem F.pl27 : Places Try.prog 27 [(0, 1), (1, 1), (2, 1)] := .inl ⟨_, Try.underlying27, by kernel_rfl⟩
theorem F.pl49 : Places Try.prog 49 [(0, 1), (1, 1), (2, 1), (3, 1)] := .inl ⟨_, Try.underlying49, by kernel_rfl⟩
theorem zGw {A B : Option Addr} {ca cb : Nat} {l m : List Int} (hl : l.length < 1000000) (hm : m.length < 1000000) (w : World) (hA : RdL zcell 1 w A l) (hB : RdL zcell 1 w B m) : Calls Try.prog 46 #[.slice A l.length ca, .slice B m.length cb] w fun e w' => e = .returned (.bool (decide (l = m))) ∧ Grew w w' [] := by
 refine enter (N := 32) [(0, .slice A l.length ca), (1, .slice B m.length cb)] Try.func46 rfl Try.ntmps46 rfl rfl ?_
 refine zD (zB (zE rfl rfl (zA (zC (zD (zD (zB (zE rfl rfl (zA (zC (zV (xM (G := Nat) (fun k => k <= l.length ∧ k <= m.length ∧ l.take k = m.take k) (fun k => l.length - k) (fun k => [(0, .slice A l.length ca), (1, .slice B m.length cb), (5, .int .i64 (k : Int))]) (fun k => []) 0 ⟨Nat.zero_le _, Nat.zero_le _, rfl⟩ sbn sbl ?_))))))))))))
 intro k hk
 (try dsimp only at hk ⊢)
 refine zD (zD (zB (wS 10 15 (.bool (decide (k < l.length ∧ k < m.length))) ?_ ?_)))
 ·refine zF rfl rfl (zF rfl rfl (jX rfl rfl Try.underlying22 ?_))
  refine zI rfl rfl rfl kG ?_
  refine zF rfl rfl (wA (t := 10) rfl (fun hg10 => ?_) (fun hg10 => ?_))
  ·refine zJ rfl rfl (zF rfl rfl (zJ rfl rfl (zF rfl rfl (zJ rfl rfl (jX rfl rfl Try.underlying22 ?_)))))
   refine zJ rfl rfl (zI rfl rfl rfl kG ?_)
   refine jD rfl rfl rfl (zA ?_)
   exact xQ (.cons (by simp_all [look] <;> omega) sbn) sbl
  ·refine jJ rfl rfl rfl (jJ rfl rfl rfl (jJ rfl rfl rfl (jJ rfl rfl rfl (zY rfl rfl rfl (zA ?_)))))
   exact xQ (.cons (by simp_all [look] <;> omega) sbn) sbl
 refine zA (zC (zR rfl (fun hc0 => ?_) (fun hc0 => ?_)))
 ·obtain ⟨hk1, hk2, hk3⟩ := hk
  obtain ⟨ba, oa, hAe, hba, hca⟩ := hA om
  obtain ⟨bb, ob, hBe, hbb, hcb⟩ := hB om
  obtain ⟨x, hx⟩ : ∃ x, l[k]? = some x := ⟨_, List.getElem?_eq_getElem hc0.1⟩
  obtain ⟨y, hy⟩ : ∃ x, m[k]? = some x := ⟨_, List.getElem?_eq_getElem hc0.2⟩
  refine zQ (zC (zD (zV (zD (kJ [] F.follows 9 rfl [false, false, false, false, false, false, false, false, false] rfl ?_)))))
  refine zG 0 rfl rfl rfl (jC rfl) ?_
  refine zG 1 rfl rfl rfl (jC rfl) ?_
  refine zG 2 rfl rfl rfl (kZ (j := k) (show _ = some (Value.slice (some ⟨ba, oa, none⟩) l.length ca) from by rw [<- hAe]; rfl) rfl Try.underlying22 F.ti3 rfl hc0.1) ?_
  refine zG 3 rfl rfl rfl (kK (v := .int .i64 x) rfl F.one3 (fun a w ha => ha.old (hca k x hx 0 _ rfl) hba)) ?_
  refine zG 4 rfl rfl rfl (jC rfl) ?_
  refine zG 5 rfl rfl rfl (jC rfl) ?_
  refine zG 6 rfl rfl rfl (kZ (j := k) (show _ = some (Value.slice (some ⟨bb, ob, none⟩) m.length cb) from by rw [<- hBe]; rfl) rfl Try.underlying22 F.ti3 rfl hc0.2) ?_
  refine zG 7 rfl rfl rfl (kK (v := .int .i64 y) rfl F.one3 (fun a w ha => ha.old (hcb k y hy 0 _ rfl) hbb)) ?_
  refine zG 8 rfl rfl rfl (qC rfl rfl jP) ?_
  refine adn (zC (zR rfl (fun hc1 => ?_) (fun hc1 => ?_)))
  ·refine zD (zB (zE rfl rfl (zA (zC (zZ (jQ (zU (zU (jQ (zU ?_))))))))))
   exact jI rfl (fun a w ha => jY rfl rfl ha) (fun a w ha => ⟨by rw [decide_eq_false (fun e => hc1 (by subst e; rw [hx] at hy; cases hy; rfl))], ha.grown nsl⟩)
  ·refine zQ (zO (zC (zB (zF rfl rfl (zI rfl rfl rfl (fun w => jO w (jF _ om om)) ?_)))))
   refine zE rfl rfl (zA (qR (k + 1) ⟨by omega, by omega, by rw [List.take_add_one, List.take_add_one, hx, hy, hk3]; rw [show x = y from by simpa using hc1]⟩ tdo sbn sbl))
 ·obtain ⟨hk1, hk2, hk3⟩ := hk
  refine kI (zT (zT (jK (zC (zD (zB (zF rfl rfl (jX rfl rfl Try.underlying22 ?_))))))))
  refine zF rfl rfl (jX rfl rfl Try.underlying22 ?_)
  refine zI rfl rfl rfl kC ?_
  refine zE rfl rfl (zA (zC (zZ ?_)))
  exact jI rfl (fun a w ha => jY rfl rfl ha) (fun a w ha => ⟨by rw [zNi hk1 hk2 hk3 hc0], ha.grown nsl⟩)

theorem zCf {A B : Option Addr} {ca cb : Nat} {l m : List MetaZ} (hl : l.length < 1000000) (hm : m.length < 1000000) (hl2 : ∀ x ∈ l, x.2.2.length < 1000000) (hm2 : ∀ x ∈ m, x.2.2.length < 1000000) (w : World) (hA : RdZ w A l) (hB : RdZ w B m) : Calls Try.prog 21 #[.slice A l.length ca, .slice B m.length cb] w fun e w' => e = .returned (.bool (decide (l.map (·.2.2) = m.map (·.2.2)))) ∧ Grew w w' [] := by
 refine enter (N := 33) [(0, .slice A l.length ca), (1, .slice B m.length cb)] Try.func21 rfl Try.ntmps21 rfl rfl ?_
 refine zD (zB (zE rfl rfl (zA (zC (zD (zD (zB (zE rfl rfl (zA (zC (zV (xM (G := Nat) (fun k => k <= l.length ∧ k <= m.length ∧ (l.map (·.2.2)).take k = (m.map (·.2.2)).take k) (fun k => l.length - k) (fun k => [(0, .slice A l.length ca), (1, .slice B m.length cb), (5, .int .i64 (k : Int))]) (fun k => []) 0 ⟨Nat.zero_le _, Nat.zero_le _, rfl⟩ sbn sbl ?_))))))))))))
 intro k hk
 (try dsimp only at hk ⊢)
 refine zD (zD (zB (wS 10 15 (.bool (decide (k < l.length ∧ k < m.length))) ?_ ?_)))
 ·refine zF rfl rfl (zF rfl rfl (jX rfl rfl Try.underlying29 ?_))
  refine zI rfl rfl rfl kG ?_
  refine zF rfl rfl (wA (t := 10) rfl (fun hg10 => ?_) (fun hg10 => ?_))
  ·refine zJ rfl rfl (zF rfl rfl (zJ rfl rfl (zF rfl rfl (zJ rfl rfl (jX rfl rfl Try.underlying29 ?_)))))
   refine zJ rfl rfl (zI rfl rfl rfl kG ?_)
   refine jD rfl rfl rfl (zA ?_)
   exact xQ (.cons (by simp_all [look] <;> omega) sbn) sbl
  ·refine jJ rfl rfl rfl (jJ rfl rfl rfl (jJ rfl rfl rfl (jJ rfl rfl rfl (zY rfl rfl rfl (zA ?_)))))
   exact xQ (.cons (by simp_all [look] <;> omega) sbn) sbl
 refine zA (zC (zR rfl (fun hc0 => ?_) (fun hc0 => ?_)))
 ·obtain ⟨hk1, hk2, hk3⟩ := hk
  obtain ⟨ba, oa, hAe, hba, hca⟩ := hA.outer om
  obtain ⟨bb, ob, hBe, hbb, hcb⟩ := hB.outer om
  obtain ⟨x, hx⟩ : ∃ x, l[k]? = some x := ⟨_, List.getElem?_eq_getElem hc0.1⟩
  obtain ⟨y, hy⟩ : ∃ x, m[k]? = some x := ⟨_, List.getElem?_eq_getElem hc0.2⟩
  have hix := hA.inner x (List.mem_of_getElem? hx)
  have hiy := hB.inner y (List.mem_of_getElem? hy)
  have hlx := hl2 x (List.mem_of_getElem? hx)
  have hly := hm2 y (List.mem_of_getElem? hy)
  obtain ⟨xA, xc, xl⟩ := x
  obtain ⟨yA, yc, yl⟩ := y
  dsimp only at hix hiy hlx hly
  have hxm : (l.map (·.2.2))[k]? = some xl := by rw [List.getElem?_map, hx]; rfl
  have hym : (m.map (·.2.2))[k]? = some yl := by rw [List.getElem?_map, hy]; rfl
  refine zQ (zC (zD (zV (zD (kJ [] F.follows 10 rfl [false, false, false, false, false, false, false, false, false, false] rfl ?_)))))
  refine zG 0 rfl rfl rfl (jC rfl) ?_
  refine zG 1 rfl rfl rfl (jC rfl) ?_
  refine zG 2 rfl rfl rfl (kZ (j := k) (show _ = some (Value.slice (some ⟨ba, oa, none⟩) l.length ca) from by rw [<- hAe]; rfl) rfl Try.underlying29 F.ti22 rfl hc0.1) ?_
  refine zG 3 rfl rfl rfl (kK (v := .slice xA xl.length xc) rfl F.one22 (fun a w ha => ha.old (hca k _ hx 0 _ rfl) hba)) ?_
  refine zG 4 rfl rfl rfl (jC rfl) ?_
  refine zG 5 rfl rfl rfl (jC rfl) ?_
  refine zG 6 rfl rfl rfl (kZ (j := k) (show _ = some (Value.slice (some ⟨bb, ob, none⟩) m.length cb) from by rw [<- hBe]; rfl) rfl Try.underlying29 F.ti22 rfl hc0.2) ?_
  refine zG 7 rfl rfl rfl (kK (v := .slice yA yl.length yc) rfl F.one22 (fun a w ha => ha.old (hcb k _ hy 0 _ rfl) hbb)) ?_
  refine an1 8 rfl ?_
  refine zW (v := .bool (decide (xl = yl))) (vs := [_, _]) rfl rfl F.ent46 (fun a w ha => zGw hlx hly w (hix.later ha.below) (hiy.later ha.below)) ?_
  refine zA (anb (zG 9 rfl rfl rfl (zIc rfl) ?_))
  refine adn (zC (kV rfl (fun hc1 => ?_) (fun hc1 => ?_)))
  ·refine zD (zB (zE rfl rfl (zA (zC (zZ (jQ (zU (zU (jQ (zU ?_))))))))))
   exact jI rfl (fun a w ha => jY rfl rfl ha) (fun a w ha => ⟨by rw [decide_eq_false (fun e => by rw [e, hym] at hxm; cases hxm; simp at hc1)], ha.grown nsl⟩)
  ·refine zQ (zO (zC (zB (zF rfl rfl (zI rfl rfl rfl (fun w => jO w (jF _ om om)) ?_)))))
   refine zE rfl rfl (zA (qR (k + 1) ⟨by omega, by omega, by rw [List.take_add_one, List.take_add_one, hxm, hym, hk3]; rw [show xl = yl from by simpa using hc1]⟩ tdo sbn sbl))
 ·obtain ⟨hk1, hk2, hk3⟩ := hk
  refine kI (zT (zT (jK (zC (zD (zB (zF rfl rfl (jX rfl rfl Try.underlying29 ?_))))))))
  refine zF rfl rfl (jX rfl rfl Try.underlying29 ?_)
  refine zI rfl rfl rfl kC ?_
  refine zE rfl rfl (zA (zC (zZ ?_)))
  exact jI rfl (fun a w ha => jY rfl rfl ha) (fun a w ha => ⟨by rw [zNi (l := l.map (·.2.2)) (m := m.map (·.2.2)) (by simpa using hk1) (by simpa using hk2) hk3 (by simpa using hc0)]; simp, ha.grown nsl⟩)

theorem kR (k : Nat) (w : World) : Calls Try.prog 42 #[.int .i64 (k : Int)] w fun e w' => ∃ b5 b7, e = .returned (.agg [.slice (some ⟨b5, 0, none⟩) 2 2, .int .i64 (k : Int), .slice (some ⟨b7, 0, none⟩) 3 3].toArray) ∧ Grew w w' [.blk b7 (.cells (ints hds).toArray 3 (0, 0)), .blk b5 (.cells (hfs.flatMap Flt.cells).toArray 49 (0, 0))] := by
 refine enter (N := 9) [(0, .int .i64 (k : Int))] Try.func42 rfl Try.ntmps42 rfl rfl ?_
 refine zD (zB (jA rfl F.ti27 ?_))
 intro b2
 refine zA (zC (zD (zB (kD (vs := [(0, _), (1, _), (2, _)]) (l' := [_, _, _, _]) rfl rfl F.ti49 F.pl49 (.cons rfl rfl (.cons rfl rfl (.cons rfl rfl (.nil _)))) rfl ?_))))
 refine kD (vs := [(0, _), (1, _), (2, _)]) (l' := [_, _, _, _]) rfl rfl F.ti49 F.pl49 (.cons rfl rfl (.cons rfl rfl (.cons rfl rfl (.nil _)))) rfl ?_
 refine yX (vs := [(0, .agg (Flt.cells ⟨3, 1, 3, false⟩).toArray), (1, .agg (Flt.cells ⟨2, 1, 1, false⟩).toArray)]) (hfs.flatMap Flt.cells) rfl rfl Try.underlying25 F.ti49 rfl rfl rfl (Lit.agg (l1 := Flt.cells ⟨3, 1, 3, false⟩) rfl (Lit.agg (l1 := Flt.cells ⟨2, 1, 1, false⟩) (l := []) rfl rfl)) ?_
 intro b5
 refine zF rfl rfl (jW (vs := [(0, _), (1, _), (2, _)]) rfl rfl Try.underlying22 F.ti3 rfl rfl rfl ?_)
 intro b7
 refine kD (vs := [(0, _), (1, _), (2, _)]) (l' := [_, _, _]) rfl rfl F.ti27 F.pl27 (.cons rfl rfl (.cons rfl rfl (.cons rfl rfl (.nil _)))) rfl ?_
 refine zK rfl rfl F.ti27 rfl ?_
 refine zA (zC (zZ ?_))
 exact jI rfl (fun a w ha => by exact xU (ha := ha) rfl rfl F.agg27 F.ti27 rfl) (fun a w ha => ⟨b5, b7, rfl, ha.grown (.cons_cons _ (.cons_cons _ nsl))⟩)

theorem zDj  (w : World) : Calls Try.prog 45 #[] w fun e w' => ∃ b5 b7, e = .returned (.agg [.slice (some ⟨b5, 0, none⟩) 2 2, .int .i64 1, .slice (some ⟨b7, 0, none⟩) 2 2].toArray) ∧ Grew w w' [.blk b7 (.cells (ints tds).toArray 3 (0, 0)), .blk b5 (.cells (tfs.flatMap Flt.cells).toArray 49 (0, 0))] := by
 refine enter (N := 6) [] Try.func45 rfl Try.ntmps45 rfl rfl ?_
 refine zD (zB (jA rfl F.ti27 ?_))
 intro b0
 refine zA (zC (zD (zB (kD (vs := [(0, _), (1, _), (2, _)]) (l' := [_, _, _, _]) rfl rfl F.ti49 F.pl49 (.cons rfl rfl (.cons rfl rfl (.cons rfl rfl (.nil _)))) rfl ?_))))
 refine kD (vs := [(0, _), (1, _), (2, _)]) (l' := [_, _, _, _]) rfl rfl F.ti49 F.pl49 (.cons rfl rfl (.cons rfl rfl (.cons rfl rfl (.nil _)))) rfl ?_
 refine yX (vs := [(0, .agg (Flt.cells ⟨2, 1, 1, false⟩).toArray), (1, .agg (Flt.cells ⟨2, 1, 1, false⟩).toArray)]) (tfs.flatMap Flt.cells) rfl rfl Try.underlying25 F.ti49 rfl rfl rfl (Lit.agg (l1 := Flt.cells ⟨2, 1, 1, false⟩) rfl (Lit.agg (l1 := Flt.cells ⟨2, 1, 1, false⟩) (l := []) rfl rfl)) ?_
 intro b5
 refine jW (vs := [(0, _), (1, _)]) rfl rfl Try.underlying22 F.ti3 rfl rfl rfl ?_
 intro b7
 refine kD (vs := [(0, _), (1, _), (2, _)]) (l' := [_, _, _]) rfl rfl F.ti27 F.pl27 (.cons rfl rfl (.cons rfl rfl (.cons rfl rfl (.nil _)))) rfl ?_
 refine zK rfl rfl F.ti27 rfl ?_
 refine zA (zC (zZ ?_))
 exact jI rfl (fun a w ha => by exact xU (ha := ha) rfl rfl F.agg27 F.ti27 rfl) (fun a w ha => ⟨b5, b7, rfl, ha.grown (.cons_cons _ (.cons_cons _ nsl))⟩)

theorem zKo  (w : World) : Calls Try.prog 44 #[] w fun e w' => ∃ b1 b2 b3 b4, e = .returned (.slice (some ⟨b4, 0, none⟩) 3 3) ∧ Grew w w' [.blk b4 (.cells [.slice (some ⟨b1, 0, none⟩) 2 2, .slice (some ⟨b2, 0, none⟩) 2 2, .slice (some ⟨b3, 0, none⟩) 2 2].toArray 22 (0, 0)), .blk b3 (.cells [.int .i64 0, .int .i64 0].toArray 3 (0, 0)), .blk b2 (.cells [.int .i64 3, .int .i64 0].toArray 3 (0, 0)), .blk b1 (.cells [.int .i64 0, .int .i64 2].toArray 3 (0, 0))] := by
 refine enter (N := 5) [] Try.func44 rfl Try.ntmps44 rfl rfl ?_
 refine zD (zB (zE rfl rfl (zA (zC (zD (zB (jW (vs := [(0, _), (1, _)]) rfl rfl Try.underlying22 F.ti3 rfl rfl rfl ?_)))))))
 intro b1
 refine jW (vs := [(0, _), (1, _)]) rfl rfl Try.underlying22 F.ti3 rfl rfl rfl ?_
 intro b2
 refine jW (vs := [(0, _), (1, _)]) rfl rfl Try.underlying22 F.ti3 rfl rfl rfl ?_
 intro b3
 refine jW (vs := [(0, _), (1, _), (2, _)]) rfl rfl Try.underlying29 F.ti22 rfl rfl rfl ?_
 intro b4
 refine zE rfl rfl (zA (zC (zZ ?_)))
 exact jI rfl (fun a w ha => jY rfl rfl ha) (fun a w ha => ⟨b1, b2, b3, b4, rfl, ha.grown (.cons_cons _ (.cons_cons _ (.cons_cons _ (.cons_cons _ nsl))))⟩)

end Go.Proofs.Yteppiphdbondeaa.N
namespace Go.Proofs.Yteppiphdbondeaa.N
open Go Go.RowKit Go.Proofs
set_option linter.unusedSectionVars false
theorem mr2 {l1 l2 : List Nat} {mr : List Meta} (h : mr.reverse.map (·.2.2) = [l1, l2]) : ∃ a b : Option Addr × Nat, mr = [(b.1, b.2, l2), (a.1, a.2, l1)] := by
 have hl : mr.length = 2 := by simpa using congrArg List.length h
 match mr, hl with
 | [(q1, q2, q3), (p1, p2, p3)], _ =>
  simp at h
  obtain ⟨rfl, rfl⟩ := h
  exact ⟨(p1, p2), (q1, q2), rfl⟩
theorem mr3 {l1 l2 l3 : List Nat} {mr : List Meta} (h : mr.reverse.map (·.2.2) = [l1, l2, l3]) : ∃ a b c : Option Addr × Nat, mr = [(c.1, c.2, l3), (b.1, b.2, l2), (a.1, a.2, l1)] := by
 have hl : mr.length = 3 := by simpa using congrArg List.length h
 match mr, hl with
 | [(r1, r2, r3), (q1, q2, q3), (p1, p2, p3)], _ =>
  simp at h
  obtain ⟨rfl, rfl, rfl⟩ := h
  exact ⟨(p1, p2), (q1, q2), (r1, r2), rfl⟩
theorem mr4 {l1 l2 l3 l4 : List Nat} {mr : List Meta} (h : mr.reverse.map (·.2.2) = [l1, l2, l3, l4]) : ∃ a b c d : Option Addr × Nat, mr = [(d.1, d.2, l4), (c.1, c.2, l3), (b.1, b.2, l2), (a.1, a.2, l1)] := by
 have hl : mr.length = 4 := by simpa using congrArg List.length h
 match mr, hl with
 | [(s1, s2, s3), (r1, r2, r3), (q1, q2, q3), (p1, p2, p3)], _ =>
  simp at h
  obtain ⟨rfl, rfl, rfl, rfl⟩ := h
  exact ⟨(p1, p2), (q1, q2), (r1, r2), (s1, s2), rfl⟩
theorem zB8 {fs : List Flt} {kiln : Nat} {days : List Nat} (h : (rchM fs kiln days).isEmpty = false) : ∃ m, Rch fs kiln days m := by
 cases hl : rchM fs kiln days with
 | nil => rw [hl] at h; cases h
 | cons m l => exact ⟨m, zYv.1 (by rw [hl]; simp)⟩
theorem zS7 {fs : List Flt} {kiln : Nat} {days : List Nat} (h : (rchM fs kiln days).isEmpty = true) (m : Mor) : ¬ Rch fs kiln days m := fun hm => by
 have := zYv.2 hm
 rw [List.isEmpty_iff.1 h] at this
 cases this
theorem zSu {P : Nat -> Prop} {q : Prop} (h : (∃ d, d < hds.length ∧ (∀ j, j < d -> ∃ m, Rch hfs 0 (hds.take (j + 1)) m) ∧ (∀ m, ¬ Rch hfs 0 (hds.take (d + 1)) m) ∧ P d) ∨ ((∀ j, j < hds.length -> ∃ m, Rch hfs 0 (hds.take (j + 1)) m) ∧ q)) : P 2 := by
 rcases h with ⟨d, h1, h2, h3, h4⟩ | ⟨h1, _⟩
 ·rcases d with _ | _ | _ | d
  ·obtain ⟨m, hm⟩ := zB8 zYr
   exact absurd hm (h3 m)
  ·obtain ⟨m, hm⟩ := zB8 zX6
   exact absurd hm (h3 m)
  ·exact h4
  ·exact absurd h1 (by simp [hds])
 ·obtain ⟨m, hm⟩ := h1 2 (by decide)
  exact absurd hm (zS7 zX1 m)
end Go.Proofs.Yteppiphdbondeaa.N
namespace Go.Proofs.Yteppiphdbondeaa.N
open Go Go.RowKit Go.Proofs
set_option linter.unusedSectionVars false
variable [I : Sys]
theorem F.ent15 : Enters Try.prog 15 := jG Try.func15 rfl (by kernel_rfl)
theorem F.ent17 : Enters Try.prog 17 := jG Try.func17 rfl (by kernel_rfl)
theorem F.ent19 : Enters Try.prog 19 := jG Try.func19 rfl (by kernel_rfl)
theorem F.ent21 : Enters Try.prog 21 := jG Try.func21 rfl (by kernel_rfl)
theorem F.ent23 : Enters Try.prog 23 := jG Try.func23 rfl (by kernel_rfl)
theorem F.ent28 : Enters Try.prog 28 := jG Try.func28 rfl (by kernel_rfl)
theorem F.ent33 : Enters Try.prog 33 := jG Try.func33 rfl (by kernel_rfl)
theorem F.ent42 : Enters Try.prog 42 := jG Try.func42 rfl (by kernel_rfl)
theorem F.ent44 : Enters Try.prog 44 := jG Try.func44 rfl (by kernel_rfl)
theorem F.ent45 : Enters Try.prog 45 := jG Try.func45 rfl (by kernel_rfl)
theorem zPq [R : ReaC] (w : World) (hR : RdC w) : Calls Try.prog 20 #[] w fun e w' => e = .returned (.bool true) ∧ Grew w w' [] := by
 refine enter (N := 125) [] Try.func20 rfl Try.ntmps20 rfl rfl ?_
 refine zD (zB (zE rfl rfl (zA (zC (zD (zB (jR (X := Nat × Nat) (vs := [_]) (p := fun _ => True) (val := fun g => .agg [.slice (some ⟨g.1, 0, none⟩) 2 2, .int .i64 1, .slice (some ⟨g.2, 0, none⟩) 3 3].toArray) (rs := fun g => [.blk g.2 (.cells (ints hds).toArray 3 (0, 0)), .blk g.1 (.cells (hfs.flatMap Flt.cells).toArray 49 (0, 0))]) rfl rfl F.ent42 (fun a w ha => (kR 1 w).mono (fun e w' h => by obtain ⟨b5, b7, h1, h2⟩ := h; exact ⟨(b5, b7), trivial, h1, h2⟩)) ?_)))))))
 rintro ⟨f1, d1⟩ -
 dsimp only [List.cons_append, List.nil_append]
 refine jR (X := Option Addr × Nat × (Option Addr × Nat) × (Option Addr × Nat) × (Option Addr × Nat)) (vs := [_]) (p := fun _ => True) (val := fun g => .tuple #[.slice g.1 3 g.2.1, .int .i64 1, .int .i64 0]) (rs := fun g => [.row 22 1 g.1 3 g.2.1 [.slice g.2.2.1.1 2 g.2.2.1.2, .slice g.2.2.2.1.1 2 g.2.2.2.1.2, .slice g.2.2.2.2.1 2 g.2.2.2.2.2], .row 3 1 g.2.2.2.2.1 2 g.2.2.2.2.2 (ints [0, 0]), .row 3 1 g.2.2.2.1.1 2 g.2.2.2.1.2 (ints [3, 0]), .row 3 1 g.2.2.1.1 2 g.2.2.1.2 (ints [0, 2])]) rfl rfl F.ent15 (fun a w ha => ?_) ?_
 ·refine (zGv (fA := some ⟨f1, 0, none⟩) (dA := some ⟨d1, 0, none⟩) (fc := 2) (dc := 3) (fs := hfs) (days := hds) (kiln := 1) (hv (by decide)) w (zM ha (cells := Flt.cells) (size := 4) (b := f1) (l := hfs) (fun _ => rfl) rfl) (zM ha (cells := ncell) (size := 1) (b := d1) (l := hds) (fun _ => rfl) rfl)).mono ?_
  rintro e w' ⟨oA, oc, mr, hcase, hg⟩
  rcases hcase with ⟨h1, h2, h3⟩ | ⟨h1, _⟩
  ·rw [zU5] at h2
   obtain ⟨a, b, c, rfl⟩ := mr3 h2
   rw [zJg] at h3
   exact ⟨(oA, oc, a, b, c), trivial, h3, hg⟩
  ·rw [zJg] at h1; cases h1
 rintro ⟨A1, c1, ⟨p1, q1⟩, ⟨p2, q2⟩, ⟨p3, q3⟩⟩ -
 dsimp only [List.cons_append, List.nil_append]
 refine zF rfl rfl (zL rfl rfl rfl (zL rfl rfl rfl (zL rfl rfl rfl (zE rfl rfl (zE rfl rfl (zE rfl rfl (zA (zC (zD (zB (jR (X := Nat × Nat) (vs := [_]) (p := fun _ => True) (val := fun g => .agg [.slice (some ⟨g.1, 0, none⟩) 2 2, .int .i64 1, .slice (some ⟨g.2, 0, none⟩) 3 3].toArray) (rs := fun g => [.blk g.2 (.cells (ints hds).toArray 3 (0, 0)), .blk g.1 (.cells (hfs.flatMap Flt.cells).toArray 49 (0, 0))]) rfl rfl F.ent42 (fun a w ha => (kR 1 w).mono (fun e w' h => by obtain ⟨b5, b7, h1, h2⟩ := h; exact ⟨(b5, b7), trivial, h1, h2⟩)) ?_)))))))))))
 rintro ⟨f2, d2⟩ -
 dsimp only [List.cons_append, List.nil_append]
 refine jR (X := Nat × Nat × Nat × Nat) (vs := []) (p := fun _ => True) (val := fun g => .slice (some ⟨g.2.2.2, 0, none⟩) 3 3) (rs := fun g => [.blk g.2.2.2 (.cells [.slice (some ⟨g.1, 0, none⟩) 2 2, .slice (some ⟨g.2.1, 0, none⟩) 2 2, .slice (some ⟨g.2.2.1, 0, none⟩) 2 2].toArray 22 (0, 0)), .blk g.2.2.1 (.cells [.int .i64 0, .int .i64 0].toArray 3 (0, 0)), .blk g.2.1 (.cells [.int .i64 3, .int .i64 0].toArray 3 (0, 0)), .blk g.1 (.cells [.int .i64 0, .int .i64 2].toArray 3 (0, 0))]) rfl rfl F.ent44 (fun a w ha => (zKo w).mono (fun e w' h => by obtain ⟨b1, b2, b3, b4, h1, h2⟩ := h; exact ⟨(b1, b2, b3, b4), trivial, h1, h2⟩)) ?_
 rintro ⟨j1, j2, j3, j4⟩ -
 dsimp only [List.cons_append, List.nil_append]
 refine jR (X := Option Addr × Nat × (Option Addr × Nat) × (Option Addr × Nat) × (Option Addr × Nat) × (Option Addr × Nat)) (vs := [_, _]) (p := fun _ => True) (val := fun g => .tuple #[.slice g.1 4 g.2.1, .int .i64 1, .int .i64 0]) (rs := fun g => [.row 22 1 g.1 4 g.2.1 [.slice g.2.2.1.1 2 g.2.2.1.2, .slice g.2.2.2.1.1 2 g.2.2.2.1.2, .slice g.2.2.2.2.1.1 2 g.2.2.2.2.1.2, .slice g.2.2.2.2.2.1 2 g.2.2.2.2.2.2], .row 3 1 g.2.2.2.2.2.1 2 g.2.2.2.2.2.2 (ints [0, 0]), .row 3 1 g.2.2.2.2.1.1 2 g.2.2.2.2.1.2 (ints [3, 0]), .row 3 1 g.2.2.2.1.1 2 g.2.2.2.1.2 (ints [0, 2]), .row 3 1 g.2.2.1.1 2 g.2.2.1.2 (ints [3, 1])]) rfl rfl F.ent17 (fun a w ha => ?_) ?_
 ·refine (zTc (fA := some ⟨f2, 0, none⟩) (dA := some ⟨d2, 0, none⟩) (fc := 2) (dc := 3) (fs := hfs) (days := hds) (kiln := 1) (pA := some ⟨j4, 0, none⟩) (pc := 3) (ms := [(some ⟨j1, 0, none⟩, 2, [0, 2]), (some ⟨j2, 0, none⟩, 2, [3, 0]), (some ⟨j3, 0, none⟩, 2, [0, 0])]) (hv (by decide)) (by show 3 < 1000000; decide) (by intro x hx; simp only [List.mem_cons, List.not_mem_nil, or_false] at hx; rcases hx with rfl | rfl | rfl <;> (dsimp only; decide)) w (zM ha (cells := Flt.cells) (size := 4) (b := f2) (l := hfs) (fun _ => rfl) rfl) (zM ha (cells := ncell) (size := 1) (b := d2) (l := hds) (fun _ => rfl) rfl) ⟨zM ha (cells := fun m => [zmcell m]) (size := 1) (b := j4) (l := [(some ⟨j1, 0, none⟩, 2, [0, 2]), (some ⟨j2, 0, none⟩, 2, [3, 0]), (some ⟨j3, 0, none⟩, 2, [0, 0])]) (fun _ => rfl) rfl, fun m hm => by
   simp only [List.mem_cons, List.not_mem_nil, or_false] at hm
   rcases hm with rfl | rfl | rfl
   ·exact zM ha (cells := zcell) (size := 1) (b := j1) (l := [0, 2]) (fun _ => rfl) rfl
   ·exact zM ha (cells := zcell) (size := 1) (b := j2) (l := [3, 0]) (fun _ => rfl) rfl
   ·exact zM ha (cells := zcell) (size := 1) (b := j3) (l := [0, 0]) (fun _ => rfl) rfl⟩).mono ?_
  rintro e w' ⟨oA, oc, mr, h2, h3, hg⟩
  rw [show workE hfs 1 hds (List.map (fun x => x.2.2) ([(some ⟨j1, 0, none⟩, 2, [0, 2]), (some ⟨j2, 0, none⟩, 2, [3, 0]), (some ⟨j3, 0, none⟩, 2, [0, 0])] : List MetaZ)) = (0, [[3, 1], [0, 2], [3, 0], [0, 0]], 1) from zT7] at h2 h3
  obtain ⟨a, b, c, d, rfl⟩ := mr4 h2
  exact ⟨(oA, oc, a, b, c, d), trivial, h3, hg⟩
 rintro ⟨A2, c2, ⟨r1, s1⟩, ⟨r2, s2⟩, ⟨r3, s3⟩, ⟨r4, s4⟩⟩ -
 dsimp only [List.cons_append, List.nil_append]
 refine zF rfl rfl (zL rfl rfl rfl (zL rfl rfl rfl (zL rfl rfl rfl (zE rfl rfl (zE rfl rfl (zE rfl rfl (zA (zC (zD (zB (jR (X := Nat × Nat) (vs := [_]) (p := fun _ => True) (val := fun g => .agg [.slice (some ⟨g.1, 0, none⟩) 2 2, .int .i64 0, .slice (some ⟨g.2, 0, none⟩) 3 3].toArray) (rs := fun g => [.blk g.2 (.cells (ints hds).toArray 3 (0, 0)), .blk g.1 (.cells (hfs.flatMap Flt.cells).toArray 49 (0, 0))]) rfl rfl F.ent42 (fun a w ha => (kR 0 w).mono (fun e w' h => by obtain ⟨b5, b7, h1, h2⟩ := h; exact ⟨(b5, b7), trivial, h1, h2⟩)) ?_)))))))))))
 rintro ⟨f3, d3⟩ -
 dsimp only [List.cons_append, List.nil_append]
 refine zW (v := .tuple #[.int .i64 2, .int .i64 0]) (vs := [_]) rfl rfl F.ent23 (fun a w ha => (zN2 (fA := some ⟨f3, 0, none⟩) (dA := some ⟨d3, 0, none⟩) (fc := 2) (dc := 3) (fs := hfs) (days := hds) (kiln := 0) (hv (by decide)) (by decide) w (hR.later ha.below) (fun _ => ⟨f3, 0, none, _, _, rfl, ha.mem_blk (InB.mem (b := f3)), by decide⟩) (zM ha (cells := Flt.cells) (size := 4) (b := f3) (l := hfs) (fun _ => rfl) rfl) (zM ha (cells := ncell) (size := 1) (b := d3) (l := hds) (fun _ => rfl) rfl)).mono (fun e w' h => ⟨zSu (P := fun d => e = .returned (.tuple #[.int .i64 (d : Int), .int .i64 0])) h.1, h.2⟩)) ?_
 refine zF rfl rfl (zL rfl rfl rfl (zL rfl rfl rfl (zE rfl rfl (zE rfl rfl (zA (zC (zD (zB (jR (X := Nat × Nat) (vs := []) (p := fun _ => True) (val := fun g => .agg [.slice (some ⟨g.1, 0, none⟩) 2 2, .int .i64 1, .slice (some ⟨g.2, 0, none⟩) 2 2].toArray) (rs := fun g => [.blk g.2 (.cells (ints tds).toArray 3 (0, 0)), .blk g.1 (.cells (tfs.flatMap Flt.cells).toArray 49 (0, 0))]) rfl rfl F.ent45 (fun a w ha => (zDj w).mono (fun e w' h => by obtain ⟨b5, b7, h1, h2⟩ := h; exact ⟨(b5, b7), trivial, h1, h2⟩)) ?_)))))))))
 rintro ⟨f4, d4⟩ -
 dsimp only [List.cons_append, List.nil_append]
 refine jR (X := Option Addr × Nat × (Option Addr × Nat) × (Option Addr × Nat)) (vs := [_]) (p := fun _ => True) (val := fun g => .tuple #[.slice g.1 2 g.2.1, .int .i64 2, .int .i64 0]) (rs := fun g => [.row 22 1 g.1 2 g.2.1 [.slice g.2.2.1.1 2 g.2.2.1.2, .slice g.2.2.2.1 2 g.2.2.2.2], .row 3 1 g.2.2.2.1 2 g.2.2.2.2 (ints [3, 0]), .row 3 1 g.2.2.1.1 2 g.2.2.1.2 (ints [0, 3])]) rfl rfl F.ent33 (fun a w ha => ?_) ?_
 ·refine (zNy (fA := some ⟨f4, 0, none⟩) (dA := some ⟨d4, 0, none⟩) (fc := 2) (dc := 2) (fs := tfs) (days := tds) (kiln := 1) tv1 w (zM ha (cells := Flt.cells) (size := 4) (b := f4) (l := tfs) (fun _ => rfl) rfl) (zM ha (cells := ncell) (size := 1) (b := d4) (l := tds) (fun _ => rfl) rfl)).mono ?_
  rintro e w' ⟨oA, oc, mr, hcase, hg⟩
  rcases hcase with ⟨h1, h2, h3⟩ | ⟨h1, _⟩
  ·rw [zRm] at h2
   obtain ⟨a, b, rfl⟩ := mr2 h2
   rw [zLv] at h3
   exact ⟨(oA, oc, a, b), trivial, h3, hg⟩
  ·rw [zLv] at h1; cases h1
 rintro ⟨A4, c4, ⟨t1, u1⟩, ⟨t2, u2⟩⟩ -
 dsimp only [List.cons_append, List.nil_append]
 refine zF rfl rfl (zL rfl rfl rfl (zL rfl rfl rfl (zL rfl rfl rfl (zE rfl rfl (zE rfl rfl (zE rfl rfl (zA (zC (zD (zB (jR (X := Nat × Nat) (vs := [_]) (p := fun _ => True) (val := fun g => .agg [.slice (some ⟨g.1, 0, none⟩) 2 2, .int .i64 0, .slice (some ⟨g.2, 0, none⟩) 3 3].toArray) (rs := fun g => [.blk g.2 (.cells (ints hds).toArray 3 (0, 0)), .blk g.1 (.cells (hfs.flatMap Flt.cells).toArray 49 (0, 0))]) rfl rfl F.ent42 (fun a w ha => (kR 0 w).mono (fun e w' h => by obtain ⟨b5, b7, h1, h2⟩ := h; exact ⟨(b5, b7), trivial, h1, h2⟩)) ?_)))))))))))
 rintro ⟨f5, d5⟩ -
 dsimp only [List.cons_append, List.nil_append]
 refine kD (vs := [(0, _), (2, _)]) (l' := [_, _, _, _]) rfl rfl F.ti49 F.pl49 (.cons rfl rfl (.cons rfl rfl (.nil _))) rfl ?_
 refine yX (vs := [(0, .agg (Flt.cells ⟨2, 0, 2, false⟩).toArray)]) (ofs.flatMap Flt.cells) rfl rfl Try.underlying25 F.ti49 rfl rfl rfl (Lit.agg (l1 := Flt.cells ⟨2, 0, 2, false⟩) (l := []) rfl rfl) ?_
 intro o5
 refine zW (v := .tuple #[.int .i64 0, .int .i64 0, .int .i64 0]) (vs := [_, _]) rfl rfl F.ent28 (fun a w ha => (zTj (fA := some ⟨f5, 0, none⟩) (dA := some ⟨d5, 0, none⟩) (fc := 2) (dc := 3) (fs := hfs) (days := hds) (kiln := 0) (oA := some ⟨o5, 0, none⟩) (oc := 1) (os := ofs) (hv (by decide)) (by decide) (by unfold FltOk; decide) (by decide) (by decide) w (zM ha (cells := Flt.cells) (size := 4) (b := f5) (l := hfs) (fun _ => rfl) rfl) (zM ha (cells := ncell) (size := 1) (b := d5) (l := hds) (fun _ => rfl) rfl) (zM ha (cells := Flt.cells) (size := 4) (b := o5) (l := ofs) (fun _ => rfl) rfl)).mono (fun e w' h => ⟨h.1.trans (by rw [show ofs.length = 1 from rfl, zV6]; rfl), h.2⟩)) ?_
 refine zF rfl rfl (zL rfl rfl rfl (zL rfl rfl rfl (zL rfl rfl rfl (zE rfl rfl (zE rfl rfl (zE rfl rfl (zA (zC (zD (zB (jR (X := Nat × Nat) (vs := [_]) (p := fun _ => True) (val := fun g => .agg [.slice (some ⟨g.1, 0, none⟩) 2 2, .int .i64 1, .slice (some ⟨g.2, 0, none⟩) 3 3].toArray) (rs := fun g => [.blk g.2 (.cells (ints hds).toArray 3 (0, 0)), .blk g.1 (.cells (hfs.flatMap Flt.cells).toArray 49 (0, 0))]) rfl rfl F.ent42 (fun a w ha => (kR 1 w).mono (fun e w' h => by obtain ⟨b5, b7, h1, h2⟩ := h; exact ⟨(b5, b7), trivial, h1, h2⟩)) ?_)))))))))))
 rintro ⟨f6, d6⟩ -
 dsimp only [List.cons_append, List.nil_append]
 refine zW (v := .tuple #[.int .i64 1, .int .i64 0]) (vs := [_, _, _]) rfl rfl F.ent19 (fun a w ha => (zE4 (fA := some ⟨f6, 0, none⟩) (dA := some ⟨d6, 0, none⟩) (fc := 2) (dc := 3) (fs := hfs) (days := hds) (kiln := 1) (f := 0) (day := 1) (hv (by decide)) (by decide) (by decide) w (zM ha (cells := Flt.cells) (size := 4) (b := f6) (l := hfs) (fun _ => rfl) rfl) (zM ha (cells := ncell) (size := 1) (b := d6) (l := hds) (fun _ => rfl) rfl)).mono (fun e w' h => ⟨h.1.trans (by rw [zUn]; rfl), h.2⟩)) ?_
 refine zF rfl rfl (zL rfl rfl rfl (zL rfl rfl rfl (zE rfl rfl (zE rfl rfl (zA (zC (zD (zB (zF rfl rfl (zI rfl rfl rfl kC ?_))))))))))
 refine zF rfl rfl (zJ rfl rfl (zF rfl rfl (zJ rfl rfl (zI rfl rfl rfl kC ?_))))
 refine jD rfl rfl rfl (zF rfl rfl (zJ rfl rfl (zF rfl rfl (zJ rfl rfl (zI rfl rfl rfl kC ?_)))))
 refine jD rfl rfl rfl (zF rfl rfl (zJ rfl rfl (zF rfl rfl (zJ rfl rfl (zI rfl rfl rfl kC ?_)))))
 refine jD rfl rfl rfl (zF rfl rfl (zJ rfl rfl (zF rfl rfl (zJ rfl rfl (zI rfl rfl rfl kC ?_)))))
 refine jD rfl rfl rfl (zF rfl rfl (zJ rfl rfl (zF rfl rfl (zJ rfl rfl (zI rfl rfl rfl kC ?_)))))
 refine jD rfl rfl rfl (zF rfl rfl (zJ rfl rfl (zF rfl rfl (zJ rfl rfl (zI rfl rfl rfl kC ?_)))))
 refine jD rfl rfl rfl (zF rfl rfl (zJ rfl rfl (zF rfl rfl (zJ rfl rfl (zI rfl rfl rfl kC ?_)))))
 refine jD rfl rfl rfl (zF rfl rfl (zJ rfl rfl (zF rfl rfl (zJ rfl rfl (zI rfl rfl rfl kC ?_)))))
 refine jD rfl rfl rfl (zF rfl rfl (zJ rfl rfl (zF rfl rfl (zJ rfl rfl (zI rfl rfl rfl kC ?_)))))
 refine jD rfl rfl rfl (zF rfl rfl (zJ rfl rfl (zF rfl rfl (zJ rfl rfl (zI rfl rfl rfl kC ?_)))))
 refine jD rfl rfl rfl (zF rfl rfl (zJ rfl rfl (zF rfl rfl (zJ rfl rfl (zI rfl rfl rfl kC ?_)))))
 refine jD rfl rfl rfl (zF rfl rfl (zJ rfl rfl (zF rfl rfl (zJ rfl rfl (zI rfl rfl rfl kC ?_)))))
 refine jD rfl rfl rfl (zF rfl rfl (zJ rfl rfl (zF rfl rfl (zJ rfl rfl (jR (X := Nat × Nat × Nat × Nat) (vs := []) (p := fun _ => True) (val := fun g => .slice (some ⟨g.2.2.2, 0, none⟩) 3 3) (rs := fun g => [.blk g.2.2.2 (.cells [.slice (some ⟨g.1, 0, none⟩) 2 2, .slice (some ⟨g.2.1, 0, none⟩) 2 2, .slice (some ⟨g.2.2.1, 0, none⟩) 2 2].toArray 22 (0, 0)), .blk g.2.2.1 (.cells [.int .i64 0, .int .i64 0].toArray 3 (0, 0)), .blk g.2.1 (.cells [.int .i64 3, .int .i64 0].toArray 3 (0, 0)), .blk g.1 (.cells [.int .i64 0, .int .i64 2].toArray 3 (0, 0))]) rfl rfl F.ent44 (fun a w ha => (zKo w).mono (fun e w' h => by obtain ⟨b1, b2, b3, b4, h1, h2⟩ := h; exact ⟨(b1, b2, b3, b4), trivial, h1, h2⟩)) ?_)))))
 rintro ⟨j5, j6, j7, j8⟩ -
 dsimp only [List.cons_append, List.nil_append]
 refine zJ rfl rfl ?_
 refine zW (v := .bool true) (vs := [_, _]) rfl rfl F.ent21 (fun a w ha => (zCf (A := A1) (B := some ⟨j8, 0, none⟩) (ca := c1) (cb := 3) (l := [(p1, q1, [0, 2]), (p2, q2, [3, 0]), (p3, q3, [0, 0])]) (m := [(some ⟨j5, 0, none⟩, 2, [0, 2]), (some ⟨j6, 0, none⟩, 2, [3, 0]), (some ⟨j7, 0, none⟩, 2, [0, 0])]) (by show 3 < 1000000; decide) (by show 3 < 1000000; decide) (by intro x hx; simp only [List.mem_cons, List.not_mem_nil, or_false] at hx; rcases hx with rfl | rfl | rfl <;> (dsimp only; decide)) (by intro x hx; simp only [List.mem_cons, List.not_mem_nil, or_false] at hx; rcases hx with rfl | rfl | rfl <;> (dsimp only; decide)) w ⟨qD ha (cells := fun m => [zmcell m]) (size := 1) (e := 22) (c := c1) (n := 3) (l := [(p1, q1, [0, 2]), (p2, q2, [3, 0]), (p3, q3, [0, 0])]) (fun _ => rfl) (InR.mem (A := A1)) rfl, fun m hm => by
   simp only [List.mem_cons, List.not_mem_nil, or_false] at hm
   rcases hm with rfl | rfl | rfl
   ·exact qD ha (cells := zcell) (size := 1) (e := 3) (c := q1) (n := 2) (l := [0, 2]) (fun _ => rfl) (InR.mem (A := p1)) rfl
   ·exact qD ha (cells := zcell) (size := 1) (e := 3) (c := q2) (n := 2) (l := [3, 0]) (fun _ => rfl) (InR.mem (A := p2)) rfl
   ·exact qD ha (cells := zcell) (size := 1) (e := 3) (c := q3) (n := 2) (l := [0, 0]) (fun _ => rfl) (InR.mem (A := p3)) rfl⟩ ⟨zM ha (cells := fun m => [zmcell m]) (size := 1) (b := j8) (l := [(some ⟨j5, 0, none⟩, 2, [0, 2]), (some ⟨j6, 0, none⟩, 2, [3, 0]), (some ⟨j7, 0, none⟩, 2, [0, 0])]) (fun _ => rfl) rfl, fun m hm => by
   simp only [List.mem_cons, List.not_mem_nil, or_false] at hm
   rcases hm with rfl | rfl | rfl
   ·exact zM ha (cells := zcell) (size := 1) (b := j5) (l := [0, 2]) (fun _ => rfl) rfl
   ·exact zM ha (cells := zcell) (size := 1) (b := j6) (l := [3, 0]) (fun _ => rfl) rfl
   ·exact zM ha (cells := zcell) (size := 1) (b := j7) (l := [0, 0]) (fun _ => rfl) rfl⟩).mono (fun e w' h => ⟨h.1.trans (by rfl), h.2⟩)) ?_
 refine jD rfl rfl rfl (zF rfl rfl (zJ rfl rfl (zF rfl rfl (zJ rfl rfl (jW (vs := [(0, _), (1, _)]) rfl rfl Try.underlying22 F.ti3 rfl rfl rfl ?_)))))
 intro b111
 refine zJ rfl rfl (jW (vs := [(0, _), (1, _)]) rfl rfl Try.underlying22 F.ti3 rfl rfl rfl ?_)
 intro b112
 refine zJ rfl rfl (jW (vs := [(0, _), (1, _)]) rfl rfl Try.underlying22 F.ti3 rfl rfl rfl ?_)
 intro b113
 refine zJ rfl rfl (jW (vs := [(0, _), (1, _)]) rfl rfl Try.underlying22 F.ti3 rfl rfl rfl ?_)
 intro b114
 refine zJ rfl rfl (jW (vs := [(0, _), (1, _), (2, _), (3, _)]) rfl rfl Try.underlying29 F.ti22 rfl rfl rfl ?_)
 intro b115
 refine zJ rfl rfl ?_
 refine zW (v := .bool true) (vs := [_, _]) rfl rfl F.ent21 (fun a w ha => (zCf (A := A2) (B := some ⟨b115, 0, none⟩) (ca := c2) (cb := 4) (l := [(r1, s1, [3, 1]), (r2, s2, [0, 2]), (r3, s3, [3, 0]), (r4, s4, [0, 0])]) (m := [(some ⟨b111, 0, none⟩, 2, [3, 1]), (some ⟨b112, 0, none⟩, 2, [0, 2]), (some ⟨b113, 0, none⟩, 2, [3, 0]), (some ⟨b114, 0, none⟩, 2, [0, 0])]) (by show 4 < 1000000; decide) (by show 4 < 1000000; decide) (by intro x hx; simp only [List.mem_cons, List.not_mem_nil, or_false] at hx; rcases hx with rfl | rfl | rfl | rfl <;> (dsimp only; decide)) (by intro x hx; simp only [List.mem_cons, List.not_mem_nil, or_false] at hx; rcases hx with rfl | rfl | rfl | rfl <;> (dsimp only; decide)) w ⟨qD ha (cells := fun m => [zmcell m]) (size := 1) (e := 22) (c := c2) (n := 4) (l := [(r1, s1, [3, 1]), (r2, s2, [0, 2]), (r3, s3, [3, 0]), (r4, s4, [0, 0])]) (fun _ => rfl) (InR.mem (A := A2)) rfl, fun m hm => by
   simp only [List.mem_cons, List.not_mem_nil, or_false] at hm
   rcases hm with rfl | rfl | rfl | rfl
   ·exact qD ha (cells := zcell) (size := 1) (e := 3) (c := s1) (n := 2) (l := [3, 1]) (fun _ => rfl) (InR.mem (A := r1)) rfl
   ·exact qD ha (cells := zcell) (size := 1) (e := 3) (c := s2) (n := 2) (l := [0, 2]) (fun _ => rfl) (InR.mem (A := r2)) rfl
   ·exact qD ha (cells := zcell) (size := 1) (e := 3) (c := s3) (n := 2) (l := [3, 0]) (fun _ => rfl) (InR.mem (A := r3)) rfl
   ·exact qD ha (cells := zcell) (size := 1) (e := 3) (c := s4) (n := 2) (l := [0, 0]) (fun _ => rfl) (InR.mem (A := r4)) rfl⟩ ⟨zM ha (cells := fun m => [zmcell m]) (size := 1) (b := b115) (l := [(some ⟨b111, 0, none⟩, 2, [3, 1]), (some ⟨b112, 0, none⟩, 2, [0, 2]), (some ⟨b113, 0, none⟩, 2, [3, 0]), (some ⟨b114, 0, none⟩, 2, [0, 0])]) (fun _ => rfl) rfl, fun m hm => by
   simp only [List.mem_cons, List.not_mem_nil, or_false] at hm
   rcases hm with rfl | rfl | rfl | rfl
   ·exact zM ha (cells := zcell) (size := 1) (b := b111) (l := [3, 1]) (fun _ => rfl) rfl
   ·exact zM ha (cells := zcell) (size := 1) (b := b112) (l := [0, 2]) (fun _ => rfl) rfl
   ·exact zM ha (cells := zcell) (size := 1) (b := b113) (l := [3, 0]) (fun _ => rfl) rfl
   ·exact zM ha (cells := zcell) (size := 1) (b := b114) (l := [0, 0]) (fun _ => rfl) rfl⟩).mono (fun e w' h => ⟨h.1.trans (by rfl), h.2⟩)) ?_
 refine jD rfl rfl rfl (zF rfl rfl (zJ rfl rfl (zF rfl rfl (zJ rfl rfl (jW (vs := [(0, _), (1, _)]) rfl rfl Try.underlying22 F.ti3 rfl rfl rfl ?_)))))
 intro b120
 refine zJ rfl rfl (jW (vs := [(0, _), (1, _)]) rfl rfl Try.underlying22 F.ti3 rfl rfl rfl ?_)
 intro b121
 refine zJ rfl rfl (jW (vs := [(0, _), (1, _)]) rfl rfl Try.underlying29 F.ti22 rfl rfl rfl ?_)
 intro b122
 refine zJ rfl rfl ?_
 refine zW (v := .bool true) (vs := [_, _]) rfl rfl F.ent21 (fun a w ha => (zCf (A := A4) (B := some ⟨b122, 0, none⟩) (ca := c4) (cb := 2) (l := [(t1, u1, [0, 3]), (t2, u2, [3, 0])]) (m := [(some ⟨b120, 0, none⟩, 2, [0, 3]), (some ⟨b121, 0, none⟩, 2, [3, 0])]) (by show 2 < 1000000; decide) (by show 2 < 1000000; decide) (by intro x hx; simp only [List.mem_cons, List.not_mem_nil, or_false] at hx; rcases hx with rfl | rfl <;> (dsimp only; decide)) (by intro x hx; simp only [List.mem_cons, List.not_mem_nil, or_false] at hx; rcases hx with rfl | rfl <;> (dsimp only; decide)) w ⟨qD ha (cells := fun m => [zmcell m]) (size := 1) (e := 22) (c := c4) (n := 2) (l := [(t1, u1, [0, 3]), (t2, u2, [3, 0])]) (fun _ => rfl) (InR.mem (A := A4)) rfl, fun m hm => by
   simp only [List.mem_cons, List.not_mem_nil, or_false] at hm
   rcases hm with rfl | rfl
   ·exact qD ha (cells := zcell) (size := 1) (e := 3) (c := u1) (n := 2) (l := [0, 3]) (fun _ => rfl) (InR.mem (A := t1)) rfl
   ·exact qD ha (cells := zcell) (size := 1) (e := 3) (c := u2) (n := 2) (l := [3, 0]) (fun _ => rfl) (InR.mem (A := t2)) rfl⟩ ⟨zM ha (cells := fun m => [zmcell m]) (size := 1) (b := b122) (l := [(some ⟨b120, 0, none⟩, 2, [0, 3]), (some ⟨b121, 0, none⟩, 2, [3, 0])]) (fun _ => rfl) rfl, fun m hm => by
   simp only [List.mem_cons, List.not_mem_nil, or_false] at hm
   rcases hm with rfl | rfl
   ·exact zM ha (cells := zcell) (size := 1) (b := b120) (l := [0, 3]) (fun _ => rfl) rfl
   ·exact zM ha (cells := zcell) (size := 1) (b := b121) (l := [3, 0]) (fun _ => rfl) rfl⟩).mono (fun e w' h => ⟨h.1.trans (by rfl), h.2⟩)) ?_
 refine jD rfl rfl rfl (zE rfl rfl (zA (zC (zZ ?_))))
 exact jI rfl (fun a w ha => jY rfl rfl ha) (fun a w ha => ⟨rfl, ha.grown nsl⟩)

variable {C : Ctx} {fr : List (Nat × Value)} {hp : List Res} {ops : Array Oper} {Q : Exit -> Act -> World -> Prop} {rest : List Oper} {d : Nat} {ty : TypeId} {pos : String} {after : Array Edge}
theorem zCy {α : Type} {cells : α -> List Value} {size : Nat} (hs : ∀ x, (cells x).length = size) (l : List α) : (l.flatMap cells).length = l.length * size := by
 induction l with
 | nil => simp
 | cons x l ih => rw [List.flatMap_cons, List.length_append, hs, ih, List.length_cons, Nat.succ_mul]; omega
theorem RdL.cells_at {α : Type} {cells : α -> List Value} {size : Nat} (hs : ∀ x, (cells x).length = size) (h0 : 0 < size) {w : World} {p : Addr} {l : List α} (h : RdL cells size w (some p) l) {j : Nat} {u : Value} (hu : (l.flatMap cells)[j]? = some u) : w.cell? (p.add j) = some u := by
 have hj : j < l.length * size := by
  rw [<- zCy hs]
  rcases Nat.lt_or_ge j (l.flatMap cells).length with h1 | h1
  ·exact h1
  ·rw [List.getElem?_eq_none h1] at hu; cases hu
 have hk : j / size < l.length := Nat.div_lt_of_lt_mul (by rw [Nat.mul_comm]; exact hj)
 obtain ⟨b, o, h1, _, h3⟩ := h (Nat.lt_of_le_of_lt (Nat.zero_le _) hk)
 cases h1
 have hd := Nat.div_add_mod j size
 rw [Nat.mul_comm] at hd
 have hm : j % size < size := Nat.mod_lt _ h0
 have hx : l[j / size]? = some l[j / size] := List.getElem?_eq_getElem hk
 have hjs : j % size < (cells l[j / size]).length := by rw [hs]; exact hm
 have hc : (cells l[j / size])[j % size]? = some (cells l[j / size])[j % size] := List.getElem?_eq_getElem hjs
 have h4 := zCx hs l _ _ hx _ _ hc
 rw [hd, hu] at h4
 have h5 := h3 _ _ hx _ _ hc
 rw [qO]
 rw [Nat.add_assoc, hd] at h5
 rw [h5]
 exact h4.symm
theorem zGs {α : Type} {cells : α -> List Value} {x y : Operand} {t e : TypeId} {A : Option Addr} {p : Addr} {n c m cb size bytes : Nat} {xs : List Value} {l : List α} {z : Value} {hp' : Option Addr -> Nat -> List Res} (hd : Nat.blt d C.N = true)
  (hx : ev fr x = some (.slice A n c)) (hy : ev fr y = some (.slice (some p) m cb)) (ht : C.P.underlying t = some (.slice e)) (hi : TI C.P e z size bytes) (hzs : z.cells.size = size) (hs0 : Nat.blt 0 size = true) (hs : ∀ x, (cells x).length = size) (ho1 : ∀ x, ∀ u ∈ cells x, u.oneCell' = true)
  (hnews : ∀ a w, At C fr hp a w -> RdL cells size w (some p) l) (hl : l.length = m) [hr : InR A e size n c xs hp] [hu : ∀ A' c', UpR A e size n c xs (.row e size A' (n + m) c' (xs ++ l.flatMap cells)) hp (hp' A' c')]
  (h63 : n + m <= maxLen) (hbytes : (n + m) * bytes <= 140737488355328)
  (k : ∀ A' c', Lst C ops Q rest ((d, .slice A' (n + m) c') :: fr) (hp' A' c')) :
  Lst C ops Q (⟨some d, .call { callee := .builtin .append, args := #[x, y], argTypes := #[t, t] }, ty, pos, after, none⟩ :: rest) fr hp := by
 have ho : ∀ u ∈ l.flatMap cells, u.oneCell' = true := by
  intro u hu'
  obtain ⟨x, _, hx⟩ := List.mem_flatMap.1 hu'
  exact ho1 x u hx
 have hi' := hi
 obtain ⟨i, hi1, hi2, hi3, hi4⟩ := hi'
 have h0 := kB hs0
 subst hi4
 refine zEb hd hx hy ht hi hzs hs0 (fun a w ha j u hu => (hnews a w ha).cells_at hs h0 hu) (by rw [zCy hs, hl]) ho (fun w v' w' hown hn hrun => ?_) h63 hbytes k
 exact zB6 ht hi1 hi2 (hi3 ▸ hown) (by rw [zCy hs, hi3, hl]) hn ho h63 hbytes hrun
end Go.Proofs.Yteppiphdbondeaa.N
namespace Go.Proofs.Yteppiphdbondeaa.N
open Go Go.RowKit Go.Proofs
set_option linter.unusedSectionVars false
theorem zU8 (o x : Oc) : (lst2 o x).is = (o.is || x.is) := by
 unfold lst2 oless
 cases ho : o.is <;> cases hx : x.is <;> simp [ho, hx] <;> split <;> simp_all
theorem zM5 (g : List Nat -> Oc) : ∀ (ls : List (List Nat)) (o : Oc), (ls.foldl (fun o l => lst2 o (g l)) o).is = (o.is || ls.any fun l => (g l).is)
 | [], o => by simp
 | l :: ls, o => by rw [List.foldl_cons, zM5 g ls, zU8, List.any_cons, Bool.or_assoc]
section
variable {alw : Nat -> List Nat -> Bool} {las : Mor -> Bool} {fs : List Flt} {kiln : Nat} {days : List Nat}
theorem zQ8 {n : Nat} (h : n + 1 <= days.length) : days.drop (days.length - (n + 1)) = days.getD (days.length - (n + 1)) 0 :: days.drop (days.length - n) := by
 rw [List.drop_eq_getElem_cons om, List.getD_eq_getElem?_getD, List.getElem?_eq_getElem om, show days.length - (n + 1) + 1 = days.length - n from by omega]
 rfl
end
theorem zXo (x : Nat) : ∀ u ∈ ncell x, u.oneCell' = true := by
 intro u hu
 simp [ncell] at hu
 subst hu
 simp [Value.oneCell']
section
variable [I : Sys] {C : Ctx} {fr : List (Nat × Value)} {hp : List Res} {a : Act} {w : World}
theorem zTh (ha : At C fr hp a w) {A : Option Addr} {c n : Nat} {l : List Nat} [hr : InR A 3 1 n c (ints l) hp] (hn : n = l.length) : RdL ncell 1 w A l :=
 qD ha (cells := ncell) (size := 1) (e := 3) (c := c) (n := n) (l := l) (fun _ => rfl) (by rw [<- zI5]; exact hr.mem) hn
end
end Go.Proofs.Yteppiphdbondeaa.N
namespace Go.Proofs.Yteppiphdbondeaa.N
open Go Go.RowKit Go.Proofs
set_option linter.unusedSectionVars false
variable [I : Sys]
theorem F.ent20 : Enters Try.prog 20 := jG Try.func20 rfl (by kernel_rfl)
end Go.Proofs.Yteppiphdbondeaa.N
namespace Go.Proofs.Yteppiphdbondeaa.N
open Go Go.RowKit Go.Proofs
set_option linter.unusedSectionVars false
theorem zSf (l : List Nat) (j v : Nat) : (ints l).set j (.int .i64 (v : Int)) = ints (l.set j v) := by
 unfold ints
 rw [List.map_set]
section
variable [I : Sys] {C : Ctx} {fr : List (Nat × Value)} {hp hp' : List Res} {a : Act} {w : World} {ops : Array Oper} {Q : Exit -> Act -> World -> Prop} {rest : List Oper} {d : Nat} {ty : TypeId} {pos : String} {after : Array Edge}
theorem zKc {x y : Operand} {t e : TypeId} {A : Option Addr} {g o size n c m : Nat} {xs : List Value} (xs' : List Value) {v z : Value} (hx : ev fr x = some (.pointer (some ⟨g, o, none⟩))) (hy : ev fr y = some v) (hi : TI C.P t z 1 m) [hc : Cells v [v]]
  (hA : A = some ⟨g, 0, none⟩) (ho : o < xs.length) (hxs : xs.set o v = xs') [hr : InR A e size n c xs hp] [hu : UpR A e size n c xs (.row e size A n c xs') hp hp']
  (k : Lst C ops Q rest fr hp') : Lst C ops Q (⟨none, .store t x y, ty, pos, after, none⟩ :: rest) fr hp := by
 obtain ⟨i, hi, _, hsz, _⟩ := hi
 refine zDt (fun _ _ _ => zB7 ..) (fun a w ha => ?_) k
 have hown := ha.own _ hr.mem
 obtain ⟨hlen, hcase⟩ := hown
 rcases hcase with ⟨h1, _⟩ | ⟨g', cap, cur, hv, hB, hheap, hle, hmax, hcs, htake⟩
 ·injection h1 with e1
  rw [hA] at e1
  cases e1
 ·injection hv with e1 e2 e3
  rw [hA] at e1
  injection e1 with e1
  injection e1 with e1
  subst e1; subst e3
  have hlen' : o < cur.toList.length := by
   have h9 : n * size <= c * size := Nat.mul_le_mul_right _ hle
   simp only [Array.length_toList]
   omega
  have hs : Splice cur.toList o [v] (cur.toList.set o v) := ⟨by rw [List.set_eq_take_append_cons_drop, if_pos hlen', List.append_assoc]; rfl, by simp at hlen' ⊢; omega⟩
  obtain ⟨w', h1, h2, h3⟩ := zDx hs (by simpa using hheap) hc.one C.P
  refine ⟨w', ?_, ha.turn hu.upd (by rw [hA]; exact h3) ⟨by rw [<- hxs, List.length_set]; exact hlen, .inr ⟨g, c, (cur.toList.set o v).toArray, by rw [hA], hB, h2, hle, hmax, by simp [hcs], ?_⟩⟩ (fun k hk => .inl hk)⟩
  ·simp [execOp, ha.eval hx, ha.eval hy, Instr.storeAt, Instr.sureAddr, storeVar, sizeOf, typeInfo, hi, hc.eq, hsz, h1]
  ·rw [<- hxs, <- htake, List.take_set]
theorem zRg {x : Operand} {f : FuncId} {first cap vs : List Value} {args : Array Operand} {ts : Array TypeId} {v : Value} (hd : Nat.blt d C.N = true)
  (hx : ev fr x = some (.func (.func f) first.toArray cap.toArray)) (hargs : args.toList.map (ev fr) = vs.map some) (hf : Enters C.P f)
  (hc : ∀ a w, At C fr hp a w -> Calls C.P f (first ++ vs ++ cap).toArray w fun e w' => e = .returned v ∧ Grew w w' [])
  (k : Lst C ops Q rest ((d, v) :: fr) hp) : Lst C ops Q (⟨some d, .call { callee := .value x, args := args, argTypes := ts }, ty, pos, after, none⟩ :: rest) fr hp :=
 qY (X := Unit) (p := fun _ => True) (val := fun _ => v) (rs := fun _ => hp) hd hx hargs hf (fun a w ha => (hc a w ha).mono fun _ _ ⟨h1, h2⟩ => ⟨(), trivial, h1, ha.more h2⟩) (fun _ _ => k)
theorem zTz {l : List Oper} (A : Option Addr) {e size n c : Nat} {xs : List Value} [hr : InR A e size n c xs hp] (hn : 0 < n) (k : ∀ g, A = some ⟨g, 0, none⟩ -> Lst C ops Q l fr hp) : Lst C ops Q l fr hp := fun a w ha => by
 obtain ⟨g, hg⟩ := zB4 (ha.own _ hr.mem) hn
 exact k g hg a w ha
end
section
variable {α : Type} {P : Program} {kt : TypeId} (K : KT P kt α)
variable [I : Sys] {C : Ctx} {fr : List (Nat × Value)} {hp : List Res} {ops : Array Oper} {Q : Exit -> Act -> World -> Prop} {rest : List Oper} {d : Nat} {ty : TypeId} {pos : String} {after : Array Edge}
theorem zL9 {x : Operand} {b i n : Nat} {seen : Array Nat} {r : List (Nat × α × Value)} {hpf : Obj -> List Res} (hd : Nat.blt d C.N = true) (hx : ev fr x = some (.pointer (some ⟨i, 0, none⟩))) (hb : Res.blk b (K.rem r n) ∈ hp) (hG : K.Good r n)
  (hu : ∀ o, Upd (.blk i (.mapIter (some b) n seen n)) (.blk i o) hp (hpf o))
  (k0 : (∀ e ∈ r, e.1 ∈ seen) -> Lst C ops Q rest ((d, .tuple #[.bool false]) :: fr) hp)
  (k1 : ∀ e ∈ r, e.1 ∉ seen -> Lst C ops Q rest ((d, .tuple #[.bool true, K.kv e.2.1, e.2.2]) :: fr) (hpf (.mapIter (some b) n (seen.push e.1) n))) : Lst C ops Q (⟨some d, .next x false, ty, pos, after, none⟩ :: rest) fr hp := by
 refine qW rfl fun a w ha => ?_
 refine ⟨kM _ (by rw [ha.eval hx]; exact zHv _ _), ?_⟩
 have hi := ha.own _ (hu (.map #[] 0)).mem
 have hold : ∀ x ∈ ((r.map K.ent).toArray).toList, x.born < n := by
  intro x hx
  simp only [List.mem_map] at hx
  obtain ⟨e, he, rfl⟩ := hx
  exact hG.less e he
 have hmem : ∀ x, x ∈ Go.leftOf (r.map K.ent).toArray seen ↔ ∃ e ∈ r, e.1 ∉ seen ∧ x = K.ent e := by
  intro x
  unfold Go.leftOf
  rw [Array.mem_filter]
  simp only [List.mem_toArray, List.mem_map]
  constructor
  ·rintro ⟨⟨e, he, rfl⟩, h⟩
   exact ⟨e, he, by simpa [KT.ent] using h, rfl⟩
  ·rintro ⟨e, he, h, rfl⟩
   exact ⟨⟨e, he, rfl⟩, by simpa [KT.ent] using h⟩
 rcases run_next_at (P := C.P) w ty i b n n seen (r.map K.ent).toArray n hi.2 (ha.mem_blk hb) hold (Nat.le_refl _) with ⟨h1, h2⟩ | ⟨e, he, w1, hw1, h2⟩
 ·have hr : (execOp a.eval ⟨some d, .next x false, ty, pos, after, none⟩).run C.P w = .ok (.value (.tuple #[.bool false])) w := by
   simp only [execOp, ha.eval hx, Sem.run_bind, h2]
   rfl
  rw [hr]
  refine k0 (fun e he => ?_) _ _ (ha.put (kB hd) _)
  by_cases hs : e.1 ∈ seen
  ·exact hs
  ·have := (hmem (K.ent e)).2 ⟨e, he, hs, rfl⟩
   rw [Array.eq_empty_of_size_eq_zero h1] at this
   simp at this
 ·obtain ⟨e', her, hne, rfl⟩ := (hmem e).1 (by simpa using he)
  have hr : (execOp a.eval ⟨some d, .next x false, ty, pos, after, none⟩).run C.P w = .ok (.value (.tuple #[.bool true, K.kv e'.2.1, e'.2.2])) (ChangeMaps.setBlock w1 i (.mapIter (some b) n (seen.push e'.1) n)) := by
   simp only [execOp, ha.eval hx, Sem.run_bind, h2]
   rfl
  rw [hr]
  have ha1 : At C fr hp a w1 := by
   rcases hw1 with rfl | rfl
   ·exact ha
   ·exact ha.drew
  have hi1 := ha1.own _ (hu (.map #[] 0)).mem
  have hlt : i < w1.heap.size := (Array.getElem?_eq_some_iff.1 hi1.2).1
  have ha2 : At C fr (hpf (.mapIter (some b) n (seen.push e'.1) n)) a (ChangeMaps.setBlock w1 i (.mapIter (some b) n (seen.push e'.1) n)) := by
   refine ha1.turn (hu _) ⟨rfl, rfl, rfl, by simp [ChangeMaps.setBlock], fun k _ hk => ?_⟩ ⟨hi1.1, ?_⟩ (fun k hk => .inl hk)
   ·simp only [ChangeMaps.setBlock, Array.getElem?_setIfInBounds]
    rw [if_neg (fun e => hk (by rw [e]; rfl))]
   ·simp [ChangeMaps.setBlock, hlt]
  exact k1 e' her hne _ _ (ha2.put (kB hd) _)
end
def sumM (m : Mor) : Nat := m.s.getD 0 0 + m.s.getD 1 0 + m.s.getD 2 0
structure MsI (l : List Mor) (r : List (Nat × Mor × Value)) (seen : Array Nat) (best : Int) : Prop where
 got : best = -1 ∧ seen = #[] ∨ ∃ m ∈ l, best = (sumM m : Int)
 le : ∀ e ∈ r, e.1 ∈ seen -> (sumM e.2.1 : Int) <= best
def leftN (r : List (Nat × Mor × Value)) (seen : Array Nat) : Nat := r.countP fun e => !seen.contains e.1
theorem zRu {r : List (Nat × Mor × Value)} {seen : Array Nat} {e : Nat × Mor × Value} (he : e ∈ r) (hn : e.1 ∉ seen) : leftN r (seen.push e.1) < leftN r seen := by
 unfold leftN
 induction r with
 | nil => cases he
 | cons x r ih =>
  simp only [List.countP_cons]
  have hle : ∀ (r : List (Nat × Mor × Value)), r.countP (fun y => !(seen.push e.1).contains y.1) <= r.countP (fun y => !seen.contains y.1) := fun r => List.countP_mono_left (fun y _ h => by simp at h ⊢; exact h.1)
  rcases List.mem_cons.1 he with rfl | he
  ·have h1 : (!(seen.push e.1).contains e.1) = false := by simp
   have h2 : (!seen.contains e.1) = true := by simpa using hn
   rw [h1, h2]
   have h5 := hle r
   simp only [Bool.false_eq_true, if_false, if_true]
   omega
  ·have := ih he
   have h3 : ((if (!(seen.push e.1).contains x.1) = true then 1 else 0 : Nat)) <= (if (!seen.contains x.1) = true then 1 else 0) := by
    by_cases h4 : (!(seen.push e.1).contains x.1) = true
    ·have h5 : (!seen.contains x.1) = true := by simp at h4 ⊢; exact h4.1
     rw [if_pos h4, if_pos h5]; omega
    ·rw [if_neg h4]; omega
   omega
theorem MsI.first (l : List Mor) (r : List (Nat × Mor × Value)) : MsI l r #[] (-1) := ⟨.inl ⟨rfl, rfl⟩, fun _ _ h => by simp at h⟩
theorem MsI.next {l : List Mor} {r : List (Nat × Mor × Value)} {seen : Array Nat} {best : Int} {e : Nat × Mor × Value} (h : MsI l r seen best) (he : e.2.1 ∈ l) (hd : (r.map (·.1)).Nodup) (her : e ∈ r) : MsI l r (seen.push e.1) (if best < (sumM e.2.1 : Int) then (sumM e.2.1 : Int) else best) := by
 refine ⟨.inr ?_, fun y hy hs => ?_⟩
 ·by_cases hb : best < (sumM e.2.1 : Int)
  ·rw [if_pos hb]; exact ⟨_, he, rfl⟩
  ·rw [if_neg hb]
   rcases h.got with ⟨h1, _⟩ | h1
   ·omega
   ·exact h1
 ·rw [Array.mem_push] at hs
  have hmax : best <= (if best < (sumM e.2.1 : Int) then (sumM e.2.1 : Int) else best) ∧ (sumM e.2.1 : Int) <= (if best < (sumM e.2.1 : Int) then (sumM e.2.1 : Int) else best) := by split <;> omega
  rcases hs with hs | hs
  ·have := h.le y hy hs
   omega
  ·have hye : y = e := by
    have key : ∀ (r : List (Nat × Mor × Value)), (r.map (·.1)).Nodup -> y ∈ r -> e ∈ r -> y.1 = e.1 -> y = e := by
     intro r
     induction r with
     | nil => intro _ h; cases h
     | cons x r ih =>
      intro hn hy he hq
      rw [List.map_cons, List.nodup_cons] at hn
      rcases List.mem_cons.1 hy with h1 | h1
      ·rcases List.mem_cons.1 he with h2 | h2
       ·rw [h1, h2]
       ·exact absurd (List.mem_map.2 ⟨e, h2, by rw [<- hq, h1]⟩) hn.1
      ·rcases List.mem_cons.1 he with h2 | h2
       ·exact absurd (List.mem_map.2 ⟨y, h1, by rw [hq, h2]⟩) hn.1
       ·exact ih hn.2 h1 h2 hq
    exact key r hd hy her hs
   subst hye
   exact hmax.2
def MostP (fs : List Flt) (kiln : Nat) (days : List Nat) (n e : Nat) : Prop := (e = 0 ∧ (∃ m, Rch fs kiln days m ∧ sumM m = n) ∧ ∀ m, Rch fs kiln days m -> sumM m <= n) ∨ (e = 11 ∧ n = 0 ∧ ∀ m, ¬ Rch fs kiln days m)
theorem zQj : exts [] 0 = [[]] := rfl
theorem zR2 (kiln : Nat) (m : Mor) (d : Nat) : dayE [] kiln m [] d = if d = 0 then (0, m) else (9, m) := by
 unfold dayE barred firesN dRun
 simp
 by_cases h : d = 0
 ·simp [h]
 ·rw [if_pos om, if_neg h]
theorem zN8 {kiln : Nat} {days : List Nat} {las : Mor -> Bool} : ∀ (n : Nat), n <= days.length -> ∀ m, las m = true -> (bstO (fun _ _ => true) las [] kiln days n m).is = (days.drop (days.length - n)).all (· == 0)
 | 0, _, m, hl => by simp [bstO, hl]
 | n + 1, hn, m, hl => by
  have ih := zN8 (las := las) (kiln := kiln) (days := days) n om m hl
  rw [zQ8 (days := days) hn, List.all_cons, <- ih]
  show ((exts [] 0).foldl (fun o l => lst2 o (stpO (fun _ _ => true) [] kiln days (bstO (fun _ _ => true) las [] kiln days n) (days.length - (n + 1)) m l)) noOc).is = _
  rw [zQj, zM5]
  simp only [List.any_cons, List.any_nil, Bool.or_false, noOc, Bool.false_or]
  unfold stpO
  rw [if_neg (by simp), zR2]
  by_cases h : days.getD (days.length - (n + 1)) 0 = 0
  ·rw [if_pos h, if_neg (by simp), h]; simp
  ·rw [if_neg h, if_pos (by simp)]
   have : (days.getD (days.length - (n + 1)) 0 == 0) = false := by simpa using h
   rw [this]; rfl
theorem zK9 {kiln : Nat} {days : List Nat} : (bstA [] kiln days).is = days.all (· == 0) := by
 have h := zN8 (kiln := kiln) (las := fun _ => true) (days := days) days.length (Nat.le_refl _) (start []) rfl
 rw [Nat.sub_self, List.drop_zero] at h
 exact h
structure ChW (fs : List Flt) (kiln : Nat) (days : List Nat) : Prop where
 f3 : fs.length <= 3
 ff : ∀ f ∈ fs, FltOk f
 k3 : kiln <= 3
 d1 : 1 <= days.length
 d4 : days.length <= 4
 dd : ∀ n ∈ days, n <= 12
theorem ChV.w {fs : List Flt} {kiln : Nat} {days : List Nat} (h : ChV fs kiln days) : ChW fs kiln days := ⟨h.f3, h.ff, h.k3, h.d1, h.d4, h.dd⟩
def sprN (fs : List Flt) (kiln : Nat) (days : List Nat) (d : Nat) : Nat -> Option Nat
 | 0 => if (bstA fs kiln (days.set d 0)).is then some 0 else none
 | n + 1 => if (bstA fs kiln (days.set d (n + 1))).is then some (n + 1) else sprN fs kiln days d n
theorem ChV.set {fs : List Flt} {kiln d n : Nat} {days : List Nat} (h : ChV fs kiln days) (hn : n <= 12) : ChV fs kiln (days.set d n) :=
 ⟨h.f1, h.f3, h.ff, h.k3, by rw [List.length_set]; exact h.d1, by rw [List.length_set]; exact h.d4, fun x hx => (List.mem_or_eq_of_mem_set hx).elim (h.dd x) fun e => e ▸ hn⟩
end Go.Proofs.Yteppiphdbondeaa.N
namespace Go.Proofs.Yteppiphdbondeaa.N
open Go Go.RowKit Go.Proofs
set_option linter.unusedSectionVars false
variable [I : Sys]

theorem zP7 (a b c k : Nat) (hk : k < 3) : ([a, b, c].take k).sum + [a, b, c].getD k 0 = ([a, b, c].take (k + 1)).sum := by
 rcases k with _ | _ | _ | k
 ·simp
 ·simp
 ·simp; omega
 ·omega
theorem zUa (a b c k : Nat) (ha : a <= 4) (hb : b <= 4) (hc : c <= 4) : ([a, b, c].take k).sum <= 12 := by
 rcases k with _ | _ | _ | k
 ·simp
 ·simp; omega
 ·simp; omega
 ·simp; omega
theorem zR5 (a b c w : Nat) : ([a, b, c].take 3).sum = sumM ⟨[a, b, c], w⟩ := by simp [sumM]; omega

theorem zYe (z0 z1 z2 zw : Nat) (hz0 : z0 <= 4) (hz1 : z1 <= 4) (hz2 : z2 <= 4) (w : World) : Calls Try.prog 81 #[.agg [.int .i64 (z0 : Int), .int .i64 (z1 : Int), .int .i64 (z2 : Int)].toArray] w fun e w' => e = .returned (.int .i64 ((sumM ⟨[z0, z1, z2], zw⟩ : Nat) : Int)) ∧ Grew w w' [] := by
 refine enter (N := 15) [(0, .agg [.int .i64 (z0 : Int), .int .i64 (z1 : Int), .int .i64 (z2 : Int)].toArray)] Try.func81 rfl Try.ntmps81 rfl rfl ?_
 refine zD (zB (jT rfl rfl ?_))
 intro b1
 refine zE rfl rfl (zA (zC (zD (zB (zE rfl rfl (zA (zC (zD (zD (zB (zX rfl rfl F.agg92 F.ti92 ?_)))))))))))
 refine zF rfl rfl (zA (zC (zV (vT (G := Nat) (fun k => k <= 3) (fun k => 3 - k) (fun k => [(3, .int .i64 ((([z0, z1, z2].take k).sum : Nat) : Int)), (6, .agg [.int .i64 (z0 : Int), .int .i64 (z1 : Int), .int .i64 (z2 : Int)].toArray), (7, .int .i64 (k : Int))]) (fun k => []) 0 (Nat.zero_le _) sbn pkk ?_))))
 intro k hk
 (try dsimp only at hk ⊢)
 refine zD (zB (zI rfl rfl rfl kG ?_))
 refine zA (zC (zD (zR rfl (fun hc0 => ?_) (fun hc0 => ?_))))
 ·have hk3 : k < 3 := by omega
  have hs1 := zP7 z0 z1 z2 k hk3
  have hs2 := zUa z0 z1 z2 (k + 1) hz0 hz1 hz2
  refine zQ (zC (zD (zV (zD (zB (zE9 (j := k) rfl rfl rfl Try.underlying92 F.one3 F.ti3 rfl hk3 (zHg z0 z1 z2 k hk3) ?_))))))
  refine zE rfl rfl (zA (zC (zB (zF rfl rfl (zF rfl rfl (zI (v := .int .i64 ((([z0, z1, z2].take (k + 1)).sum : Nat) : Int)) rfl rfl rfl (fun w => jO w (by rw [<- hs1]; rw [jF _ om om]; omega)) ?_))))))
  refine zE rfl rfl (zA (zO (zC (zB (zI rfl rfl rfl (fun w => jO w (jF _ om om)) ?_)))))
  refine zF rfl rfl (zA (qU (k + 1) om tdo sbn pkk))
 ·obtain rfl : k = 3 := by omega
  refine kI (zT (zT (jK (zC (zD (zB (zF rfl rfl (zE rfl rfl (zA (zC (zZ ?_)))))))))))
  exact jI rfl (fun a w ha => jY rfl rfl ha) (fun a w ha => ⟨by rw [zR5 z0 z1 z2 zw], ha.grown nsl⟩)

theorem zTo {fA dA : Option Addr} {fc dc kiln : Nat} {fs : List Flt} {days : List Nat} (h : ChW fs kiln days) : (anyS fA dA fc dc kiln fs days).Ok := ⟨h.f3, h.ff, Nat.le_succ_of_le h.d4, h.dd, jG Try.func66 rfl (by kernel_rfl), jG Try.func67 rfl (by kernel_rfl)⟩

set_option maxRecDepth 4000 in
theorem zDc {fA dA : Option Addr} {fc dc kiln : Nat} {fs : List Flt} {days : List Nat} (hc : ChW fs kiln days) (w : World) (hF : RdL Flt.cells 4 w fA fs) (hD : RdL ncell 1 w dA days) : Calls Try.prog 62 #[.agg (CA fA fs.length fc kiln dA days.length dc).toArray] w fun e w' => e = .returned (.bool (bstA fs kiln days).is) ∧ Grew w w' [] := by
 refine enter (N := 32) [(0, .agg (CA fA fs.length fc kiln dA days.length dc).toArray)] Try.func62 rfl Try.ntmps62 rfl rfl ?_
 refine zD (zB (jT rfl rfl ?_))
 intro b1
 refine zE rfl rfl (zA (zC (zD (zD (zB (zP rfl rfl F.fi27_0 F.ti25 ?_))))))
 refine jE rfl rfl F.one25 ?_
 refine jX rfl rfl Try.underlying25 ?_
 refine zI rfl rfl rfl kC ?_
 refine zA (zC (zR rfl (fun hc0 => ?_) (fun hc0 => ?_)))
 ·have hf0 : fs = [] := List.length_eq_zero_iff.1 om
  subst hf0
  refine zD (zD (zB (zP rfl rfl F.fi27_2 F.ti22 ?_)))
  refine jE rfl rfl F.one22 ?_
  refine jX rfl rfl Try.underlying22 ?_
  refine zF rfl rfl (zA (zC (zV (vT (G := Nat) (fun k => k <= days.length ∧ ∀ x ∈ days.take k, x = 0) (fun k => days.length - k) (fun k => [(11, .slice dA days.length dc), (12, .int .i64 (days.length : Int)), (13, .int .i64 (k : Int))]) (fun k => []) 0 ⟨Nat.zero_le _, by simp⟩ sbn pkk ?_))))
  rintro k ⟨hk1, hk2⟩
  refine zD (zB (zI rfl rfl rfl kG ?_))
  refine zA (zC (zD (zR rfl (fun hc1 => ?_) (fun hc1 => ?_))))
  ·have hk : k < days.length := by omega
   have hd4 := hc.d4
   obtain ⟨bd, bo, hdA, hbd, hcd⟩ := hD om
   obtain ⟨x, hx⟩ : ∃ x, days[k]? = some x := ⟨_, List.getElem?_eq_getElem hk⟩
   refine zQ (zC (zD (zV (zD (zB (qE (j := k) rfl (show _ = some (Value.slice (some ⟨bd, bo, none⟩) days.length dc) from by rw [<- hdA]; rfl) rfl Try.underlying22 F.ti3 rfl hk ?_))))))
   refine kQ (v := .int .i64 (x : Int)) rfl rfl F.one3 (fun a w ha => ha.old (hcd k x hx 0 _ rfl) hbd) ?_
   refine zE rfl rfl (zA (zC (zD (zB (zF rfl rfl (zI rfl rfl rfl zBu ?_))))))
   refine zA (zC (zR rfl (fun hc2 => ?_) (fun hc2 => ?_)))
   ·refine zD (zB (zE rfl rfl (zA (zC (zZ (jQ (zU (zU (jQ (zU (zU ?_)))))))))))
    exact jI rfl (fun a w ha => jY rfl rfl ha) (fun a w ha => ⟨by rw [zK9, List.all_eq_false.2 ⟨x, List.mem_of_getElem? hx, by simp; omega⟩], ha.grown nsl⟩)
   ·refine zQ (zO (zC (zB (zI rfl rfl rfl (fun w => jO w (jF _ om om)) ?_))))
    refine zF rfl rfl (zA (qU (k + 1) ⟨by omega, fun y hy => ?_⟩ tdo sbn pkk))
    rw [List.take_add_one, hx] at hy
    rcases List.mem_append.1 hy with h | h
    ·exact hk2 y h
    ·simp at h; omega
  ·have hkl : k = days.length := by omega
   subst hkl
   rw [List.take_length] at hk2
   refine kI (zT (zT (jK (zC (zD (zB (zE rfl rfl (zA (zC (zZ (zU ?_)))))))))))
   exact jI rfl (fun a w ha => jY rfl rfl ha) (fun a w ha => ⟨by rw [zK9, List.all_eq_true.2 (fun x hx => by simpa using hk2 x hx)], ha.grown nsl⟩)
 ·have hm0 : MOk (start fs) := vU hc.f3 hc.ff _ (Nat.le_refl _)
  obtain ⟨x0, x1, x2, xw, hx, hx0, hx1, hx2, hxw⟩ := hm0.form
  refine zQ (zC (zD (zB (zX rfl rfl F.agg27 F.ti27 ?_))))
  refine kD (vs := [(0, _)]) (l' := [_, _, _]) rfl rfl F.ti77 F.pl77 (.cons rfl rfl (.nil _)) rfl ?_
  refine jR (X := Nat × Nat) (vs := [_]) (p := fun _ => True) (val := fun g => .pointer (some ⟨g.1, 0, none⟩)) (rs := fun g => [.blk g.1 (.cells [.slice fA fs.length fc, .int .i64 (kiln : Int), .slice dA days.length dc, .func (.func 66) [].toArray [].toArray, .func (.func 67) [].toArray [].toArray, .map (some g.2)].toArray 101 (0, 0)), .blk g.2 (KS.obj [])]) rfl rfl F.ent48 (fun a w ha => (zDs fA dA fc days.length dc kiln fs w).mono (fun e w' h => by obtain ⟨b, km, h1, h2⟩ := h; exact ⟨(b, km), trivial, h1, h2⟩)) ?_
  rintro ⟨sb, km⟩ -
  dsimp only [List.cons_append, List.nil_append]
  refine zE rfl rfl (zA (zC (zD (zB (zF rfl rfl (zF rfl rfl (vD rfl rfl (vW rfl rfl F.fi101_0 F.ti77 ?_))))))))
  refine zX (o := 0) (l := (CA fA fs.length fc kiln dA days.length dc)) rfl rfl F.agg77 F.ti77 ?_
  refine zW (v := .agg (V4 x0 x1 x2 xw).toArray) (vs := [_]) rfl rfl F.ent60 (fun a w ha => (zBy fA dA fc days.length dc kiln fs hc.f3 hc.ff w (hF.later ha.below)).mono (fun e w' h => ⟨h.1.trans (by rw [hx]; rfl), h.2⟩)) ?_
  refine kD (vs := [(0, _), (1, _)]) (l' := [_, _, _, _, _]) rfl rfl F.ti107 F.pl107 (.cons rfl rfl (.cons rfl rfl (.nil _))) rfl ?_
  refine qY (X := List (Spot × Value)) (first := []) (cap := []) (vs := [_, _]) (p := fun _ => True) (val := fun _ => .agg [.int .i64 ((bstA fs kiln days).f : Int), .int .i64 ((bstA fs kiln days).w : Int), .bool (bstA fs kiln days).is].toArray) (rs := fun kn' => [.blk km (KS.obj kn'), .blk sb (.cells [.slice fA fs.length fc, .int .i64 (kiln : Int), .slice dA days.length dc, .func (.func 66) [].toArray [].toArray, .func (.func 67) [].toArray [].toArray, .map (some km)].toArray 101 (0, 0))]) rfl rfl rfl F.ent68 (fun a w ha => ?_) ?_
  ·refine (zC9 (s := (anyS fA dA fc dc kiln fs days)) (zTo hc) days.length _ _ [] _ _ _ _ _ [] km sb 0 x0 x1 x2 xw (by show 0 + days.length = days.length; omega) ⟨rfl, by simp; omega, hxw⟩ (KnOk.nil _) (zEz hF hD) (ha.pck pkk)).mono ?_
   rintro e w' ⟨kn', h1, h2, h3⟩
   exact ⟨kn', trivial, h2.trans (by unfold bstA; rw [hx]; rfl), h3.pck pkk⟩
  rintro kn1 -
  dsimp only
  generalize bstA fs kiln days = o0
  refine zIh rfl rfl (zH7 rfl F.fi111_1 F.one4 rfl) ?_
  refine zE rfl rfl (zA (zC (zZ ?_)))
  exact jI rfl (fun a w ha => jY rfl rfl ha) (fun a w ha => ⟨rfl, ha.grown nsl⟩)

theorem F.ent81 : Enters Try.prog 81 := jG Try.func81 rfl (by kernel_rfl)
theorem mostEnd {fs : List Flt} {kiln day : Nat} {days : List Nat} {l : List Mor} {seen : Array Nat} {best : Int} (hI : MsI l (idxd (tr l)) seen best) (hall : ∀ e ∈ idxd (tr l), e.1 ∈ seen) (hl : ∀ m, m ∈ l ↔ Rch fs kiln (days.take day) m) :
  let e : Ending := .returned (.tuple #[.int .i64 best, .bool (decide ((0 : Int) < ((((idxd (tr l)).map KM.ent).toArray.size : Nat) : Int)))])
  ((∃ n : Nat, (∃ m, Rch fs kiln (days.take day) m ∧ sumM m = n) ∧ (∀ m, Rch fs kiln (days.take day) m -> sumM m <= n) ∧ e = .returned (.tuple #[.int .i64 (n : Int), .bool true])) ∨ ((∀ m, ¬ Rch fs kiln (days.take day) m) ∧ e = .returned (.tuple #[.int .i64 (-1), .bool false]))) := by
 intro e
 have hsz : (((idxd (tr l)).map KM.ent).toArray.size : Nat) = l.length := by rw [zGz, zHc]
 have hle : ∀ m ∈ l, (sumM m : Int) <= best := fun m hm => by
  obtain ⟨y, hy, rfl⟩ := List.mem_map.1 (show m ∈ (idxd (tr l)).map (·.2.1) from by rw [wZ, zAr]; exact hm)
  exact hI.le y hy (hall y hy)
 show (∃ n : Nat, _) ∨ _
 simp only [e, hsz]
 rcases hI.got with ⟨h1, h2⟩ | ⟨m, hm, h1⟩
 ·right
  have hl0 : l = [] := by
   cases l with
   | nil => rfl
   | cons m l =>
    have := hle m (by simp)
    omega
  refine ⟨fun m hm => ?_, by rw [h1, hl0]; rfl⟩
  have := (hl m).2 hm
  rw [hl0] at this
  cases this
 ·left
  refine ⟨sumM m, ⟨m, (hl m).1 hm, rfl⟩, fun y hy => by have := hle y ((hl y).2 hy); omega, ?_⟩
  rw [h1, decide_eq_true]
  have := List.length_pos_of_mem hm
  omega

theorem zPn [R : ReaC] {fA dA : Option Addr} {fc dc kiln day : Nat} {fs : List Flt} {days : List Nat} (hc : ChV fs kiln days) (hcap : days.length <= dc) (hday : day <= days.length) (w : World) (hR : RdC w) (hL : Lendy w fA fs) (hF : RdL Flt.cells 4 w fA fs) (hD : RdL ncell 1 w dA days) : Calls Try.prog 63 #[.agg (CA fA fs.length fc kiln dA days.length dc).toArray, .int .i64 (day : Int)] w fun e w' => ((∃ n : Nat, (∃ m, Rch fs kiln (days.take day) m ∧ sumM m = n) ∧ (∀ m, Rch fs kiln (days.take day) m -> sumM m <= n) ∧ e = .returned (.tuple #[.int .i64 (n : Int), .bool true])) ∨ ((∀ m, ¬ Rch fs kiln (days.take day) m) ∧ e = .returned (.tuple #[.int .i64 (-1), .bool false]))) ∧ Grew w w' [] := by
 refine enter (N := 35) [(0, .agg (CA fA fs.length fc kiln dA days.length dc).toArray), (1, .int .i64 (day : Int))] Try.func63 rfl Try.ntmps63 rfl rfl ?_
 refine zD (zB (jT rfl rfl ?_))
 intro b2
 refine zE rfl rfl (zE rfl rfl (zA (zC (zD (kJ [] F.follows 9 rfl [false, false, false, false, false, false, false, false, false] rfl ?_)))))
 refine zG 0 rfl rfl rfl (qJ rfl F.agg77 F.ti77) ?_
 refine zG 1 rfl rfl rfl (jS rfl F.fi77_0 F.ti27) ?_
 refine zG 2 rfl rfl rfl (jS rfl F.fi27_2 F.ti22) ?_
 refine zG 3 rfl rfl rfl (kL rfl F.one22) ?_
 refine zG 4 rfl rfl rfl (jC rfl) ?_
 refine zG 5 rfl rfl rfl (jC rfl) ?_
 refine zG 6 rfl rfl rfl (wB (k := day) rfl rfl rfl Try.underlying22 F.ti3 om) ?_
 refine an1 7 rfl ?_
 refine jR (X := List Mor × Nat) (vs := [_, _]) (p := fun g => g.1.Nodup ∧ (∀ m, m ∈ g.1 ↔ Rch fs kiln (days.take day) m) ∧ (∀ m ∈ g.1, MOk m)) (val := fun g => .map (some g.2)) (rs := fun g => [.blk g.2 (KM.obj (tr g.1))]) rfl rfl F.ent56 (fun a w ha => ?_) ?_
 ·have hlen : (days.take day).length = day := by rw [List.length_take]; omega
  have h := zNv (dA := dA) (nd := days.length) (dc := dc) (fc := fc) (kiln := kiln) (days := (days.take day)) (eA := dA) (ec := day) hc.f3 hc.ff (fun n hn => hc.dd n (List.mem_of_mem_take hn)) (by have := hc.d4; omega) w (hR.later ha.below) (hL.later ha.below) (hF.later ha.below) ((hD.later ha.below).take day)
  rw [hlen] at h
  refine h.mono ?_
  rintro e w' ⟨l, b, h1, h0, h2, h4, h3⟩
  exact ⟨(l, b), ⟨h0, h2, h4⟩, h1, h3⟩
 rintro ⟨l, mb⟩ ⟨hnd, hl, hok⟩
 dsimp only [List.cons_append, List.nil_append] at hnd hl hok ⊢
 have hG : KM.Good (idxd (tr l)) (tr l).length := zJh KM (by rw [zAr]; exact hnd) (zKl hok)
 refine zA (anb (zG 8 rfl rfl rfl (qI rfl) ?_))
 refine adn (zC (zD (zB (zE rfl rfl (zA (zC (zD (zD (zB (zF rfl rfl (zEe rfl rfl Try.underlying86 (InB.mem (b := mb) (o := KM.obj (tr l))) ?_)))))))))))
 intro it
 refine zA (zC (zV (vT (G := Array Nat × Int) (fun g => MsI l (idxd (tr l)) g.1 g.2) (fun g => leftN (idxd (tr l)) g.1) (fun g => [(6, .map (some mb)), (7, .int .i64 g.2), (19, .pointer (some ⟨it, 0, none⟩))]) (fun g => [.blk it (.mapIter (some mb) (tr l).length g.1 (tr l).length), .blk mb (KM.obj (tr l))]) (#[], -1) (MsI.first _ _) sbn pkk ?_)))
 rintro ⟨seen, best⟩ hI
 dsimp only at hI ⊢
 refine zD (zB (zL9 KM (hpf := fun o => [.blk it o, .blk mb (KM.obj (tr l))]) rfl rfl (InB.mem (b := mb) (o := KM.obj (tr l))) hG (fun o => .head _) (fun hall => ?_) (fun e he hne => ?_)))
 ·refine zL rfl rfl rfl (zA (zC (zD (jL rfl (kI (zT (zT (jK (zC (zD (zB (zF rfl rfl (zF rfl rfl (zIh rfl rfl (zFt rfl Try.underlying86 (InB.mem (b := mb) (o := KM.obj (tr l)))) ?_))))))))))))))
  refine zI rfl rfl rfl zBu ?_
  refine zE rfl rfl (zE rfl rfl (zA (zC (zZ ?_))))
  exact jI rfl (fun a w ha => qM rfl rfl rfl ha) (fun a w ha => ⟨mostEnd hI hall hl, ha.grown nsl⟩)
 ·refine zL rfl rfl rfl (zA (zC (zD (jZ rfl (zQ (zC (zV (zD (zB ?_)))))))))
  obtain ⟨i, x, v⟩ := e
  have hxl : x ∈ l := by
   have h9 := List.mem_map_of_mem (f := fun y => y.2.1) he
   rw [wZ, zAr] at h9
   exact h9
  obtain ⟨z0, z1, z2, zw, rfl, hz0, hz1, hz2, hzw⟩ := (hok x hxl).form
  refine zEc KM (e := (i, (⟨[z0, z1, z2], zw⟩ : Mor), v)) rfl rfl (InB.mem (b := mb) (o := KM.obj (tr l))) hG he (InB.mem (b := it)) ?_
  rw [show KM.kv (⟨[z0, z1, z2], zw⟩ : Mor) = .agg (V4 z0 z1 z2 zw).toArray from rfl]
  refine zL rfl rfl rfl (jA rfl F.ti95 ?_)
  intro b8
  refine zK rfl rfl F.ti95 rfl ?_
  refine zA (zC (zD (zB (zP rfl rfl F.fi95_0 F.ti92 ?_))))
  refine zX rfl rfl F.agg92 F.ti92 ?_
  refine vE (fs := [_]) (cs := []) rfl rfl rfl ?_
  refine zE rfl rfl (zA (zC (zB (zF rfl rfl (zF rfl rfl ?_)))))
  refine zRg (first := [.agg [.int .i64 (z0 : Int), .int .i64 (z1 : Int), .int .i64 (z2 : Int)].toArray]) (cap := []) (vs := []) (v := .int .i64 ((sumM (⟨[z0, z1, z2], zw⟩ : Mor) : Nat) : Int)) rfl rfl rfl F.ent81 (fun a w ha => by
   have h9 := zYe z0 z1 z2 zw hz0 hz1 hz2 w
   simpa using h9) ?_
  refine zTp rfl rfl rfl ?_
  refine zE rfl rfl (zA (zO (qU (seen.push i, _) (hI.next hxl (by rw [zJp]; exact List.nodup_range) he) (zRu he hne) sbn pkk)))

set_option maxRecDepth 4000 in
theorem zQ0 {fA dA : Option Addr} {fc dc kiln day : Nat} {fs : List Flt} {days : List Nat} (hc : ChV fs kiln days) (hday : day < days.length) (w : World) (hF : RdL Flt.cells 4 w fA fs) (hD : RdL ncell 1 w dA days) : Calls Try.prog 64 #[.agg (CA fA fs.length fc kiln dA days.length dc).toArray, .int .i64 (day : Int)] w fun e w' => e = .returned (.int .i64 0) ∧ Grew w w' [] := by
 refine enter (N := 18) [(0, .agg (CA fA fs.length fc kiln dA days.length dc).toArray), (1, .int .i64 (day : Int))] Try.func64 rfl Try.ntmps64 rfl rfl ?_
 refine zD (zB (jT rfl rfl ?_))
 intro b2
 refine zE rfl rfl (zA (zC (zD (zD (zB (zX rfl rfl F.agg27 F.ti27 ?_))))))
 refine zW (v := .int .i64 0) (vs := [_]) rfl rfl F.ent43 (fun a w ha => by
  have h := xT (fA := fA) (dA := dA) (fc := fc) (dc := dc) (fs := fs.map Flt.toZ) (kiln := (kiln : Int)) (days := toZs days) (by have := hc.f3; simp; omega) (by have := hc.d4; simp [toZs]; omega) w (RdL.mapped Flt.toZ (hF.later ha.below) (fun _ => rfl)) (RdL.mapped (fun (n : Nat) => (n : Int)) (hD.later ha.below) (fun _ => rfl))
  rw [chk0 hc] at h
  simpa [toZs] using h) ?_
 refine zE rfl rfl (zA (zC (zD (zB (zF rfl rfl (zI rfl rfl rfl jP ?_))))))
 refine zA (zC (zR rfl (fun hc0 => ?_) (fun hc0 => ?_)))
 ·exact absurd rfl hc0
  done
 ·refine zQ (zC (zD (zD (zB (zF rfl rfl (zP rfl rfl F.fi27_2 F.ti22 ?_))))))
  refine jE rfl rfl F.one22 ?_
  refine jX rfl rfl Try.underlying22 ?_
  refine zI (v := .int .i64 ((days.length : Int) - 1)) rfl rfl rfl (fun w => vJ w (jF _ (by have := hc.d4; omega) (by have := hc.d4; omega))) ?_
  refine zW (v := .bool true) (vs := [_, _, _]) rfl rfl F.ent52 (fun a w ha => (vZ (day : Int) 0 ((days.length : Int) - 1) w).mono (fun e w' h => ⟨h.1.trans (by rw [show btw (day : Int) 0 ((days.length : Int) - 1) = true from by unfold btw; simp; omega]), h.2⟩)) ?_
  refine kO rfl rfl (zA (zC (jL rfl (zQ (zC (zD (zB (zE rfl rfl (zA (zC (zZ ?_)))))))))))
  exact jI rfl (fun a w ha => jY rfl rfl ha) (fun a w ha => ⟨rfl, ha.grown nsl⟩)

theorem F.ent63 : Enters Try.prog 63 := jG Try.func63 rfl (by kernel_rfl)
theorem F.ent64 : Enters Try.prog 64 := jG Try.func64 rfl (by kernel_rfl)
theorem zHf [R : ReaC] {fA dA : Option Addr} {fc dc kiln : Nat} {day : Nat} {fs : List Flt} {days : List Nat} (hc : ChV fs kiln days) (hcap : days.length <= dc) (hday : day < days.length) (w : World) (hR : RdC w) (hL : Lendy w fA fs) (hF : RdL Flt.cells 4 w fA fs) (hD : RdL ncell 1 w dA days) : Calls Try.prog 39 #[.agg (CA fA fs.length fc kiln dA days.length dc).toArray, .int .i64 (day : Int)] w fun e w' => (∃ n er : Nat, MostP fs kiln (days.take day) n er ∧ e = .returned (.tuple #[.int .i64 (n : Int), .int .i64 (er : Int)])) ∧ Grew w w' [] := by
 refine enter (N := 25) [(0, .agg (CA fA fs.length fc kiln dA days.length dc).toArray), (1, .int .i64 (day : Int))] Try.func39 rfl Try.ntmps39 rfl rfl ?_
 refine zD (zB (jT rfl rfl ?_))
 intro b2
 refine zE rfl rfl (zE rfl rfl (zA (zC (zD (zD (zB (zX rfl rfl F.agg27 F.ti27 ?_)))))))
 refine zF rfl rfl (zW (v := .int .i64 0) (vs := [_, _]) rfl rfl F.ent64 (fun a w ha => zQ0 (dc := dc) (fc := fc) hc hday w (hF.later ha.below) (hD.later ha.below)) ?_)
 refine zE rfl rfl (zA (zC (zD (zB (zF rfl rfl (zI rfl rfl rfl jP ?_))))))
 refine zA (zC (zR rfl (fun hc0 => ?_) (fun hc0 => ?_)))
 ·exact absurd rfl hc0
  done
 ·refine zQ (zC (zD (zB (zX rfl rfl F.agg27 F.ti27 ?_))))
  refine kD (vs := [(0, _)]) (l' := [_, _, _]) rfl rfl F.ti77 F.pl77 (.cons rfl rfl (.nil _)) rfl ?_
  refine zF rfl rfl (jR (X := Nat × Nat) (vs := [_, _]) (p := fun g => MostP fs kiln (days.take day) g.1 g.2) (val := fun g => .tuple #[.int .i64 (if g.2 = 0 then (g.1 : Int) else -1), .bool (decide (g.2 = 0))]) (rs := fun _ => []) rfl rfl F.ent63 (fun a w ha => (zPn hc hcap (day := day) om w (hR.later ha.below) (hL.later ha.below) (hF.later ha.below) (hD.later ha.below)).mono (fun e w' h => ?_)) ?_)
  ·rcases h.1 with ⟨n, h1, h2, h3⟩ | ⟨h1, h3⟩
   ·exact ⟨(n, 0), .inl ⟨rfl, h1, h2⟩, h3, h.2⟩
   ·exact ⟨(0, 11), .inr ⟨rfl, rfl, h1⟩, h3, h.2⟩
  rintro ⟨n, er⟩ hmp
  dsimp only [List.nil_append] at hmp ⊢
  rcases hmp with ⟨rfl, h1, h2⟩ | ⟨rfl, rfl, h1⟩
  ·refine zF rfl rfl (zL rfl rfl rfl (zL rfl rfl rfl (zE rfl rfl (zE rfl rfl (zA (zC (zD (zD (zB (zF rfl rfl (kO rfl rfl (zA (zC (jL rfl (zQ (zC (zD (zB (zF rfl rfl (zE rfl rfl (zE rfl rfl (zA (zC ?_)))))))))))))))))))))))
   refine zZ ?_
   exact jI rfl (fun a w ha => qM rfl rfl rfl ha) (fun a w ha => ⟨⟨n, 0, .inl ⟨rfl, h1, h2⟩, rfl⟩, ha.grown nsl⟩)
  ·refine zF rfl rfl (zL rfl rfl rfl (zL rfl rfl rfl (zE rfl rfl (zE rfl rfl (zA (zC (zD (zD (zB (zF rfl rfl (kO rfl rfl (zA (zC (jZ rfl (zD (zB (zE rfl rfl (zE rfl rfl (zA (zC (zZ (zU ?_))))))))))))))))))))))
   exact jI rfl (fun a w ha => qM rfl rfl rfl ha) (fun a w ha => ⟨⟨0, 11, .inr ⟨rfl, rfl, h1⟩, rfl⟩, ha.grown nsl⟩)

theorem zPl [R : ReaC] {fA dA : Option Addr} {fc dc kiln : Nat} {fs : List Flt} {days : List Nat} (hc : ChV fs kiln days) (hcap : days.length <= dc) (w : World) (hR : RdC w) (hL : Lendy w fA fs) (hF : RdL Flt.cells 4 w fA fs) (hD : RdL ncell 1 w dA days) : Calls Try.prog 37 #[.agg (CA fA fs.length fc kiln dA days.length dc).toArray] w fun e w' => (∃ n er : Nat, MostP fs kiln (days.take days.length) n er ∧ e = .returned (.tuple #[.int .i64 (n : Int), .int .i64 (er : Int)])) ∧ Grew w w' [] := by
 refine enter (N := 24) [(0, .agg (CA fA fs.length fc kiln dA days.length dc).toArray)] Try.func37 rfl Try.ntmps37 rfl rfl ?_
 refine zD (zB (jT rfl rfl ?_))
 intro b1
 refine zE rfl rfl (zE rfl rfl (zA (zC (zD (zD (zB (zX rfl rfl F.agg27 F.ti27 ?_)))))))
 refine zW (v := .int .i64 0) (vs := [_]) rfl rfl F.ent43 (fun a w ha => by
  have h := xT (fA := fA) (dA := dA) (fc := fc) (dc := dc) (fs := fs.map Flt.toZ) (kiln := (kiln : Int)) (days := toZs days) (by have := hc.f3; simp; omega) (by have := hc.d4; simp [toZs]; omega) w (RdL.mapped Flt.toZ (hF.later ha.below) (fun _ => rfl)) (RdL.mapped (fun (n : Nat) => (n : Int)) (hD.later ha.below) (fun _ => rfl))
  rw [chk0 hc] at h
  simpa [toZs] using h) ?_
 refine zE rfl rfl (zA (zC (zD (zB (zF rfl rfl (zI rfl rfl rfl jP ?_))))))
 refine zA (zC (zR rfl (fun hc0 => ?_) (fun hc0 => ?_)))
 ·exact absurd rfl hc0
  done
 ·refine zQ (zC (zD (zB (zX rfl rfl F.agg27 F.ti27 ?_))))
  refine kD (vs := [(0, _)]) (l' := [_, _, _]) rfl rfl F.ti77 F.pl77 (.cons rfl rfl (.nil _)) rfl ?_
  refine zP rfl rfl F.fi27_2 F.ti22 ?_
  refine jE rfl rfl F.one22 ?_
  refine jX rfl rfl Try.underlying22 ?_
  refine jR (X := Nat × Nat) (vs := [_, _]) (p := fun g => MostP fs kiln (days.take days.length) g.1 g.2) (val := fun g => .tuple #[.int .i64 (if g.2 = 0 then (g.1 : Int) else -1), .bool (decide (g.2 = 0))]) (rs := fun _ => []) rfl rfl F.ent63 (fun a w ha => (zPn hc hcap (day := days.length) om w (hR.later ha.below) (hL.later ha.below) (hF.later ha.below) (hD.later ha.below)).mono (fun e w' h => ?_)) ?_
  ·rcases h.1 with ⟨n, h1, h2, h3⟩ | ⟨h1, h3⟩
   ·exact ⟨(n, 0), .inl ⟨rfl, h1, h2⟩, h3, h.2⟩
   ·exact ⟨(0, 11), .inr ⟨rfl, rfl, h1⟩, h3, h.2⟩
  rintro ⟨n, er⟩ hmp
  dsimp only [List.nil_append] at hmp ⊢
  rcases hmp with ⟨rfl, h1, h2⟩ | ⟨rfl, rfl, h1⟩
  ·refine zF rfl rfl (zL rfl rfl rfl (zL rfl rfl rfl (zE rfl rfl (zE rfl rfl (zA (zC (zD (zD (zB (zF rfl rfl (kO rfl rfl (zA (zC (jL rfl (zQ (zC (zD (zB (zF rfl rfl (zE rfl rfl (zE rfl rfl (zA (zC ?_)))))))))))))))))))))))
   refine zZ ?_
   exact jI rfl (fun a w ha => qM rfl rfl rfl ha) (fun a w ha => ⟨⟨n, 0, .inl ⟨rfl, h1, h2⟩, rfl⟩, ha.grown nsl⟩)
  ·refine zF rfl rfl (zL rfl rfl rfl (zL rfl rfl rfl (zE rfl rfl (zE rfl rfl (zA (zC (zD (zD (zB (zF rfl rfl (kO rfl rfl (zA (zC (jZ rfl (zD (zB (zE rfl rfl (zE rfl rfl (zA (zC (zZ (zU ?_))))))))))))))))))))))
   exact jI rfl (fun a w ha => qM rfl rfl rfl ha) (fun a w ha => ⟨⟨0, 11, .inr ⟨rfl, rfl, h1⟩, rfl⟩, ha.grown nsl⟩)

end Go.Proofs.Yteppiphdbondeaa.N
namespace Go.Proofs.Yteppiphdbondeaa.N
open Go Go.RowKit Go.Proofs
set_option linter.unusedSectionVars false
def klnN (fs : List Flt) (days : List Nat) : Nat -> Option Nat
  | 0 => none
  | k + 1 => match klnN fs days k with
    | some x => some x
    | none => if (bstA fs k days).is then some k else none
def sprF (fs : List Flt) (kiln : Nat) (days : List Nat) (d : Nat) : Nat -> Option Nat
  | 0 => none
  | k + 1 => sprN fs kiln days d k
theorem zUv {fs : List Flt} {kiln : Nat} {days : List Nat} {d m : Nat} (h : (bstA fs kiln (days.set d m)).is = false) : sprF fs kiln days d (m + 1) = sprF fs kiln days d m := by
  cases m with
  | zero => unfold sprF sprN; rw [h]; rfl
  | succ m => show sprN fs kiln days d (m + 1) = sprN fs kiln days d m; conv => lhs; unfold sprN
              rw [h]; rfl
theorem zRz {fs : List Flt} {kiln : Nat} {days : List Nat} {d m : Nat} (h : (bstA fs kiln (days.set d m)).is = true) : sprF fs kiln days d (m + 1) = some m := by
  show sprN fs kiln days d m = some m
  cases m with
  | zero => unfold sprN; rw [h]; rfl
  | succ m => unfold sprN; rw [h]; rfl
theorem ChV.kil {fs : List Flt} {kiln k : Nat} {days : List Nat} (h : ChV fs kiln days) (hk : k <= 3) : ChV fs k days := ⟨h.f1, h.f3, h.ff, hk, h.d1, h.d4, h.dd⟩
def optN (o : Option Nat) : Nat := o.getD 0
def optE (o : Option Nat) : Nat := if o.isSome then 0 else 11
end Go.Proofs.Yteppiphdbondeaa.N
