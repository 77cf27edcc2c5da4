/- Parts of the walk of the law CharFewest: T11, ChX, T12, ChE, T13, T14, ChL, T15, ChM, T16, T17, ChN, ChO. -/
import Derived.Test.YteppiphdbondeaaSCharFewest06
import Derived.Test.YteppiphdbondeaaProg
namespace Go.Proofs.Yteppiphdbondeaa.N
open Go Go.RowKit Go.Proofs
set_option linter.unusedSectionVars false
variable [I : Sys]
theorem F.agg109 : aggB Try.prog 109 = true := by unfold aggB; rw [Try.underlying109]
theorem F.ent106 : Enters Try.prog 106 := jD Try.func106 rfl (by kernel_rfl)
theorem F.fi109_0 : FI Try.prog 109 0 3 0 := ⟨_, _, Try.underlying109, rfl, rfl, rfl⟩
theorem F.fi109_1 : FI Try.prog 109 1 3 1 := ⟨_, _, Try.underlying109, rfl, rfl, rfl⟩
theorem F.fi111_0 : FI Try.prog 111 0 109 0 := ⟨_, _, Try.underlying111, rfl, rfl, rfl⟩
theorem F.fi111_1 : FI Try.prog 111 1 4 2 := ⟨_, _, Try.underlying111, rfl, rfl, rfl⟩
theorem F.pl101 : Places Try.prog 101 [(0, 3), (3, 1), (4, 1), (5, 1)] := .inl ⟨_, Try.underlying101, by kernel_rfl⟩
theorem F.ti101 : TI Try.prog 101 (.agg [.slice none 0 0, .int .i64 0, .slice none 0 0, .nilFunc, .nilFunc, .map none].toArray) 6 80 := TI.of (by kernel_rfl)
theorem F.ti109 : TI Try.prog 109 (.agg [.int .i64 0, .int .i64 0].toArray) 2 16 := TI.of (by kernel_rfl)
theorem zGv (fA dA : Option Addr) (fc nd dc kiln : Nat) (fs : List Flt) (w : World) : Calls Try.prog 48 #[.agg (CA fA fs.length fc kiln dA nd dc).toArray] w fun e w' => ∃ b km, e = .returned (pt b) ∧ Grew w w' [.blk b (.cells [.slice fA fs.length fc, .int .i64 (kiln : Int), .slice dA nd dc, .func (.func 66) [].toArray [].toArray, .func (.func 67) [].toArray [].toArray, .map (some km)].toArray 101 (0, 0)), .blk km (KS.obj [])] := by
 refine enter (N := 7) [(0, .agg (CA fA fs.length fc kiln dA nd dc).toArray)] Try.func48 rfl Try.ntmps48 rfl rfl (zD (zB (kA rfl rfl ?_)))
 intro b1
 refine zE rfl rfl (zA (zC (zD (zB (jE rfl rfl F.agg77 F.ti77 (zDp rfl ?_))))))
 intro b4
 refine kG (vs := [(0, _), (1, _), (2, _), (3, _)]) (l' := [_, _, _, _, _, _]) rfl rfl F.ti101 F.pl101 (.cons rfl rfl (.cons rfl rfl (.cons rfl rfl (.cons rfl rfl (.nil _))))) rfl (kA rfl rfl ?_)
 intro b6
 exact zE rfl rfl (zA (zC (zY (jJ rfl (fun a w ha => jO rfl rfl ha) (fun a w ha => ⟨_, _, rfl, ha.grown (.cons_cons _ (.cons_cons _ nsl))⟩)))))

theorem zRb (d : Int) (A : Option Addr) (n c : Nat) (w : World) : Calls Try.prog 66 #[.int .i64 d, .slice A n c] w fun e w' => e = .returned (.bool true) ∧ Grew w w' [] := by
 exact enter (N := 5) [(0, .int .i64 d), (1, .slice A n c)] Try.func66 rfl Try.ntmps66 rfl rfl (zD (zB (zE rfl rfl (zA (zC (zD (zB (zE rfl rfl (zA (zC (zY (jJ rfl (fun a w ha => jO rfl rfl ha) (fun a w ha => ⟨rfl, ha.grown nsl⟩)))))))))))))

theorem zRk (z0 z1 z2 zw : Nat) (w : World) : Calls Try.prog 67 #[.agg (V4 z0 z1 z2 zw).toArray] w fun e w' => e = .returned (.bool true) ∧ Grew w w' [] := by
 refine enter (N := 3) [(0, .agg (V4 z0 z1 z2 zw).toArray)] Try.func67 rfl Try.ntmps67 rfl rfl (zD (zB (kA rfl rfl ?_)))
 intro b1
 exact zE rfl rfl (zA (zC (zD (zB (zE rfl rfl (zA (zC (zY (jJ rfl (fun a w ha => jO rfl rfl ha) (fun a w ha => ⟨rfl, ha.grown nsl⟩))))))))))

theorem zOr (aA : Option Addr) (ac : Nat) (acts : List Nat) (hl : acts.length <= 3) (w : World) (hA : RdL ncell 1 w aA acts) : Calls Try.prog 73 #[.slice aA acts.length ac] w fun e w' => e = .returned (.agg [.int .i64 ((spF acts : Nat) : Int), .int .i64 ((spW acts : Nat) : Int)].toArray) ∧ Grew w w' [] := by
 refine enter (N := 24) [(0, .slice aA acts.length ac)] Try.func73 rfl Try.ntmps73 rfl rfl (zD (zB (zX rfl F.ti109 ?_)))
 intro b2
 refine zA (zC (zD (zB (zX rfl F.ti109 ?_))))
 intro b3
 refine zA (zC (zD (zD (zB (zF rfl rfl (jX rfl rfl Try.underlying22 (zF rfl rfl (zA (zC (zS (xY (G := Nat) (fun k => k <= acts.length) (fun k => acts.length - k) (fun k => [(2, pt b2), (3, pt b3), (6, .slice aA acts.length ac), (7, .int .i64 (acts.length : Int)), (8, .int .i64 (k : Int))]) (fun k => [.blk b3 (.cells [.int .i64 ((spF (acts.take k) : Nat) : Int), .int .i64 ((spW (acts.take k) : Nat) : Int)].toArray 109 (0, 0)), .blk b2 (.cells [.int .i64 0, .int .i64 0].toArray 109 (0, 0))]) 0 (Nat.zero_le _) sbn sbl ?_)))))))))))
 intro k hk
 (try dsimp only at hk ⊢)
 refine zD (zB (zI rfl rfl rfl jR ?_))
 refine zA (zC (zD (zN rfl (fun hc0 => ?_) (fun hc0 => ?_))))
 ·have hk' : k < acts.length := by omega
  obtain ⟨b, o, rfl, hb, hcell⟩ := hA om
  obtain ⟨x, hx⟩ : ∃ x, acts[k]? = some x := ⟨_, List.getElem?_eq_getElem hk'⟩
  obtain ⟨hf1, hw1⟩ := zWp hx
  have hwl := zCy (acts.take k)
  rw [List.length_take] at hwl
  refine zQ (zC (zD (zS (zD (zB (qE (j := k) rfl rfl rfl Try.underlying22 F.ti3 rfl hk' (kN (v := .int .i64 (x : Int)) rfl rfl F.one3 (fun a w ha => ha.old (hcell k x hx 0 _ rfl) hb) (zE rfl rfl (zA (zC (zD (zB (zF rfl rfl (zA (zC (zS (zD (zB (zI rfl rfl rfl jY ?_)))))))))))))))))))
  refine zE rfl rfl (zA (zC (zN rfl (fun hc1 => ?_) (fun hc1 => ?_))))
  ·refine zB (zL rfl rfl F.fi109_0 F.ti3 (zH rfl rfl F.ti3 rfl (zA (zJ (zJ (zC (zB (zI rfl rfl rfl (fun w => jK w (zT _ om om)) (zF rfl rfl (zA (qY (k + 1) om tdo (by (try dsimp only); repeat (first | exact Sub.nil _ | refine Sub.cons rfl ?_)) (by (try dsimp only); rw [hf1, hw1]; rw [if_pos om, if_neg om]; simp only [Nat.add_zero]; repeat (first | exact List.Sublist.refl _ | exact List.nil_sublist _ | refine List.Sublist.cons_cons _ ?_ | refine List.Sublist.cons _ ?_)))))))))))))
  ·refine zD (zB (zI rfl rfl rfl jY ?_))
   refine zE rfl rfl (zA (zC (zN rfl (fun hc2 => ?_) (fun hc2 => ?_))))
   ·refine zB (zL rfl rfl F.fi109_1 F.ti3 (zR rfl rfl F.one3 (zI (v := .int .i64 ((spW (acts.take k) + 1 : Nat) : Int)) rfl rfl rfl (fun w => jK w (by rw [zT _ om om]; omega)) (zL rfl rfl F.fi109_1 F.ti3 (zH rfl rfl F.ti3 rfl (zA (zJ (zJ (zC (zB (zI rfl rfl rfl (fun w => jK w (zT _ om om)) (zF rfl rfl (zA (qY (k + 1) om tdo (by (try dsimp only); repeat (first | exact Sub.nil _ | refine Sub.cons rfl ?_)) (by (try dsimp only); rw [hf1, hw1]; rw [if_neg om, if_pos om]; repeat (first | exact List.Sublist.refl _ | exact List.nil_sublist _ | refine List.Sublist.cons_cons _ ?_ | refine List.Sublist.cons _ ?_))))))))))))))))
   ·refine zQ (zJ (zJ (zC (zB (zI rfl rfl rfl (fun w => jK w (zT _ om om)) (zF rfl rfl (zA (qY (k + 1) om tdo (by (try dsimp only); repeat (first | exact Sub.nil _ | refine Sub.cons rfl ?_)) (by (try dsimp only); rw [hf1, hw1]; rw [if_neg om, if_neg om]; simp only [Nat.add_zero]; repeat (first | exact List.Sublist.refl _ | exact List.nil_sublist _ | refine List.Sublist.cons_cons _ ?_ | refine List.Sublist.cons _ ?_))))))))))
 ·obtain rfl : k = acts.length := by omega
  simp only [List.take_length]
  exact jU (zO (zO (jF (zC (zD (zB (jE rfl rfl F.agg109 F.ti109 (zH rfl rfl F.ti109 rfl (zA (zC (zY (jJ rfl (fun a w ha => by exact xC (ha := ha) rfl rfl F.agg109 F.ti109 rfl) (fun a w ha => ⟨rfl, ha.grown nsl⟩)))))))))))))

theorem zQt (p q r s : Nat) (hp : p < 2 ^ 63) (hq : q < 2 ^ 63) (hr : r < 2 ^ 63) (hs : s < 2 ^ 63) (w : World) : Calls Try.prog 106 #[.agg [.int .i64 (p : Int), .int .i64 (q : Int)].toArray, .agg [.int .i64 (r : Int), .int .i64 (s : Int)].toArray] w fun e w' => e = .returned (.bool (cless p q r s)) ∧ Grew w w' [] := by
 refine enter (N := 29) [(0, .agg [.int .i64 (p : Int), .int .i64 (q : Int)].toArray), (1, .agg [.int .i64 (r : Int), .int .i64 (s : Int)].toArray)] Try.func106 rfl Try.ntmps106 rfl rfl (zD (zB (kA rfl rfl ?_)))
 intro b2
 refine kA rfl rfl ?_
 intro b3
 refine zE rfl rfl (zA (zC (zD (zB (zAd 24 28 (.bool (cless p q r s)) ?_ ?_)))))
 ·refine jE rfl rfl F.agg109 F.ti109 (jE rfl rfl F.agg109 F.ti109 (zO5 rfl rfl rfl (zMq hp hq hr hs _ _) ?_))
  refine zF rfl rfl (wH (t := 8) rfl (fun hg8 => ?_) (fun hg8 => ?_))
  ·refine zM rfl rfl (zL rfl rfl F.fi109_0 F.ti3 (zM rfl rfl (zR rfl rfl F.one3 (zM rfl rfl (zL rfl rfl F.fi109_0 F.ti3 (zM rfl rfl (zR rfl rfl F.one3 (zM rfl rfl (zI rfl rfl rfl jR ?_)))))))))
   refine zM rfl rfl (zF rfl rfl (wH (t := 14) rfl (fun hg14 => ?_) (fun hg14 => ?_)))
   ·exact jH rfl rfl rfl (jH rfl rfl rfl (jH rfl rfl rfl (jH rfl rfl rfl (jH rfl rfl rfl (jH rfl rfl rfl (kQ rfl rfl rfl (kQ rfl rfl rfl (kQ rfl rfl rfl (kQ rfl rfl rfl (kQ rfl rfl rfl (jH rfl rfl rfl (zM rfl rfl (jI rfl rfl rfl (jI rfl rfl rfl (zA (xW (.cons (by unfold cless; simp_all [look] <;> (try rw [Bool.eq_iff_iff]) <;> (try simp) <;> omega) sbn) sbl))))))))))))))))
   ·refine zM rfl rfl (zL rfl rfl F.fi109_0 F.ti3 (zM rfl rfl (zR rfl rfl F.one3 (zM rfl rfl (zL rfl rfl F.fi109_0 F.ti3 (zM rfl rfl (zR rfl rfl F.one3 (zM rfl rfl (zI rfl rfl rfl jY ?_)))))))))
    refine zM rfl rfl (zF rfl rfl (wH (t := 20) rfl (fun hg20 => ?_) (fun hg20 => ?_)))
    ·exact zM rfl rfl (zL rfl rfl F.fi109_1 F.ti3 (zM rfl rfl (zR rfl rfl F.one3 (zM rfl rfl (zL rfl rfl F.fi109_1 F.ti3 (zM rfl rfl (zR rfl rfl F.one3 (zM rfl rfl (zI rfl rfl rfl jR (zM rfl rfl (jI rfl rfl rfl (zM rfl rfl (jQ rfl rfl rfl (jI rfl rfl rfl (zA (xW (.cons (by unfold cless; simp_all [look] <;> (try rw [Bool.eq_iff_iff]) <;> (try simp) <;> omega) sbn) sbl))))))))))))))))
    ·exact jH rfl rfl rfl (jH rfl rfl rfl (jH rfl rfl rfl (jH rfl rfl rfl (jH rfl rfl rfl (zM rfl rfl (jQ rfl rfl rfl (zM rfl rfl (jQ rfl rfl rfl (jI rfl rfl rfl (zA (xW (.cons (by unfold cless; simp_all [look] <;> (try rw [Bool.eq_iff_iff]) <;> (try simp) <;> omega) sbn) sbl)))))))))))
  ·exact jH rfl rfl rfl (jH rfl rfl rfl (jH rfl rfl rfl (jH rfl rfl rfl (jH rfl rfl rfl (jH rfl rfl rfl (kQ rfl rfl rfl (kQ rfl rfl rfl (kQ rfl rfl rfl (kQ rfl rfl rfl (kQ rfl rfl rfl (kQ rfl rfl rfl (kQ rfl rfl rfl (kQ rfl rfl rfl (kQ rfl rfl rfl (kQ rfl rfl rfl (kQ rfl rfl rfl (kQ rfl rfl rfl (jH rfl rfl rfl (jQ rfl rfl rfl (zA (xW (.cons (by unfold cless; simp_all [look] <;> (try rw [Bool.eq_iff_iff]) <;> (try simp) <;> omega) sbn) sbl)))))))))))))))))))))
 exact zE rfl rfl (zA (zC (zY (jJ rfl (fun a w ha => jO rfl rfl ha) (fun a w ha => ⟨rfl, ha.grown nsl⟩)))))

theorem zVo (x o : Oc) (h1 : x.f < 2 ^ 63) (h2 : x.w < 2 ^ 63) (h3 : o.f < 2 ^ 63) (h4 : o.w < 2 ^ 63) (w : World) : Calls Try.prog 83 #[.agg [.int .i64 (x.f : Int), .int .i64 (x.w : Int), .bool x.is].toArray, .agg [.int .i64 (o.f : Int), .int .i64 (o.w : Int), .bool o.is].toArray] w fun e w' => e = .returned (.bool (oless x o)) ∧ Grew w w' [] := by
 refine enter (N := 19) [(0, .agg [.int .i64 (x.f : Int), .int .i64 (x.w : Int), .bool x.is].toArray), (1, .agg [.int .i64 (o.f : Int), .int .i64 (o.w : Int), .bool o.is].toArray)] Try.func83 rfl Try.ntmps83 rfl rfl (zD (zB (kA rfl rfl ?_)))
 intro b2
 refine kA rfl rfl ?_
 intro b3
 refine zE rfl rfl (zA (zC (zD (zB (zAd 14 18 (.bool (oless x o)) ?_ ?_)))))
 ·refine zL rfl rfl F.fi111_1 F.ti4 (zR rfl rfl F.one4 ?_)
  refine zF rfl rfl (vS (t := 7) rfl (fun hg7 => ?_) (fun hg7 => ?_))
  ·refine zM rfl rfl (zL rfl rfl F.fi111_1 F.ti4 (zM rfl rfl (zR rfl rfl F.one4 ?_)))
   refine zM rfl rfl (qF rfl rfl (zM rfl rfl (zF rfl rfl (vS (t := 11) rfl (fun hg11 => ?_) (fun hg11 => ?_)))))
   ·exact jH rfl rfl rfl (jH rfl rfl rfl (jH rfl rfl rfl (jH rfl rfl rfl (jH rfl rfl rfl (zM rfl rfl (jI rfl rfl rfl (jI rfl rfl rfl (zA (xW (.cons (by unfold oless; simp_all [look]) sbn) sbl)))))))))
   ·exact zM rfl rfl (zL rfl rfl F.fi111_0 F.ti109 (zM rfl rfl (jE rfl rfl F.agg109 F.ti109 (zM rfl rfl (zL rfl rfl F.fi111_0 F.ti109 (zM rfl rfl (jE rfl rfl F.agg109 F.ti109 (zM rfl rfl (jM (v := .bool (cless x.f x.w o.f o.w)) (vs := [_, _]) rfl rfl F.ent106 (fun a w ha => zQt x.f x.w o.f o.w h1 h2 h3 h4 w) (zM rfl rfl (jQ rfl rfl rfl (jI rfl rfl rfl (zA (xW (.cons (by unfold oless; simp_all [look]) sbn) sbl))))))))))))))
  ·exact jH rfl rfl rfl (jH rfl rfl rfl (jH rfl rfl rfl (jH rfl rfl rfl (kQ rfl rfl rfl (kQ rfl rfl rfl (kQ rfl rfl rfl (kQ rfl rfl rfl (kQ rfl rfl rfl (jH rfl rfl rfl (jQ rfl rfl rfl (zA (xW (.cons (by unfold oless; simp_all [look]) sbn) sbl))))))))))))
 exact zE rfl rfl (zA (zC (zY (jJ rfl (fun a w ha => jO rfl rfl ha) (fun a w ha => ⟨rfl, ha.grown nsl⟩)))))

variable {R : Ending -> World -> Prop} {f : FuncId} {fn : Func} {vs : List Value}
section
variable {C : Ctx} {fr : List (Nat × Value)} {hp hp' : List Res} {a : Act} {w : World} {ops : Array Oper} {Q : Exit -> Act -> World -> Prop} {rest : List Oper}
 {d : Nat} {ty : TypeId} {pos : String} {after : Array Edge}
theorem zJe {x : Operand} {first cap : List Value} {args : Array Operand} {ts : Array TypeId} {v : Value} (hd : Nat.blt d C.N = true)
  (hx : ev fr x = some (.func (.func f) first.toArray cap.toArray)) (hargs : args.toList.map (ev fr) = vs.map some) (hf : Enters C.P f)
  (hc : ∀ a w, At C fr hp a w -> Calls C.P f (first ++ vs ++ cap).toArray w fun e w' => e = .returned v ∧ Grew w w' [])
  (k : Lst C ops Q rest ((d, v) :: fr) hp) : Lst C ops Q (⟨some d, .call { callee := .value x, args := args, argTypes := ts }, ty, pos, after, none⟩ :: rest) fr hp :=
 xB (X := Unit) (p := fun _ => True) (val := fun _ => v) (rs := fun _ => hp) hd hx hargs hf
  (fun a w ha => (hc a w ha).mono fun _ _ ⟨h1, h2⟩ => ⟨(), trivial, h1, by simpa using ha.more h2⟩) (fun _ _ => k)
theorem zKd {c : Code} {fr0 : List (Nat × Value)} {a0 : Act} {N : Nat} (fr : List (Nat × Value)) (ha : At C fr0 hp a0 w)
  (hf : C.P.funcs[f]? = some fn) (hb : fn.body = some c) (hN : fn.ntmps = N) (hle : Nat.ble vs.length N = true) (hfr : idx 0 vs = fr)
  (h : Cod ⟨C.P, C.B, C.w0, N, []⟩ c (bodyPostD C.P fn R) fr hp) : Calls C.P f vs.toArray w R := by
 refine zB0 hf hb (h _ _ ⟨?_, rfl, ?_, ha.below, ha.base, ha.own, ha.apart⟩)
 ·have : vs.length <= N := by simpa [Nat.ble_eq] using hle
  simp [hN]; omega
 ·intro t v ht
  rw [<- hfr] at ht
  obtain ⟨j, rfl, hj⟩ := zA0 vs 0 t v ht
  have hjl : j < vs.length := by
   rcases Nat.lt_or_ge j vs.length with h1 | h1
   ·exact h1
   ·rw [List.getElem?_eq_none h1] at hj; cases hj
  simp only [Nat.zero_add, Array.getD_eq_getD_getElem?]
  rw [Array.getElem?_append_left (by simpa using hjl)]
  simp [hj]
theorem zJ1 {x : Value} (hds : C.ds = []) (hr : ∀ a w, At C fr hp a w -> ResV C.P fn a.tmps x w) (k : ∀ a w, At C fr hp a w -> R (.returned x) w) : Ex C (bodyPostD C.P fn R) .ret fr hp := fun a w ha => by
 show Leaves C.P fn a.tmps R a.defers .returning w
 rw [ha.defs, hds]
 exact ⟨x, hr a w ha, k a w ha⟩
end
end Go.Proofs.Yteppiphdbondeaa.N
namespace Go.Proofs.Yteppiphdbondeaa.N
open Go Go.RowKit Go.Proofs
set_option linter.unusedSectionVars false
variable [I : Sys]
theorem F.agg111 : aggB Try.prog 111 = true := by unfold aggB; rw [Try.underlying111]
theorem F.ent83 : Enters Try.prog 83 := jD Try.func83 rfl (by kernel_rfl)
theorem F.ti111 : TI Try.prog 111 (.agg [.int .i64 0, .int .i64 0, .bool false].toArray) 3 24 := TI.of (by kernel_rfl)
theorem zJ0 (A : Option Addr) (c : Nat) (x o : Oc) (h1 : x.f < 2 ^ 63) (h2 : x.w < 2 ^ 63) (h3 : o.f < 2 ^ 63) (h4 : o.w < 2 ^ 63) (w : World) (hA : RdL Oc.cells 3 w A [x]) : Calls Try.prog 82 #[.func (.func 83) [].toArray [].toArray, .agg [.int .i64 (o.f : Int), .int .i64 (o.w : Int), .bool o.is].toArray, .slice A 1 c] w fun e w' => e = .returned (.agg [.int .i64 ((lst2 o x).f : Int), .int .i64 ((lst2 o x).w : Int), .bool (lst2 o x).is].toArray) ∧ Grew w w' [] := by
 refine enter (N := 22) [(0, .func (.func 83) [].toArray [].toArray), (1, .agg [.int .i64 (o.f : Int), .int .i64 (o.w : Int), .bool o.is].toArray), (2, .slice A 1 c)] Try.func82 rfl Try.ntmps82 rfl rfl (zD (zB (kA rfl rfl ?_)))
 intro b4
 refine zX rfl F.ti111 ?_
 intro b6
 refine zA (zC (zD (zD (zB (zF rfl rfl (jX rfl rfl Try.underlying158 (zF rfl rfl (zA (zC (zS (xY (G := Oc × Nat) (fun g => (g.2 = 0 ∧ g.1 = o) ∨ (g.2 = 1 ∧ g.1 = lst2 o x)) (fun g => 1 - g.2) (fun g => [(0, .func (.func 83) [].toArray [].toArray), (4, pt b4), (6, pt b6), (9, .slice A 1 c), (10, .int .i64 1), (11, .int .i64 (g.2 : Int))]) (fun g => [.blk b6 (OO 0 0 false 111), .blk b4 (OO g.1.f g.1.w g.1.is 111)]) (o, 0) (.inl ⟨rfl, rfl⟩) sbn sbl ?_)))))))))))
 rintro ⟨oc, k⟩ hk
 (try dsimp only at hk ⊢)
 refine zD (zB (zI rfl rfl rfl jR ?_))
 refine zA (zC (zD (zN rfl (fun hc0 => ?_) (fun hc0 => ?_))))
 ·have hk0 : k = 0 := by omega
  obtain rfl : o = oc := by rcases hk with h | h; exact h.2.symm; omega
  subst hk0
  obtain ⟨b, ob, rfl, hb, hcell⟩ := hA (by simp)
  refine zQ (zC (zD (zS (zD (zB (qE (j := 0) rfl rfl rfl Try.underlying158 F.ti111 rfl om (qZ (l := [.int .i64 (x.f : Int), .int .i64 (x.w : Int), .bool x.is]) rfl rfl F.agg111 F.ti111 rfl (fun a w ha j u hu => ha.old (hcell 0 x rfl j u hu) hb) (zX rfl F.ti111 ?_))))))))
  intro b8
  refine zH rfl rfl F.ti111 rfl (zA (zC (zD (zB (zF rfl rfl (jE rfl rfl F.agg111 F.ti111 (jE rfl rfl F.agg111 F.ti111 (zJe (v := .bool (oless x o)) (first := []) (cap := []) (vs := [_, _]) rfl rfl rfl F.ent83 (fun a w ha => zVo x o h1 h2 h3 h4 w) ?_))))))))
  refine zA (zC (qD rfl (fun hc1 => ?_) (fun hc1 => ?_)))
  ·refine zB (jE rfl rfl F.agg111 F.ti111 (zH rfl rfl F.ti111 rfl (zA (zJ (zC (zB (zI rfl rfl rfl (fun w => jK w (zT _ om om)) (zF rfl rfl (zA (qY (lst2 o x, 1) (.inr ⟨rfl, rfl⟩) (by simp) (by (try dsimp only); repeat (first | exact Sub.nil _ | refine Sub.cons rfl ?_)) (by (try dsimp only); rw [show lst2 o x = x from if_pos hc1]; repeat (first | exact List.Sublist.refl _ | exact List.nil_sublist _ | refine List.Sublist.cons_cons _ ?_ | refine List.Sublist.cons _ ?_))))))))))))
  ·refine zQ (zJ (zC (zB (zI rfl rfl rfl (fun w => jK w (zT _ om om)) (zF rfl rfl (zA (qY (lst2 o x, 1) (.inr ⟨rfl, rfl⟩) (by simp) (by (try dsimp only); repeat (first | exact Sub.nil _ | refine Sub.cons rfl ?_)) (by (try dsimp only); rw [show lst2 o x = o from if_neg (by rw [hc1]; simp)]; repeat (first | exact List.Sublist.refl _ | exact List.nil_sublist _ | refine List.Sublist.cons_cons _ ?_ | refine List.Sublist.cons _ ?_)))))))))
 ·obtain rfl : oc = lst2 o x := by rcases hk with h | h; (have := h.1; omega); exact h.2
  exact jU (zO (zO (jF (zC (zD (zB (jE rfl rfl F.agg111 F.ti111 (zH rfl rfl F.ti111 rfl (zA (zC (zY (jJ rfl (fun a w ha => by exact xC (ha := ha) rfl rfl F.agg111 F.ti111 rfl) (fun a w ha => ⟨rfl, ha.grown nsl⟩)))))))))))))

end Go.Proofs.Yteppiphdbondeaa.N
namespace Go.Proofs.Yteppiphdbondeaa.N
open Go Go.RowKit Go.Proofs
set_option linter.unusedSectionVars false
variable {A : Option Addr} {B b d n : Nat} {kn : List (Spot × Value)} {l : List Nat} {m : Mor} {w w0 : World}
structure Srch where
 fA : Option Addr
 dA : Option Addr
 fc : Nat
 dc : Nat
 kiln : Nat
 fs : List Flt
 days : List Nat
 fa : FuncId
 fl : FuncId
 capA : List Value
 capL : List Value
 alw : Nat -> List Nat -> Bool
 las : Mor -> Bool
def Srch.cells (s : Srch) (km : Nat) : List Value := [.slice s.fA s.fs.length s.fc, .int .i64 (s.kiln : Int), .slice s.dA s.days.length s.dc, .func (.func s.fa) [].toArray s.capA.toArray, .func (.func s.fl) [].toArray s.capL.toArray, .map (some km)]
abbrev SOb (s : Srch) (km t : Nat) : Obj := .cells [.slice s.fA s.fs.length s.fc, .int .i64 (s.kiln : Int), .slice s.dA s.days.length s.dc, .func (.func s.fa) [].toArray s.capA.toArray, .func (.func s.fl) [].toArray s.capL.toArray, .map (some km)].toArray t (0, 0)
structure Srch.Ok (s : Srch) : Prop where
 f3 : s.fs.length <= 3
 ff : ∀ f ∈ s.fs, FltOk f
 d5 : s.days.length <= 5
 dd : ∀ n ∈ s.days, n <= 12
 ea : Enters Try.prog s.fa
 el : Enters Try.prog s.fl
def Srch.bst (s : Srch) (n : Nat) (m : Mor) : Oc := bstO s.alw s.las s.fs s.kiln s.days n m
def Srch.stp (s : Srch) (n : Nat) (m : Mor) (l : List Nat) : Oc := stpO s.alw s.fs s.kiln s.days (s.bst n) (s.days.length - (n + 1)) m l
theorem Srch.bst_succ (s : Srch) (n : Nat) (m : Mor) : s.bst (n + 1) m = (exts [] s.fs.length).foldl (fun o l => lst2 o (s.stp n m l)) noOc := rfl
theorem Srch.bst_le {s : Srch} (h : s.Ok) (n : Nat) (m : Mor) : (s.bst n m).f <= n ∧ (s.bst n m).w <= 3 * n := zGk h.f3 n m
theorem Srch.stp_le {s : Srch} (h : s.Ok) (n : Nat) (m : Mor) {l : List Nat} (hl : l.length <= 3) : (s.stp n m l).f <= n + 1 ∧ (s.stp n m l).w <= 3 * n + 3 := by
 unfold Srch.stp stpO
 split
 ·simp [noOc]
 ·split
  ·simp [noOc]
  ·have := s.bst_le h n (dayE s.fs s.kiln m l (s.days.getD (s.days.length - (n + 1)) 0)).2
   have := zCp l
   have := zCy l
   dsimp only
   omega
structure KnOk (s : Srch) (kn : List (Spot × Value)) : Prop where
 nodup : (kn.map (·.1)).Nodup
 ok : ∀ e ∈ kn, MOk e.1.1 ∧ e.1.2 < s.days.length
 val : ∀ e ∈ kn, e.2 = (s.bst (s.days.length - e.1.2) e.1.1).val
theorem KnOk.nil (s : Srch) : KnOk s [] := ⟨List.nodup_nil, fun _ h => (by cases h), fun _ h => (by cases h)⟩
theorem KnOk.spots {s : Srch} (h : KnOk s kn) (hs : s.Ok) : ∀ x ∈ kn, KS.ok x.1 := fun x hx => ⟨(h.ok x hx).1, by have := (h.ok x hx).2; have := hs.d5; omega⟩
theorem KnOk.add {s : Srch} (h : KnOk s kn) (hm : MOk m) (hd : d < s.days.length) (hn : ((m, d) : Spot) ∉ kn.map (·.1)) : KnOk s (kn ++ [(((m, d) : Spot), (s.bst (s.days.length - d) m).val)]) := by
 refine ⟨?_, fun e he => ?_, fun e he => ?_⟩
 ·rw [List.map_append, List.nodup_append]
  exact ⟨h.nodup, by simp, fun a ha b hb e => by simp at hb; subst hb; exact hn (e ▸ ha)⟩
 ·rcases List.mem_append.1 he with he | he
  ·exact h.ok e he
  ·simp only [List.mem_singleton] at he
   subst he
   exact ⟨hm, hd⟩
 ·rcases List.mem_append.1 he with he | he
  ·exact h.val e he
  ·simp only [List.mem_singleton] at he
   subst he
   rfl
section
variable [I : Sys]
structure Srch.Env (s : Srch) (w : World) : Prop where
 rf : RdL Flt.cells 4 w s.fA s.fs
 rd : RdL ncell 1 w s.dA s.days
 al : ∀ (A : Option Addr) (c d : Nat) (acts : List Nat), RdL ncell 1 w A acts -> acts.length = s.fs.length -> d < s.days.length -> Calls Try.prog s.fa (([.int .i64 (d : Int), .slice A acts.length c] : List Value) ++ s.capA).toArray w fun e w' => e = .returned (.bool (s.alw d acts)) ∧ Grew w w' []
 la : ∀ (m : Mor), MOk m -> Calls Try.prog s.fl (([m.val] : List Value) ++ s.capL).toArray w fun e w' => e = .returned (.bool (s.las m)) ∧ Grew w w' []
def Stays (B : Nat) (w0 : World) (T : List Res) (φ : World -> Prop) : Prop := ∀ N ds fr hp a w, (∀ r ∈ T, r ∈ hp) -> At ⟨Try.prog, B, w0, N, ds⟩ fr hp a w -> φ w
theorem Stays.more {T T' : List Res} {φ : World -> Prop} (h : Stays B w0 T φ) (hs : ∀ r ∈ T, r ∈ T') : Stays B w0 T' φ := fun N ds fr hp a w hr ha => h N ds fr hp a w (fun r h => hr r (hs r h)) ha
theorem Stays.row {c : Nat} : Stays B w0 [.row 3 1 A l.length c (ints l)] fun w => RdL ncell 1 w A l := fun _ _ _ _ _ _ hr ha => zGq (c := c) ha (fun _ => rfl) (hr _ (by simp))
def BestC (s : Srch) (n : Nat) : Prop :=
 ∀ (B : Nat) (w0 : World) (T : List Res) (N : Nat) (ds : List Deferred) (fr : List (Nat × Value)) (a : Act) (w : World) (kn : List (Spot × Value)) (km sb d z0 z1 z2 zw : Nat),
  d + n = s.days.length -> MOk ⟨[z0, z1, z2], zw⟩ -> KnOk s kn -> Stays B w0 T s.Env ->
  At ⟨Try.prog, B, w0, N, ds⟩ fr (.blk km (KS.obj kn) :: .blk sb (.cells (s.cells km).toArray 101 (0, 0)) :: T) a w ->
  Calls Try.prog 68 #[pt sb, .agg [.int .i64 (z0 : Int), .int .i64 (z1 : Int), .int .i64 (z2 : Int), .int .u8 (zw : Int), .int .i64 (d : Int)].toArray] w fun e w' =>
   ∃ kn', (KnOk s kn' ∧ ∀ x ∈ kn', x ∈ kn ∨ d <= x.1.2) ∧ e = .returned (s.bst n ⟨[z0, z1, z2], zw⟩).val ∧ At ⟨Try.prog, B, w0, N, ds⟩ fr (.blk km (KS.obj kn') :: .blk sb (.cells (s.cells km).toArray 101 (0, 0)) :: T) a w'
end
structure BI (s : Srch) (kn : List (Spot × Value)) (n d : Nat) (x : Oc × List (Spot × Value)) : Prop where
 le : x.1.f <= n + 1 ∧ x.1.w <= 3 * n + 3
 ok : KnOk s x.2
 late : ∀ e ∈ x.2, e ∈ kn ∨ d + 1 <= e.1.2
def BPre (s : Srch) (kn : List (Spot × Value)) (n d : Nat) (x : Oc × List (Spot × Value)) (l : List Nat) : Prop := BI s kn n d x ∧ l.length = s.fs.length
def BStep (s : Srch) (kn : List (Spot × Value)) (n d : Nat) (m : Mor) (x : Oc × List (Spot × Value)) (l : List Nat) (x' : Oc × List (Spot × Value)) (b : Bool) : Prop := b = true ∧ BI s kn n d x' ∧ x'.1 = lst2 x.1 (s.stp n m l)
theorem zOn {s : Srch} : ∀ (ls : List (List Nat)) (x : Oc × List (Spot × Value)), (∀ l ∈ ls, l.length = s.fs.length) -> BI s kn n d x -> Ready (BPre s kn n d) (BStep s kn n d m) x ls
 | [], _, _, _ => trivial
 | l :: ls, x, hl, hx => ⟨⟨hx, hl l (by simp)⟩, fun x' hx' => zOn ls x' (fun l h => hl l (by simp [h])) hx'.2.1⟩
theorem zZb {s : Srch} {ls : List (List Nat)} {x x' : Oc × List (Spot × Value)} {b : Bool} (h : Runs (BStep s kn n d m) x ls x' b) : BI s kn n d x -> b = true ∧ BI s kn n d x' ∧ x'.1 = ls.foldl (fun o l => lst2 o (s.stp n m l)) x.1 := by
 induction h with
 | nil x => exact fun hx => ⟨rfl, hx, rfl⟩
 | cons h1 _ ih =>
  intro _
  obtain ⟨h2, h3, h4⟩ := ih h1.2.1
  refine ⟨h2, h3, ?_⟩
  rw [h4, h1.2.2]
  rfl
 | stop h1 => cases h1.1
theorem zJo (h : RdL ncell 1 w A l) (hl : 0 < l.length) : ∃ b o, A = some ⟨b, o, none⟩ := by
 obtain ⟨b, o, h1, _⟩ := h hl
 exact ⟨b, o, h1⟩
theorem zJq {o k x : Nat} (h : RdL ncell 1 w (some ⟨b, o, none⟩) l) (hx : l[k]? = some x) : w.cell? ⟨b, o + k * 1 + 0, none⟩ = some (.int .i64 (x : Int)) := by
 have hl : 0 < l.length := by
  have := (List.getElem?_eq_some_iff.1 hx).1
  omega
 obtain ⟨b', o', h1, _, h3⟩ := h hl
 cases h1
 exact h3 k x hx 0 _ rfl
theorem zero111 (w : World) : (zeroValue 111).run Try.prog w = .ok (.agg [.int .i64 0, .int .i64 0, .bool false].toArray) w := by
 letI : Sys := nSys Try.prog (Cp 0 131 msgM) 0
 obtain ⟨i, hi, hz, _⟩ := (TI.of kr : TI Try.prog 111 (.agg [.int .i64 0, .int .i64 0, .bool false].toArray) 3 24)
 simp [zeroValue, typeInfo, hi, hz]
theorem zZc {s : Srch} (h : KnOk s kn) (hd : s.days.length - d = n + 1) (hm : ((m, d) : Spot) ∈ kn.map (·.1)) : (((m, d) : Spot), (s.bst (n + 1) m).val) ∈ kn := by
 obtain ⟨e, he, e1⟩ := List.mem_map.1 hm
 have h2 := h.val e he
 rw [e1] at h2
 dsimp only at h2
 rw [hd] at h2
 obtain ⟨k, v⟩ := e
 dsimp only at e1 h2
 subst e1
 rw [<- h2]
 exact he
theorem zMt [_I : Sys] {C : Ctx} {fr : List (Nat × Value)} {hp : List Res} {a : Act} {o : Oc} {t : TypeId} {fz : Nat × Nat} (ha : At C fr hp a w) (hb : Res.blk b (.cells o.cells.toArray t fz) ∈ hp) : RdL Oc.cells 3 w (some ⟨b, 0, none⟩) [o] := fun _ => by
 refine ⟨b, 0, rfl, (Array.getElem?_eq_some_iff.1 (ha.mem_blk hb)).1, fun k x hk j u hu => ?_⟩
 rcases k with _ | k
 ·simp at hk
  subst hk
  rw [cell_of_row w b _ _ _ _ (ha.mem_blk hb)]
  simpa using hu
 ·simp at hk
end Go.Proofs.Yteppiphdbondeaa.N
namespace Go.Proofs.Yteppiphdbondeaa.N
open Go Go.RowKit Go.Proofs
set_option linter.unusedSectionVars false
variable [I : Sys]
theorem F.ent68 : Enters Try.prog 68 := jD Try.func68 rfl (by kernel_rfl)
theorem F.ent73 : Enters Try.prog 73 := jD Try.func73 rfl (by kernel_rfl)
theorem F.fi101_0 : FI Try.prog 101 0 77 0 := ⟨_, _, Try.underlying101, rfl, rfl, rfl⟩
theorem F.fi101_1 : FI Try.prog 101 1 97 3 := ⟨_, _, Try.underlying101, rfl, rfl, rfl⟩
theorem F.fi107_0 : FI Try.prog 107 0 95 0 := ⟨_, _, Try.underlying107, rfl, rfl, rfl⟩
theorem F.fi107_1 : FI Try.prog 107 1 3 4 := ⟨_, _, Try.underlying107, rfl, rfl, rfl⟩
theorem F.one97 : One Try.prog 97 := ⟨by unfold aggB; rw [Try.underlying97], by rw [Try.underlying97]; simp⟩
theorem F.pl107 : Places Try.prog 107 [(0, 4), (4, 1)] := .inl ⟨_, Try.underlying107, by kernel_rfl⟩
theorem F.pl111 : Places Try.prog 111 [(0, 2), (2, 1)] := .inl ⟨_, Try.underlying111, by kernel_rfl⟩
theorem F.ti107 : TI Try.prog 107 (.agg [.int .i64 0, .int .i64 0, .int .i64 0, .int .u8 0, .int .i64 0].toArray) 5 40 := TI.of (by kernel_rfl)
theorem F.ti97 : TI Try.prog 97 (.nilFunc) 1 8 := TI.of (by kernel_rfl)
theorem zM8 {s : Srch} (hs : s.Ok) {n : Nat} (ih : BestC s n) {B : Nat} {w0 : World} {T : List Res} {N : Nat} {ds : List Deferred} {fr : List (Nat × Value)} {a : Act} {w : World} {kn : List (Spot × Value)} {km sb d z0 z1 z2 zw ac : Nat} {aA : Option Addr} {acts : List Nat} (hd : d + (n + 1) = s.days.length) (hm : MOk (⟨[z0, z1, z2], zw⟩ : Mor)) (hz0 : z0 <= 4) (hz1 : z1 <= 4) (hz2 : z2 <= 4) (hzw : zw < 8) (hal : acts.length = s.fs.length) (hkn : KnOk s kn) (hE : Stays B w0 T s.Env) (hAc : Stays B w0 T fun w => RdL ncell 1 w aA acts) (ha : At ⟨Try.prog, B, w0, N, ds⟩ fr (.blk km (KS.obj kn) :: .blk sb (.cells (s.cells km).toArray 101 (0, 0)) :: T) a w) : Calls Try.prog 70 #[pt sb, .agg [.int .i64 (z0 : Int), .int .i64 (z1 : Int), .int .i64 (z2 : Int), .int .u8 (zw : Int), .int .i64 (d : Int)].toArray, .slice aA acts.length ac] w fun e w' => ∃ kn', (KnOk s kn' ∧ ∀ x ∈ kn', x ∈ kn ∨ d + 1 <= x.1.2) ∧ e = .returned (s.stp n (⟨[z0, z1, z2], zw⟩ : Mor) acts).val ∧ At ⟨Try.prog, B, w0, N, ds⟩ fr (.blk km (KS.obj kn') :: .blk sb (.cells (s.cells km).toArray 101 (0, 0)) :: T) a w' := by
 have hs5 := hs.d5
 have hs3 := hs.f3
 have ha0 : At ⟨Try.prog, B, w0, N, ds⟩ fr (.blk km (KS.obj kn) :: .blk sb (SOb s km 101) :: T) a w := ha
 obtain ⟨sugar, hsx⟩ : ∃ x, s.days[d]? = some x := ⟨_, List.getElem?_eq_getElem om⟩
 have hxs : sugar <= 12 := hs.dd sugar (List.mem_of_getElem? hsx)
 obtain ⟨db, dbo, hdA⟩ := zJo (hE _ _ _ _ _ _ (fun r hr => by simp [hr]) ha).rd om
 have hglen : acts.length <= s.fs.length := by omega
 obtain ⟨hok2, -⟩ := wC (fs := s.fs) (kiln := s.kiln) (m := (⟨[z0, z1, z2], zw⟩ : Mor)) (acts := acts) (sugar := sugar) hs.ff hm hglen hs.f3
 have htry : ∀ w, RdL Flt.cells 4 w s.fA s.fs -> RdL ncell 1 w aA acts -> Calls Try.prog 71 #[.agg [.slice s.fA s.fs.length s.fc, .int .i64 (s.kiln : Int), .slice s.dA s.days.length s.dc].toArray, .agg (V4 z0 z1 z2 zw).toArray, .slice aA acts.length ac, .int .i64 (sugar : Int)] w (fun e w' => e = .returned (.tuple #[(dayE s.fs s.kiln (⟨[z0, z1, z2], zw⟩ : Mor) acts sugar).2.val, .int .i64 (((dayE s.fs s.kiln (⟨[z0, z1, z2], zw⟩ : Mor) acts sugar).1 : Nat) : Int)]) ∧ Grew w w' []) := fun w hF hA => zLq s.fA s.dA aA s.fc s.days.length s.dc ac s.kiln s.fs hs.f3 hs.ff z0 z1 z2 zw hz0 hz1 hz2 hzw acts hglen sugar hxs w hF hA
 have hstp : s.stp n (⟨[z0, z1, z2], zw⟩ : Mor) acts = if s.alw d acts = false then noOc else if (dayE s.fs s.kiln (⟨[z0, z1, z2], zw⟩ : Mor) acts sugar).1 ≠ 0 then noOc else ⟨(s.bst n (dayE s.fs s.kiln (⟨[z0, z1, z2], zw⟩ : Mor) acts sugar).2).f + spF acts, (s.bst n (dayE s.fs s.kiln (⟨[z0, z1, z2], zw⟩ : Mor) acts sugar).2).w + spW acts, (s.bst n (dayE s.fs s.kiln (⟨[z0, z1, z2], zw⟩ : Mor) acts sugar).2).is⟩ := by
  unfold Srch.stp stpO
  rw [show s.days.length - (n + 1) = d from by omega, show s.days.getD d 0 = sugar from by rw [List.getD_eq_getElem?_getD, hsx]; rfl]
 generalize dayE s.fs s.kiln (⟨[z0, z1, z2], zw⟩ : Mor) acts sugar = st at hok2 htry hstp ⊢
 obtain ⟨er, nm⟩ := st
 dsimp only at hok2 htry hstp ⊢
 obtain ⟨y0, y1, y2, yw, rfl, hy0, hy1, hy2, hyw⟩ := hok2.form
 refine yJ (N := 71) [(0, pt sb), (1, .agg [.int .i64 (z0 : Int), .int .i64 (z1 : Int), .int .i64 (z2 : Int), .int .u8 (zw : Int), .int .i64 (d : Int)].toArray), (2, .slice aA acts.length ac)] ha0 Try.func70 rfl Try.ntmps70 rfl rfl (zD (zB (kA rfl rfl ?_)))
 intro b4
 refine zX rfl F.ti111 ?_
 intro b6
 refine zA (zC (zD (zD (kD [] F.follows 9 rfl [false, false, false, false, false, false, false, false, false] rfl (zG 0 rfl rfl rfl (zP rfl) (zG 1 rfl rfl rfl (kR rfl) (zG 2 rfl rfl rfl (jA rfl F.fi101_1 F.ti97) (zG 3 rfl rfl rfl (kH rfl F.one97) (zG 4 rfl rfl rfl (jA rfl F.fi107_1 F.ti3) (zG 5 rfl rfl rfl (kH rfl F.one3) (zG 6 rfl rfl rfl (zP rfl) (an1 7 rfl (zJe (v := .bool (s.alw d acts)) (first := []) (cap := s.capA) (vs := [_, _]) rfl rfl rfl hs.ea (fun a w ha => (hE _ _ _ _ _ _ (fun r hr => by simp [hr]) ha).al aA ac d acts (hAc _ _ _ _ _ _ (fun r hr => by simp [hr]) ha) hal om) (zA (anb (zG 8 rfl rfl rfl (zJm rfl) ?_))))))))))))))))
 refine adn (zC (qD rfl (fun hc0 => ?_) (fun hc0 => ?_)))
 ·exact zD (zB (kG (vs := []) (l' := [_, _, _]) rfl rfl F.ti111 F.pl111 (.nil _) rfl (zH rfl rfl F.ti111 rfl (zA (zC (zY (jB (jJ rfl (fun a w ha => by exact xC (ha := ha) rfl rfl F.agg111 F.ti111 rfl) (fun a w ha' => ⟨kn, ⟨hkn, fun x hx => .inl hx⟩, by rw [hstp, if_pos (by simpa using hc0)]; rfl, ha.back (ha'.pck pkk)⟩)))))))))
 ·refine zQ (zC (zD (xK (G := Nat) (fun _ => True) (fun b7 => [(0, pt sb), (2, .slice aA acts.length ac), (4, pt b4), (6, pt b6), (7, pt b7), (8, .int .i64 (er : Int))]) (fun b7 => .blk b7 (.cells (V4 y0 y1 y2 yw).toArray 95 (0, 0)) :: .blk b6 (OO 0 0 false 111) :: .blk b4 (O5 z0 z1 z2 zw d 107) :: .blk km (KS.obj kn) :: .blk sb (SOb s km 101) :: T) ?_ ?_)))
  ·refine kD [] F.follows 24 rfl [false, false, false, false, false, false, false, false, false, false, false, false, false, false, false, false, false, false, false, false, false, false, false, false] rfl (zG 0 rfl rfl rfl (zP rfl) (zG 1 rfl rfl rfl (kR rfl) (zG 2 rfl rfl rfl (jA rfl F.fi101_0 F.ti77) (zG 3 rfl rfl rfl (qL rfl F.agg77 F.ti77) (zG 4 rfl rfl rfl (jA rfl F.fi107_0 F.ti95) (zG 5 rfl rfl rfl (qL rfl F.agg95 F.ti95) (zG 6 rfl rfl rfl (zP rfl) (zG 7 rfl rfl rfl (zP rfl) (zG 8 rfl rfl rfl (kR rfl) (zG 9 rfl rfl rfl (jA rfl F.fi101_0 F.ti77) (zG 10 rfl rfl rfl (jA rfl F.fi77_0 F.ti27) (zG 11 rfl rfl rfl (jA rfl F.fi27_2 F.ti22) (zG 12 rfl rfl rfl (kH rfl F.one22) (zG 13 rfl rfl rfl (jA rfl F.fi107_1 F.ti3) ?_))))))))))))))
   refine zG 14 rfl rfl rfl (kH rfl F.one3) (zG 15 rfl rfl rfl (kM (j := d) (show _ = some (Value.slice (some ⟨db, dbo, none⟩) s.days.length s.dc) from by rw [<- hdA]; rfl) rfl Try.underlying22 F.ti3 rfl (show d < s.days.length by omega)) (zG 16 rfl rfl rfl (jP (v := .int .i64 (sugar : Int)) rfl F.one3 (fun a w ha => zJq (by have h := (hE _ _ _ _ _ _ (fun r hr => by simp [hr]) ha).rd; rw [hdA] at h; exact h) hsx)) ?_))
   refine qI 17 21 kr rfl rfl rfl rfl ?_ ?_
   ·refine jM (v := .tuple #[.agg (V4 y0 y1 y2 yw).toArray, .int .i64 (er : Int)]) (vs := [_, _, _, _]) rfl rfl F.ent71 (fun a w ha => (htry w (hE _ _ _ _ _ _ (fun r hr => by simp [hr]) ha).rf (hAc _ _ _ _ _ _ (fun r hr => by simp [hr]) ha)).mono (fun e w' h => ⟨h.1.trans rfl, h.2⟩)) (zA (anb (zG 18 rfl rfl rfl (zP rfl) (zG 19 rfl rfl rfl (kZ rfl rfl) (zG 20 rfl rfl rfl (kZ rfl rfl) (an1 21 rfl (zX rfl F.ti95 ?_)))))))
    intro b7
    exact zA (anb (an1 22 rfl (zH rfl rfl F.ti95 rfl (zA (anb (zG 23 rfl rfl rfl (jZ rfl) (adn (jS b7 trivial sbn pkk))))))))
   ·refine zX rfl F.ti95 ?_
    intro b7
    exact zA (anb (an1 17 rfl (jM (v := .tuple #[.agg (V4 y0 y1 y2 yw).toArray, .int .i64 (er : Int)]) (vs := [_, _, _, _]) rfl rfl F.ent71 (fun a w ha => (htry w (hE _ _ _ _ _ _ (fun r hr => by simp [hr]) ha).rf (hAc _ _ _ _ _ _ (fun r hr => by simp [hr]) ha)).mono (fun e w' h => ⟨h.1.trans rfl, h.2⟩)) (zA (anb (zG 18 rfl rfl rfl (zP rfl) (zG 19 rfl rfl rfl (kZ rfl rfl) (zG 20 rfl rfl rfl (kZ rfl rfl) (an1 22 rfl (zH rfl rfl F.ti95 rfl (zA (anb (zG 23 rfl rfl rfl (jZ rfl) (adn (jS b7 trivial sbn pkk)))))))))))))))
  ·rintro b7 -
   (try dsimp only)
   refine zC (zD (zD (zB (zF rfl rfl (zI rfl rfl rfl qO ?_)))))
   refine zA (zC (zN rfl (fun hc1 => ?_) (fun hc1 => ?_)))
   ·exact zD (zB (kG (vs := []) (l' := [_, _, _]) rfl rfl F.ti111 F.pl111 (.nil _) rfl (zH rfl rfl F.ti111 rfl (zA (zC (zY (jB (jJ rfl (fun a w ha => by exact xC (ha := ha) rfl rfl F.agg111 F.ti111 rfl) (fun a w ha' => ⟨kn, ⟨hkn, fun x hx => .inl hx⟩, by rw [hstp, if_neg (by simpa using hc0), if_pos om]; rfl, ha.back (ha'.pck pkk)⟩)))))))))
   ·refine zQ (zC (zD (zB (zF rfl rfl (jE rfl rfl F.agg95 F.ti95 (zL rfl rfl F.fi107_1 F.ti3 (zR rfl rfl F.one3 (zI (v := .int .i64 ((d + 1 : Nat) : Int)) rfl rfl rfl (fun w => jK w (by rw [zT _ om om]; omega)) (kG (vs := [(0, _), (1, _)]) (l' := [_, _, _, _, _]) rfl rfl F.ti107 F.pl107 (.cons rfl rfl (.cons rfl rfl (.nil _))) rfl ?_)))))))))
    have hob := s.bst_le hs n (⟨[y0, y1, y2], yw⟩ : Mor)
    have hsf := zCp acts
    have hsw := zCy acts
    refine xB (X := List (Spot × Value)) (first := []) (cap := []) (vs := [_, _]) (p := fun kn' => KnOk s kn' ∧ ∀ x ∈ kn', x ∈ kn ∨ d + 1 <= x.1.2) (val := fun _ => .agg [.int .i64 ((s.bst n (⟨[y0, y1, y2], yw⟩ : Mor)).f : Int), .int .i64 ((s.bst n (⟨[y0, y1, y2], yw⟩ : Mor)).w : Int), .bool (s.bst n (⟨[y0, y1, y2], yw⟩ : Mor)).is].toArray) (rs := fun kn' => .blk b7 (.cells (V4 y0 y1 y2 yw).toArray 95 (0, 0)) :: .blk b6 (OO 0 0 false 111) :: .blk b4 (O5 z0 z1 z2 zw d 107) :: .blk km (KS.obj kn') :: .blk sb (SOb s km 101) :: T) rfl rfl rfl F.ent68 (fun a w ha => ?_) ?_
    ·refine (ih B w0 (.blk b7 (.cells (V4 y0 y1 y2 yw).toArray 95 (0, 0)) :: .blk b6 (OO 0 0 false 111) :: .blk b4 (O5 z0 z1 z2 zw d 107) :: T) _ _ _ _ _ kn km sb (d + 1) y0 y1 y2 yw om ⟨rfl, by simp; omega, hyw⟩ hkn (hE.more (fun r hr => by simp [hr])) (ha.pck pkk)).mono ?_
     rintro e w' ⟨kn1, h1, h2, h3⟩
     exact ⟨kn1, h1, h2, h3.pck pkk⟩
    rintro kn1 ⟨hkn1, hkn2⟩
    dsimp only [Srch.cells]
    generalize s.bst n (⟨[y0, y1, y2], yw⟩ : Mor) = o at hob hstp ⊢
    refine zF rfl rfl (jM (v := .agg [.int .i64 ((spF acts : Nat) : Int), .int .i64 ((spW acts : Nat) : Int)].toArray) (vs := [_]) rfl rfl F.ent73 (fun a w ha => zOr aA ac acts (by have := hs.f3; omega) w (hAc _ _ _ _ _ _ (fun r hr => by simp [hr]) ha)) (zX rfl F.ti111 ?_))
    intro b9
    refine zX rfl F.ti109 ?_
    intro b10
    refine zH rfl rfl F.ti111 rfl (zH rfl rfl F.ti109 rfl (zA (zC (zD (zB (zL rfl rfl F.fi111_0 F.ti109 (zL rfl rfl F.fi109_0 F.ti3 (zR rfl rfl F.one3 (zL rfl rfl F.fi109_0 F.ti3 (zR rfl rfl F.one3 (zI (v := .int .i64 ((o.f + spF acts : Nat) : Int)) rfl rfl rfl (fun w => jK w (by rw [zT _ om om]; omega)) (zL rfl rfl F.fi111_0 F.ti109 (zL rfl rfl F.fi109_0 F.ti3 (zH rfl rfl F.ti3 rfl (zA (zC (zD (zB (zL rfl rfl F.fi111_0 F.ti109 (zL rfl rfl F.fi109_1 F.ti3 (zR rfl rfl F.one3 (zL rfl rfl F.fi109_1 F.ti3 ?_))))))))))))))))))))))
    exact zR rfl rfl F.one3 (zI (v := .int .i64 ((o.w + spW acts : Nat) : Int)) rfl rfl rfl (fun w => jK w (by rw [zT _ om om]; omega)) (zL rfl rfl F.fi111_0 F.ti109 (zL rfl rfl F.fi109_1 F.ti3 (zH rfl rfl F.ti3 rfl (zA (zC (zD (zB (jE rfl rfl F.agg111 F.ti111 (zH rfl rfl F.ti111 rfl (zA (zC (zY (jJ rfl (fun a w ha => by exact xC (ha := ha) rfl rfl F.agg111 F.ti111 rfl) (fun a w ha' => ⟨kn1, ⟨hkn1, hkn2⟩, by rw [hstp, if_neg (by simpa using hc0), if_neg om]; rfl, ha.back (ha'.pck pkk)⟩)))))))))))))))

theorem F.agg107 : aggB Try.prog 107 = true := by unfold aggB; rw [Try.underlying107]
theorem F.ent70 : Enters Try.prog 70 := jD Try.func70 rfl (by kernel_rfl)
theorem F.ent82 : Enters Try.prog 82 := jD Try.func82 rfl (by kernel_rfl)
theorem F.fi101_2 : FI Try.prog 101 2 98 4 := ⟨_, _, Try.underlying101, rfl, rfl, rfl⟩
theorem F.fi101_3 : FI Try.prog 101 3 99 5 := ⟨_, _, Try.underlying101, rfl, rfl, rfl⟩
theorem F.one75 : One Try.prog 75 := ⟨by unfold aggB; rw [Try.underlying75], by rw [Try.underlying75]; simp⟩
theorem F.one98 : One Try.prog 98 := ⟨by unfold aggB; rw [Try.underlying98], by rw [Try.underlying98]; simp⟩
theorem F.one99 : One Try.prog 99 := ⟨by unfold aggB; rw [Try.underlying99], by rw [Try.underlying99]; simp⟩
theorem F.ti98 : TI Try.prog 98 (.nilFunc) 1 8 := TI.of (by kernel_rfl)
theorem F.ti99 : TI Try.prog 99 (.map none) 1 8 := TI.of (by kernel_rfl)
set_option maxRecDepth 4000 in
theorem zOz {s : Srch} (hs : s.Ok) {nn : Nat} (ih0 : ∀ n, nn = n + 1 -> BestC s n) : BestC s nn := by
 intro B w0 T N ds fr a w kn km sb d z0 z1 z2 zw hdn hm hkn hE ha
 have hs5 := hs.d5
 have hs3 := hs.f3
 obtain ⟨-, hsm, hzw⟩ := id hm
 have hz0 : z0 <= 4 := hsm z0 (by simp)
 have hz1 : z1 <= 4 := hsm z1 (by simp)
 have hz2 : z2 <= 4 := hsm z2 (by simp)
 dsimp only at hzw
 have ha0 : At ⟨Try.prog, B, w0, N, ds⟩ fr (.blk km (KS.obj kn) :: .blk sb (SOb s km 101) :: T) a w := ha
 refine zKd (N := 57) [(0, pt sb), (1, .agg [.int .i64 (z0 : Int), .int .i64 (z1 : Int), .int .i64 (z2 : Int), .int .u8 (zw : Int), .int .i64 (d : Int)].toArray)] ha0 Try.func68 rfl Try.ntmps68 rfl rfl (zD (zB (kA rfl rfl ?_)))
 intro b2
 refine kA rfl rfl ?_
 intro b3
 refine zX rfl F.ti111 ?_
 intro b4
 refine zA (zC (zD (zD (kD [] F.follows 10 rfl [false, false, false, false, false, false, false, false, false, false] rfl (zG 0 rfl rfl rfl (jA rfl F.fi107_1 F.ti3) (zG 1 rfl rfl rfl (kH rfl F.one3) (zG 2 rfl rfl rfl (kH rfl F.one75) (zG 3 rfl rfl rfl (kR rfl) (zG 4 rfl rfl rfl (xD rfl F.fi101_0 F.ti77) (zG 5 rfl rfl rfl (xD rfl F.fi77_0 F.ti27) (zG 6 rfl rfl rfl (xD rfl F.fi27_2 F.ti22) (zG 7 rfl rfl rfl (kH rfl F.one22) (zG 8 rfl rfl rfl (zA3 rfl Try.underlying22) (zG 9 rfl rfl rfl (kS rfl rfl jY) ?_))))))))))))))
 refine adn (zC (zN rfl (fun hc0 => ?_) (fun hc0 => ?_)))
 ·obtain rfl : nn = 0 := by omega
  exact zD (kD [.b b4] F.follows 9 rfl [false, false, false, false, false, false, false, false, false] rfl (zG 0 rfl rfl rfl (kH rfl F.one75) (zG 1 rfl rfl rfl (kR rfl) (zG 2 rfl rfl rfl (xD rfl F.fi101_2 F.ti98) (zG 3 rfl rfl rfl (kH rfl F.one98) (zG 4 rfl rfl rfl (jA rfl F.fi107_0 F.ti95) (zG 5 rfl rfl rfl (qL rfl F.agg95 F.ti95) (an1 6 rfl (zJe (v := .bool (s.las (⟨[z0, z1, z2], zw⟩ : Mor))) (first := []) (cap := s.capL) (vs := [_]) rfl rfl rfl hs.el (fun a w ha => (hE _ _ _ _ _ _ (fun r hr => by simp [hr]) ha).la _ hm) (zA (anb (zG 7 rfl rfl rfl (xV (vs := [(1, _)]) (l' := [_, _, _]) rfl F.ti111 F.pl111 (.cons rfl rfl (.nil _)) rfl) (an1 8 rfl (zH rfl rfl F.ti111 rfl (zA (anb (adn (zC (zY (jB (zJ1 rfl (fun a w ha => by exact xC (ha := ha) rfl rfl F.agg111 F.ti111 rfl) (fun a w ha' => ⟨kn, ⟨hkn, fun x hx => .inl hx⟩, rfl, ha.back (ha'.pck pkk)⟩))))))))))))))))))))))
 ·obtain ⟨n, rfl⟩ : ∃ n, nn = n + 1 := ⟨nn - 1, by omega⟩
  have ih := ih0 n rfl
  have hd : d + (n + 1) = s.days.length := hdn
  have hdl : s.days.length - d = n + 1 := by omega
  have hI0 : BI s kn n d (noOc, kn) := ⟨by simp [noOc], hkn, fun e he => .inl he⟩
  refine zQ (zC (zD ?_))
  rcases Classical.em ((((⟨[z0, z1, z2], zw⟩ : Mor), d) : Spot) ∈ kn.map (·.1)) with hmet | hmet
  ·refine xK (G := Nat) (fun _ => True) (fun b5 => (6, .bool true) :: [(2, pt b2), (3, pt b3), (4, pt b4), (5, pt b5)]) (fun b5 => .blk b5 (OO ((s.bst (n + 1) (⟨[z0, z1, z2], zw⟩ : Mor)).f) ((s.bst (n + 1) (⟨[z0, z1, z2], zw⟩ : Mor)).w) ((s.bst (n + 1) (⟨[z0, z1, z2], zw⟩ : Mor)).is) 111) :: .blk b4 (OO 0 0 false 111) :: .blk b3 (O5 z0 z1 z2 zw d 107) :: .blk b2 (PO sb 75) :: .blk km (KS.obj kn) :: .blk sb (SOb s km 101) :: T) ?_ ?_
   ·refine kD [] F.follows 12 rfl [false, false, false, false, false, false, false, false, false, false, false, false] rfl ?_
    skip
    refine zG 0 rfl rfl rfl (kH rfl F.one75) (zG 1 rfl rfl rfl (kR rfl) (zG 2 rfl rfl rfl (xD rfl F.fi101_3 F.ti99) (zG 3 rfl rfl rfl (kH rfl F.one99) (zG 4 rfl rfl rfl (qL rfl F.agg107 F.ti107) (zG 5 rfl rfl rfl (zD9 KS rfl (l := kn) (t := (((⟨[z0, z1, z2], zw⟩ : Mor), d) : Spot)) (v := (.agg ([.int .i64 ((s.bst (n + 1) (⟨[z0, z1, z2], zw⟩ : Mor)).f : Int), .int .i64 ((s.bst (n + 1) (⟨[z0, z1, z2], zw⟩ : Mor)).w : Int), .bool (s.bst (n + 1) (⟨[z0, z1, z2], zw⟩ : Mor)).is] : List Value).toArray : Value)) (z := .agg [.int .i64 0, .int .i64 0, .bool false].toArray) (c := true) rfl rfl Try.underlying99 (hkn.spots hs) ⟨hm, by show d < _; omega⟩ hkn.nodup zero111 (InB.mem (b := km) (o := KS.obj kn)) (.inl (zZc hkn hdl hmet)) true (by simp [hmet])) (zG 6 rfl rfl rfl (zP rfl) (zG 7 rfl rfl rfl (kZ rfl rfl) (zG 8 rfl rfl rfl (kZ rfl rfl) (an1 9 rfl (zX rfl F.ti111 ?_))))))))))
    intro b5
    exact zA (anb (an1 10 rfl (zH rfl rfl F.ti111 rfl (zA (anb (zG 11 rfl rfl rfl (jZ rfl) (adn (jS b5 trivial sbn pkk))))))))
   ·rintro b5 -
    (try dsimp only)
    exact zC (zD (zD (zB (zF rfl rfl (zA (zC (kX rfl (zD (zB (jE rfl rfl F.agg111 F.ti111 (zH rfl rfl F.ti111 rfl (zA (zC (zY (jB (zJ1 rfl (fun a w ha => by exact xC (ha := ha) rfl rfl F.agg111 F.ti111 rfl) (fun a w ha' => ⟨kn, ⟨hkn, fun x hx => .inl hx⟩, rfl, ha.back (ha'.pck pkk)⟩)))))))))))))))))
  ·refine xK (G := Nat) (fun _ => True) (fun b5 => (6, .bool false) :: [(2, pt b2), (3, pt b3), (4, pt b4), (5, pt b5)]) (fun b5 => .blk b5 (OO 0 0 false 111) :: .blk b4 (OO 0 0 false 111) :: .blk b3 (O5 z0 z1 z2 zw d 107) :: .blk b2 (PO sb 75) :: .blk km (KS.obj kn) :: .blk sb (SOb s km 101) :: T) ?_ ?_
   ·refine kD [] F.follows 12 rfl [false, false, false, false, false, false, false, false, false, false, false, false] rfl ?_
    skip
    refine zG 0 rfl rfl rfl (kH rfl F.one75) (zG 1 rfl rfl rfl (kR rfl) (zG 2 rfl rfl rfl (xD rfl F.fi101_3 F.ti99) (zG 3 rfl rfl rfl (kH rfl F.one99) (zG 4 rfl rfl rfl (qL rfl F.agg107 F.ti107) (zG 5 rfl rfl rfl (zD9 KS rfl (l := kn) (t := (((⟨[z0, z1, z2], zw⟩ : Mor), d) : Spot)) (v := .agg [.int .i64 0, .int .i64 0, .bool false].toArray) (z := .agg [.int .i64 0, .int .i64 0, .bool false].toArray) (c := true) rfl rfl Try.underlying99 (hkn.spots hs) ⟨hm, by show d < _; omega⟩ hkn.nodup zero111 (InB.mem (b := km) (o := KS.obj kn)) (.inr ⟨hmet, rfl⟩) false (by simp [hmet])) (zG 6 rfl rfl rfl (zP rfl) (zG 7 rfl rfl rfl (kZ rfl rfl) (zG 8 rfl rfl rfl (kZ rfl rfl) (an1 9 rfl (zX rfl F.ti111 ?_))))))))))
    intro b5
    exact zA (anb (an1 10 rfl (zH rfl rfl F.ti111 rfl (zA (anb (zG 11 rfl rfl rfl (jZ rfl) (adn (jS b5 trivial sbn pkk))))))))
   ·rintro b5 -
    (try dsimp only)
    refine zC (zD (zD (zB (zF rfl rfl (zA (zC (kI rfl (zQ (zC (zD (zD (zB (zR rfl rfl F.one75 (qT rfl rfl (yT rfl rfl F.fi101_0 F.ti77 (jE (o := 0) (l := [.slice s.fA s.fs.length s.fc, .int .i64 (s.kiln : Int), .slice s.dA s.days.length s.dc]) rfl rfl F.agg77 F.ti77 (qK (X := Nat) (vs := [_]) (p := fun _ => True) (val := fun b1 => .func (.func 84) [].toArray [pt b1].toArray) (rs := fun b1 => [.blk b1 (.cells [.slice s.fA s.fs.length s.fc, .int .i64 (s.kiln : Int), .slice s.dA s.days.length s.dc].toArray 77 (0, 0))]) rfl rfl F.ent69 (fun a w ha => (zJj s.fA s.dA s.fc s.days.length s.dc s.kiln s.fs w).mono (fun e w' h => by obtain ⟨b1, h1, h2⟩ := h; exact ⟨b1, trivial, h1, h2⟩)) ?_)))))))))))))))))
    rintro b1 -
    dsimp only [List.cons_append, List.nil_append]
    have hlk : ∀ t v, look [(2, pt b2), (3, pt b3), (4, pt b4), (5, pt b5)] t = some v -> look ((41, .func (.func 84) [].toArray [pt b1].toArray) :: (40, .agg [.slice s.fA s.fs.length s.fc, .int .i64 (s.kiln : Int), .slice s.dA s.days.length s.dc].toArray) :: (39, pt sb) :: (38, pt sb) :: (37, pt sb) :: (35, .bool false) :: (6, .bool false) :: [(2, pt b2), (3, pt b3), (4, pt b4), (5, pt b5)]) t = some v := fun t v hv => Sub.look sbn t v hv
    refine zA (zC (zS (zEm (Y := Oc × List (Spot × Value)) (lb := [pt b1]) (fun y => BI s kn n d y ∧ y.1 = s.bst (n + 1) (⟨[z0, z1, z2], zw⟩ : Mor)) (fun _ => w0.output) (fun _ => none) (fun _ => .normal) (fun y => .blk b5 (OO y.1.f y.1.w y.1.is 111) :: .blk km (KS.obj y.2) :: .blk b4 (OO 0 0 false 111) :: .blk b3 (O5 z0 z1 z2 zw d 107) :: .blk b2 (PO sb 75) :: .blk sb (SOb s km 101) :: .blk b1 (.cells [.slice s.fA s.fs.length s.fc, .int .i64 (s.kiln : Int), .slice s.dA s.days.length s.dc].toArray 77 (0, 0)) :: T) rfl F.ent84 (fun _ _ => .inl ⟨rfl, rfl⟩) (fun r D rec a1 w1 hst hpe hps has hbo hsz hsl hR => ?_) (fun D y hy => ?_))))
    ·have hY : YSpL Try.prog B w0 r (fun _ => w0.output) (fun (x : Oc × List (Spot × Value)) => .blk r (.loop rec) :: .blk D (.deferred (some [])) :: .blk b5 (OO x.1.f x.1.w x.1.is 111) :: .blk km (KS.obj x.2) :: .blk b4 (OO 0 0 false 111) :: .blk b3 (O5 z0 z1 z2 zw d 107) :: .blk b2 (PO sb 75) :: .blk sb (SOb s km 101) :: T) (BPre s kn n d) (BStep s kn n d (⟨[z0, z1, z2], zw⟩ : Mor)) := by
      intro x A ac acts hpre N ds fr hp ay wy hay
      obtain ⟨hI, hal⟩ := hpre
      obtain ⟨oc, kn1⟩ := x
      dsimp only at hay hI
      have ha2 := hay.permed (List.Perm.cons _ List.perm_append_comm)
      simp only [List.cons_append] at ha2
      have ha1 : At ⟨Try.prog, B, w0, N, ds⟩ fr (.blk r (.loop rec) :: .row 3 1 A acts.length ac (ints acts) :: .blk D (.deferred (some [])) :: .blk b5 (OO oc.f oc.w oc.is 111) :: .blk km (KS.obj kn1) :: (.blk b4 (OO 0 0 false 111) :: .blk b3 (O5 z0 z1 z2 zw d 107) :: .blk b2 (PO sb 75) :: .blk sb (SOb s km 101) :: (T ++ hp))) ay wy := ha2.pck pkk
      refine zH2 (X := Unit) (N := 57) (d := 42) (frC := [(2, pt b2), (3, pt b3), (4, pt b4), (5, pt b5)]) (frB := fun _ => (7, .slice A acts.length ac) :: [(2, pt b2), (3, pt b3), (4, pt b4), (5, pt b5)]) (hp1 := fun _ => .row 3 1 A acts.length ac (ints acts) :: .blk D (.deferred (some [])) :: .blk b5 (OO oc.f oc.w oc.is 111) :: .blk km (KS.obj kn1) :: (.blk b4 (OO 0 0 false 111) :: .blk b3 (O5 z0 z1 z2 zw d 107) :: .blk b2 (PO sb 75) :: .blk sb (SOb s km 101) :: (T ++ hp))) ha1 hst hps hsz rfl (fun t u hu => hsl t u (hlk t u hu)) (by rw [has]; kernel_rfl) (by rw [hbo]; kernel_rfl) ?_ ?_
      ·intro K hK
       refine zDw has (zB (zE rfl rfl (zA ?_)))
       exact fun a w ha => hK () a w ((ha.drop_slots sbn).pck pkk)
      ·intro _
       refine zDw hbo (zS (kD [.b b5, .b km] F.follows 8 rfl [false, false, false, false, false, false, false, false] rfl (zG 1 rfl rfl rfl (kH rfl F.one75) (zG 2 rfl rfl rfl (qL rfl F.agg107 F.ti107) (zG 3 rfl rfl rfl (zP rfl) ?_)))))
       refine qI 0 4 kr rfl rfl rfl rfl ?_ ?_
       ·refine jE rfl rfl F.agg111 F.ti111 (zA (anb (an1 4 rfl ?_)))
        have hol : oc.f <= n + 1 ∧ oc.w <= 3 * n + 3 := hI.le
        have hsl2 := s.stp_le hs n (⟨[z0, z1, z2], zw⟩ : Mor) (l := acts) om
        refine xB (X := List (Spot × Value)) (first := []) (cap := []) (vs := [_, _, _]) (p := fun kn' => KnOk s kn' ∧ ∀ x ∈ kn', x ∈ kn1 ∨ d + 1 <= x.1.2) (val := fun _ => .agg [.int .i64 ((s.stp n (⟨[z0, z1, z2], zw⟩ : Mor) acts).f : Int), .int .i64 ((s.stp n (⟨[z0, z1, z2], zw⟩ : Mor) acts).w : Int), .bool (s.stp n (⟨[z0, z1, z2], zw⟩ : Mor) acts).is].toArray) (rs := fun kn' => .blk km (KS.obj kn') :: .blk r (.loop { rec with state := .busy }) :: .row 3 1 A acts.length ac (ints acts) :: .blk D (.deferred (some [])) :: .blk b5 (OO oc.f oc.w oc.is 111) :: .blk b4 (OO 0 0 false 111) :: .blk b3 (O5 z0 z1 z2 zw d 107) :: .blk b2 (PO sb 75) :: .blk sb (SOb s km 101) :: (T ++ hp)) rfl rfl rfl F.ent70 (fun a w ha => ?_) ?_
        ·refine (zM8 hs ih (T := .blk r (.loop { rec with state := .busy }) :: .row 3 1 A acts.length ac (ints acts) :: .blk D (.deferred (some [])) :: .blk b5 (OO oc.f oc.w oc.is 111) :: .blk b4 (OO 0 0 false 111) :: .blk b3 (O5 z0 z1 z2 zw d 107) :: .blk b2 (PO sb 75) :: (T ++ hp)) (kn := kn1) (km := km) (sb := sb) (ac := ac) hd hm hz0 hz1 hz2 hzw hal hI.ok (hE.more (fun r hr => by simp [hr])) ((Stays.row (c := ac)).more (fun r hr => by simp at hr; simp [hr])) (ha.pck pkk)).mono ?_
         rintro e w' ⟨kn2, h1, h2, h3⟩
         exact ⟨kn2, h1, h2, h3.pck pkk⟩
        rintro kn2 ⟨hkn2, hlt2⟩
        dsimp only [Srch.cells]
        generalize hoo : s.stp n (⟨[z0, z1, z2], zw⟩ : Mor) acts = os at hsl2 ⊢
        refine zA (anb (an1 5 rfl (yV (vs := [(0, .agg ([.int .i64 (os.f : Int), .int .i64 (os.w : Int), .bool os.is] : List Value).toArray)]) [.int .i64 (os.f : Int), .int .i64 (os.w : Int), .bool os.is] rfl rfl Try.underlying158 F.ti111 rfl rfl rfl (Lit.agg (l1 := [.int .i64 (os.f : Int), .int .i64 (os.w : Int), .bool os.is]) (l := []) rfl rfl) ?_)))
        intro b48
        refine zA (anb (an1 6 rfl (jM (v := .agg [.int .i64 ((lst2 oc os).f : Int), .int .i64 ((lst2 oc os).w : Int), .bool (lst2 oc os).is].toArray) (vs := [_, _, _]) rfl rfl F.ent82 (fun a w ha => zJ0 _ _ os oc om om om om w (zMt ha (InB.mem (b := b48) (o := .cells (Oc.cells os).toArray 111 (0, 0))))) (zA (anb (an1 7 rfl (zH rfl rfl F.ti111 rfl (zA (anb (adn (zJ (zBq (hp' := .blk r (.loop { rec with state := .busy }) :: .blk D (.deferred (some [])) :: .blk b5 (OO ((lst2 oc os).f) ((lst2 oc os).w) ((lst2 oc os).is) 111) :: .blk km (KS.obj kn2) :: (.blk b4 (OO 0 0 false 111) :: .blk b3 (O5 z0 z1 z2 zw d 107) :: .blk b2 (PO sb 75) :: .blk sb (SOb s km 101) :: (T ++ hp))) pkk ?_))))))))))))
        refine wV hst hpe (fun a w ha => ⟨(lst2 oc os, kn2), true, ⟨rfl, ⟨zGs hol hsl2, hkn2, fun e he => ?_⟩, by rw [<- hoo]⟩, rfl, ?_⟩)
        ·rcases hlt2 e he with h | h
         ·exact hI.late e h
         ·exact .inr h
        have ha3 := (hay.backO (x := w0.output) ha).pck (hp' := .blk r (.loop rec) :: .blk D (.deferred (some [])) :: .blk b5 (OO ((lst2 oc os).f) ((lst2 oc os).w) ((lst2 oc os).is) 111) :: .blk km (KS.obj kn2) :: (.blk b4 (OO 0 0 false 111) :: .blk b3 (O5 z0 z1 z2 zw d 107) :: .blk b2 (PO sb 75) :: .blk sb (SOb s km 101) :: (T ++ hp))) pkk
        exact ha3.permed (by simpa using (List.perm_append_comm (l₁ := .blk r (.loop rec) :: .blk D (.deferred (some [])) :: .blk b5 (OO ((lst2 oc os).f) ((lst2 oc os).w) ((lst2 oc os).is) 111) :: .blk km (KS.obj kn2) :: (.blk b4 (OO 0 0 false 111) :: .blk b3 (O5 z0 z1 z2 zw d 107) :: .blk b2 (PO sb 75) :: .blk sb (SOb s km 101) :: T)) (l₂ := hp)))
       ·have hol : oc.f <= n + 1 ∧ oc.w <= 3 * n + 3 := hI.le
        have hsl2 := s.stp_le hs n (⟨[z0, z1, z2], zw⟩ : Mor) (l := acts) om
        refine xB (X := List (Spot × Value)) (first := []) (cap := []) (vs := [_, _, _]) (p := fun kn' => KnOk s kn' ∧ ∀ x ∈ kn', x ∈ kn1 ∨ d + 1 <= x.1.2) (val := fun _ => .agg [.int .i64 ((s.stp n (⟨[z0, z1, z2], zw⟩ : Mor) acts).f : Int), .int .i64 ((s.stp n (⟨[z0, z1, z2], zw⟩ : Mor) acts).w : Int), .bool (s.stp n (⟨[z0, z1, z2], zw⟩ : Mor) acts).is].toArray) (rs := fun kn' => .blk km (KS.obj kn') :: .blk r (.loop { rec with state := .busy }) :: .row 3 1 A acts.length ac (ints acts) :: .blk D (.deferred (some [])) :: .blk b5 (OO oc.f oc.w oc.is 111) :: .blk b4 (OO 0 0 false 111) :: .blk b3 (O5 z0 z1 z2 zw d 107) :: .blk b2 (PO sb 75) :: .blk sb (SOb s km 101) :: (T ++ hp)) rfl rfl rfl F.ent70 (fun a w ha => ?_) ?_
        ·refine (zM8 hs ih (T := .blk r (.loop { rec with state := .busy }) :: .row 3 1 A acts.length ac (ints acts) :: .blk D (.deferred (some [])) :: .blk b5 (OO oc.f oc.w oc.is 111) :: .blk b4 (OO 0 0 false 111) :: .blk b3 (O5 z0 z1 z2 zw d 107) :: .blk b2 (PO sb 75) :: (T ++ hp)) (kn := kn1) (km := km) (sb := sb) (ac := ac) hd hm hz0 hz1 hz2 hzw hal hI.ok (hE.more (fun r hr => by simp [hr])) ((Stays.row (c := ac)).more (fun r hr => by simp at hr; simp [hr])) (ha.pck pkk)).mono ?_
         rintro e w' ⟨kn2, h1, h2, h3⟩
         exact ⟨kn2, h1, h2, h3.pck pkk⟩
        rintro kn2 ⟨hkn2, hlt2⟩
        dsimp only [Srch.cells]
        generalize hoo : s.stp n (⟨[z0, z1, z2], zw⟩ : Mor) acts = os at hsl2 ⊢
        refine zA (anb (qI 0 5 kr rfl rfl rfl rfl ?_ ?_))
        ·refine jE rfl rfl F.agg111 F.ti111 (zA (anb (an1 5 rfl (yV (vs := [(0, .agg ([.int .i64 (os.f : Int), .int .i64 (os.w : Int), .bool os.is] : List Value).toArray)]) [.int .i64 (os.f : Int), .int .i64 (os.w : Int), .bool os.is] rfl rfl Try.underlying158 F.ti111 rfl rfl rfl (Lit.agg (l1 := [.int .i64 (os.f : Int), .int .i64 (os.w : Int), .bool os.is]) (l := []) rfl rfl) ?_))))
         intro b48
         refine zA (anb (an1 6 rfl (jM (v := .agg [.int .i64 ((lst2 oc os).f : Int), .int .i64 ((lst2 oc os).w : Int), .bool (lst2 oc os).is].toArray) (vs := [_, _, _]) rfl rfl F.ent82 (fun a w ha => zJ0 _ _ os oc om om om om w (zMt ha (InB.mem (b := b48) (o := .cells (Oc.cells os).toArray 111 (0, 0))))) (zA (anb (an1 7 rfl (zH rfl rfl F.ti111 rfl (zA (anb (adn (zJ (zBq (hp' := .blk r (.loop { rec with state := .busy }) :: .blk D (.deferred (some [])) :: .blk b5 (OO ((lst2 oc os).f) ((lst2 oc os).w) ((lst2 oc os).is) 111) :: .blk km (KS.obj kn2) :: (.blk b4 (OO 0 0 false 111) :: .blk b3 (O5 z0 z1 z2 zw d 107) :: .blk b2 (PO sb 75) :: .blk sb (SOb s km 101) :: (T ++ hp))) pkk ?_))))))))))))
         refine wV hst hpe (fun a w ha => ⟨(lst2 oc os, kn2), true, ⟨rfl, ⟨zGs hol hsl2, hkn2, fun e he => ?_⟩, by rw [<- hoo]⟩, rfl, ?_⟩)
         ·rcases hlt2 e he with h | h
          ·exact hI.late e h
          ·exact .inr h
         have ha3 := (hay.backO (x := w0.output) ha).pck (hp' := .blk r (.loop rec) :: .blk D (.deferred (some [])) :: .blk b5 (OO ((lst2 oc os).f) ((lst2 oc os).w) ((lst2 oc os).is) 111) :: .blk km (KS.obj kn2) :: (.blk b4 (OO 0 0 false 111) :: .blk b3 (O5 z0 z1 z2 zw d 107) :: .blk b2 (PO sb 75) :: .blk sb (SOb s km 101) :: (T ++ hp))) pkk
         exact ha3.permed (by simpa using (List.perm_append_comm (l₁ := .blk r (.loop rec) :: .blk D (.deferred (some [])) :: .blk b5 (OO ((lst2 oc os).f) ((lst2 oc os).w) ((lst2 oc os).is) 111) :: .blk km (KS.obj kn2) :: (.blk b4 (OO 0 0 false 111) :: .blk b3 (O5 z0 z1 z2 zw d 107) :: .blk b2 (PO sb 75) :: .blk sb (SOb s km 101) :: T)) (l₂ := hp)))
        ·refine yV (vs := [(0, .agg ([.int .i64 (os.f : Int), .int .i64 (os.w : Int), .bool os.is] : List Value).toArray)]) [.int .i64 (os.f : Int), .int .i64 (os.w : Int), .bool os.is] rfl rfl Try.underlying158 F.ti111 rfl rfl rfl (Lit.agg (l1 := [.int .i64 (os.f : Int), .int .i64 (os.w : Int), .bool os.is]) (l := []) rfl rfl) ?_
         intro b48
         refine zA (anb (an1 0 rfl (jE rfl rfl F.agg111 F.ti111 (zA (anb (an1 6 rfl (jM (v := .agg [.int .i64 ((lst2 oc os).f : Int), .int .i64 ((lst2 oc os).w : Int), .bool (lst2 oc os).is].toArray) (vs := [_, _, _]) rfl rfl F.ent82 (fun a w ha => zJ0 _ _ os oc om om om om w (zMt ha (InB.mem (b := b48) (o := .cells (Oc.cells os).toArray 111 (0, 0))))) (zA (anb (an1 7 rfl (zH rfl rfl F.ti111 rfl (zA (anb (adn (zJ (zBq (hp' := .blk r (.loop { rec with state := .busy }) :: .blk D (.deferred (some [])) :: .blk b5 (OO ((lst2 oc os).f) ((lst2 oc os).w) ((lst2 oc os).is) 111) :: .blk km (KS.obj kn2) :: (.blk b4 (OO 0 0 false 111) :: .blk b3 (O5 z0 z1 z2 zw d 107) :: .blk b2 (PO sb 75) :: .blk sb (SOb s km 101) :: (T ++ hp))) pkk ?_))))))))))))))))
         refine wV hst hpe (fun a w ha => ⟨(lst2 oc os, kn2), true, ⟨rfl, ⟨zGs hol hsl2, hkn2, fun e he => ?_⟩, by rw [<- hoo]⟩, rfl, ?_⟩)
         ·rcases hlt2 e he with h | h
          ·exact hI.late e h
          ·exact .inr h
         have ha3 := (hay.backO (x := w0.output) ha).pck (hp' := .blk r (.loop rec) :: .blk D (.deferred (some [])) :: .blk b5 (OO ((lst2 oc os).f) ((lst2 oc os).w) ((lst2 oc os).is) 111) :: .blk km (KS.obj kn2) :: (.blk b4 (OO 0 0 false 111) :: .blk b3 (O5 z0 z1 z2 zw d 107) :: .blk b2 (PO sb 75) :: .blk sb (SOb s km 101) :: (T ++ hp))) pkk
         exact ha3.permed (by simpa using (List.perm_append_comm (l₁ := .blk r (.loop rec) :: .blk D (.deferred (some [])) :: .blk b5 (OO ((lst2 oc os).f) ((lst2 oc os).w) ((lst2 oc os).is) 111) :: .blk km (KS.obj kn2) :: (.blk b4 (OO 0 0 false 111) :: .blk b3 (O5 z0 z1 z2 zw d 107) :: .blk b2 (PO sb 75) :: .blk sb (SOb s km 101) :: T)) (l₂ := hp)))
     refine (zHn (X := Oc × List (Spot × Value)) (o := fun _ => w0.output) (T := (fun (x : Oc × List (Spot × Value)) => .blk r (.loop rec) :: .blk D (.deferred (some [])) :: .blk b5 (OO x.1.f x.1.w x.1.is 111) :: .blk km (KS.obj x.2) :: .blk b4 (OO 0 0 false 111) :: .blk b3 (O5 z0 z1 z2 zw d 107) :: .blk b2 (PO sb 75) :: .blk sb (SOb s km 101) :: T)) (hp := []) hs3 hY (x := (noOc, kn)) (zOn _ _ (fun l hl => by have := yH _ _ l hl; simpa using this) hI0) (hR.pck pkk)).mono (fun e w2 h => ?_)
     obtain ⟨x', b, hr, he, h4⟩ := h
     obtain ⟨_, hI2, hv2⟩ := zZb hr hI0
     refine ⟨⟨_, he⟩, x', ⟨hI2, hv2⟩, ?_⟩
     have e : rec = { rec with state := .ready, pending := none } := by
      obtain ⟨st, pe, _, _, _, _, _, _⟩ := rec
      simp only at hst hpe
      subst hst; subst hpe
      rfl
     rw [e] at h4
     exact h4.pck pkk
    ·obtain ⟨oy, kny⟩ := y
     obtain ⟨hIy, hoy⟩ := hy
     dsimp only at hIy hoy ⊢
     refine zJ (zC (zD (kD [.b km] F.follows 7 rfl [false, false, false, false, false, false, false] rfl ?_)))
     have hnot : (((⟨[z0, z1, z2], zw⟩ : Mor), d) : Spot) ∉ kny.map (·.1) := fun h => by
      obtain ⟨e, he, e1⟩ := List.mem_map.1 h
      rcases hIy.late e he with h1 | h1
      ·exact hmet (List.mem_map.2 ⟨e, h1, e1⟩)
      ·rw [e1] at h1; dsimp only at h1; omega
     refine zG 0 rfl rfl rfl (kH rfl F.one75) (zG 1 rfl rfl rfl (kR rfl) (zG 2 rfl rfl rfl (xD rfl F.fi101_3 F.ti99) (zG 3 rfl rfl rfl (kH rfl F.one99) (zG 4 rfl rfl rfl (qL rfl F.agg107 F.ti107) (zG 5 rfl rfl rfl (qL rfl F.agg111 F.ti111) (an1 6 rfl (zG3 KS rfl (l := kny) (t := (((⟨[z0, z1, z2], zw⟩ : Mor), d) : Spot)) (v := .agg [.int .i64 (oy.f : Int), .int .i64 (oy.w : Int), .bool oy.is].toArray) (.inl rfl) rfl rfl rfl Try.underlying99 (hIy.ok.spots hs) ⟨hm, by show d < _; omega⟩ hnot (by repeat (first | exact Upd.head _ | apply Upd.tail)) (zA (anb (adn (zC (zD (zB (jE rfl rfl F.agg111 F.ti111 (zH rfl rfl F.ti111 rfl (zA (zC (zY ?_))))))))))))))))))
     have hadd := hIy.ok.add hm (show d < s.days.length by omega) hnot
     rw [hdl, <- hoy] at hadd
     exact zT5 .ret (.inl rfl) (.agg [.int .i64 (oy.f : Int), .int .i64 (oy.w : Int), .bool oy.is].toArray) (fun a w ha => by exact xC (ha := ha) rfl rfl F.agg111 F.ti111 rfl) (fun a w ha' => ⟨kny ++ [((((⟨[z0, z1, z2], zw⟩ : Mor), d) : Spot), .agg [.int .i64 (oy.f : Int), .int .i64 (oy.w : Int), .bool oy.is].toArray)], ⟨hadd, fun x hx => (List.mem_append.1 hx).elim (fun h => (hIy.late x h).imp id (fun h => by omega)) (fun h => .inr (by simp at h; rw [h]; exact Nat.le_refl _))⟩, by rw [<- hoy]; rfl, ha.back (ha'.pck pkk)⟩)

end Go.Proofs.Yteppiphdbondeaa.N
namespace Go.Proofs.Yteppiphdbondeaa.N
open Go Go.RowKit Go.Proofs
set_option linter.unusedSectionVars false
variable {A : List Res} {B n : Nat} {P : Program} {R : Ending -> World -> Prop} {fn : Func} {l : List Nat} {m : Mor} {w0 : World} {x1 x2 x3 x4 x5 x6 x7 : Res}
def colD (D : Nat) : Deferred := { target := .collected D, args := #[] }
def dblk (D : Nat) : Res := .blk D (.deferred (some []))
def dnone (D : Nat) : Res := .blk D (.deferred none)
section
variable [I : Sys] {fr : List (Nat × Value)} {hp : List Res} {N : Nat}
theorem zF9 {ds : List Deferred} {x : Value} {a : Act} : ∀ (pend done : List Nat) (w : World),
  (∀ w, At ⟨P, B, w0, N, ds⟩ fr ((pend.reverse ++ done).map dnone ++ hp) a w -> ResV P fn a.tmps x w ∧ R (.returned x) w) -> At ⟨P, B, w0, N, ds⟩ fr (pend.map dblk ++ (done.map dnone ++ hp)) a w -> Leaves P fn a.tmps R (pend.map colD) .returning w
 | [], done, w, k, ha => by
  obtain ⟨h1, h2⟩ := k w (by simpa using ha)
  exact ⟨x, h1, h2⟩
 | D :: pend, done, w, k, ha => by
  refine zHi (by simp) fun v₁ hv => ?_
  have ha1 := ha.rely hv
  have hD := (ha1.own (dblk D) (by simp)).2
  have at2 : At ⟨P, B, w0, N, ds⟩ fr (dnone D :: (pend.map dblk ++ (done.map dnone ++ hp))) a (v₁.putObj D (.deferred none)) := by
   refine ha1.turn (r := dblk D) (Upd.head _) ⟨rfl, rfl, rfl, by simp, fun k _ hk => World.putObj_heap_other (fun e => hk (by rw [e]; rfl))⟩ ⟨(ha1.own (dblk D) (by simp)).1, ?_⟩ (fun k hk => .inl hk)
   exact World.putObj_heap_same (Array.getElem?_eq_some_iff.1 hD).1
  refine ⟨_, run_takeDeferred hD, zF9 pend (D :: done) _ (fun w hw => k w (by simpa using hw)) ?_⟩
  exact at2.permed (by simpa using (List.perm_middle (a := dnone D) (l₁ := pend.map dblk) (l₂ := done.map dnone ++ hp)).symm)
theorem zR6 {Ds : List Nat} (x : Value)
  (hr : ∀ a w, At ⟨P, B, w0, N, Ds.map colD⟩ fr hp a w -> ResV P fn a.tmps x w) (k : ∀ a w, At ⟨P, B, w0, N, Ds.map colD⟩ fr hp a w -> R (.returned x) w) :
  Ex ⟨P, B, w0, N, Ds.map colD⟩ (bodyPostD P fn R) .ret fr (Ds.map dblk ++ hp) := by
 intro a w ha
 show Leaves P fn a.tmps R a.defers .returning w
 rw [ha.defs]
 refine zF9 (x := x) (hp := hp) Ds [] w (fun w hw => ?_) (by simpa using ha)
 have h2 : At ⟨P, B, w0, N, Ds.map colD⟩ fr hp a w := hw.drop_res (List.sublist_append_right ..)
 exact ⟨hr a w h2, k a w h2⟩
end
section
variable [I : Sys] {C : Ctx} {fr : List (Nat × Value)} {hp hp' : List Res} {a : Act} {w : World} {Q : Exit -> Act -> World -> Prop} {e : Exit}
theorem zOl (h : hp.Perm hp') (k : Ex C Q e fr hp') : Ex C Q e fr hp := fun a w ha => k a w (ha.permed h)
end
section
variable [I : Sys]
theorem zFr {s : Srch} (hs : s.Ok) : ∀ n, BestC s n
 | 0 => zOz hs fun n h => by cases h
 | n + 1 => zOz hs fun n' h => by
  obtain rfl : n = n' := by omega
  exact zFr hs n
theorem zPu {C : Ctx} {fr : List (Nat × Value)} {hp : List Res} {Q : Exit -> Act -> World -> Prop} {c : Code} (e size : Nat) (k : Cod C c Q fr (.row e size none 0 0 [] :: hp)) : Cod C c Q fr hp := fun a w ha => k a w (ha.add_nil e size)
end
theorem perm8 {x8 m : Res} {B : List Res} : (x1 :: x2 :: x3 :: x4 :: x5 :: x6 :: x7 :: x8 :: m :: (A ++ B)).Perm (x1 :: x2 :: x3 :: x4 :: x5 :: x6 :: x7 :: x8 :: (A ++ m :: B)) := List.Perm.append_left [x1, x2, x3, x4, x5, x6, x7, x8] List.perm_middle.symm
theorem perm7c {B : List Res} : (x1 :: x2 :: x3 :: x4 :: x5 :: x6 :: x7 :: (A ++ B)).Perm (A ++ (x1 :: x2 :: x3 :: x4 :: x5 :: x6 :: x7 :: B)) := List.perm_append_comm_assoc [x1, x2, x3, x4, x5, x6, x7] A B
abbrev Meta : Type := Option Addr × Nat × List Nat
def mcell (m : Meta) : Value := .slice m.1 m.2.2.length m.2.1
def mrow (m : Meta) : Res := .row 3 1 m.1 m.2.2.length m.2.1 (ints m.2.2)
section
variable (s : Srch)
def Srch.pick (n : Nat) (m : Mor) : List Nat := ((exts [] s.fs.length).find? fun l => decide (s.stp n m l = s.bst (n + 1) m)).getD []
def Srch.nxt (n : Nat) (m : Mor) (l : List Nat) : Nat × Mor := dayE s.fs s.kiln m l (s.days.getD (s.days.length - (n + 1)) 0)
def Srch.planL : Nat -> Mor -> List (List Nat)
 | 0, _ => []
 | n + 1, m => s.pick n m :: planL n (s.nxt n m (s.pick n m)).2
end
theorem zJ8 {g : List Nat -> Oc} : ∀ (ls : List (List Nat)) (o : Oc), (ls.foldl (fun o l => lst2 o (g l)) o) = o ∨ ∃ l ∈ ls, (ls.foldl (fun o l => lst2 o (g l)) o) = g l
 | [], o => .inl rfl
 | l :: ls, o => by
  rcases zJ8 (g := g) ls (lst2 o (g l)) with h | ⟨l', hl', h⟩
  ·by_cases e : oless (g l) o = true
   ·right
    exact ⟨l, by simp, by rw [List.foldl_cons, h]; unfold lst2; rw [if_pos e]⟩
   ·left
    rw [List.foldl_cons, h]; unfold lst2; rw [if_neg e]
  ·exact .inr ⟨l', by simp [hl'], h⟩
theorem Srch.has {s : Srch} (h : (s.bst (n + 1) m).is = true) : ∃ l ∈ exts [] s.fs.length, s.stp n m l = s.bst (n + 1) m := by
 rw [s.bst_succ] at h ⊢
 rcases zJ8 (g := s.stp n m) (exts [] s.fs.length) noOc with e | ⟨l, hl, e⟩
 ·rw [e] at h; cases h
 ·exact ⟨l, hl, e.symm⟩
theorem Srch.stp_is {s : Srch} (h : (s.stp n m l).is = true) : (s.nxt n m l).1 = 0 ∧ (s.bst n (s.nxt n m l).2).is = true ∧ s.alw (s.days.length - (n + 1)) l = true := by
 unfold Srch.stp stpO at h
 unfold Srch.nxt
 split at h
 ·cases h
 ·rename_i h1
  split at h
  ·cases h
  ·rename_i h2
   exact ⟨by simpa using h2, h, by simpa using h1⟩
theorem Srch.pick_of {s : Srch} (h : (exts [] s.fs.length).find? (fun l => decide (s.stp n m l = s.bst (n + 1) m)) = some l) : s.pick n m = l := by
 unfold Srch.pick
 rw [h]
 rfl
theorem zX7 {s : Srch} (hs : s.Ok) (hm : MOk m) (hl : l.length <= s.fs.length) : MOk (s.nxt n m l).2 := by
 letI : Sys := nSys Try.prog (Cp 0 131 msgM) 0
 exact (wC hs.ff hm hl hs.f3).1
structure Fnd where
 A : Option Addr
 c : Nat
 l : List Nat
 oA : Option Addr
 oc : Nat
abbrev PX : Type := Option Fnd × List (Spot × Value)
def PPre (s : Srch) (x : PX) (l : List Nat) : Prop := x.1 = none ∧ KnOk s x.2 ∧ l.length = s.fs.length
def PStep (s : Srch) (n : Nat) (m : Mor) (_x : PX) (l : List Nat) (x' : PX) (b : Bool) : Prop := KnOk s x'.2 ∧ ((b = true ∧ x'.1 = none ∧ s.stp n m l ≠ s.bst (n + 1) m) ∨ (b = false ∧ ∃ y, x'.1 = some y ∧ y.l = l ∧ s.stp n m l = s.bst (n + 1) m))
theorem zO0 {s : Srch} : ∀ (ls : List (List Nat)) (x : PX), (∀ l ∈ ls, l.length = s.fs.length) -> x.1 = none -> KnOk s x.2 -> Ready (PPre s) (PStep s n m) x ls
 | [], _, _, _, _ => trivial
 | l :: ls, x, hl, hx, hk => ⟨⟨hx, hk, hl l (by simp)⟩, fun x' hx' => zO0 ls x' (fun l h => hl l (by simp [h])) (by
  rcases hx'.2 with h | h
  ·exact h.2.1
  ·cases h.1) hx'.1⟩
theorem zX1 {s : Srch} {ls : List (List Nat)} {x x' : PX} {b : Bool} (h : Runs (PStep s n m) x ls x' b) (hk : KnOk s x.2) (hx : x.1 = none) : KnOk s x'.2 ∧ ((x'.1 = none ∧ ∀ l ∈ ls, s.stp n m l ≠ s.bst (n + 1) m) ∨ ∃ y, x'.1 = some y ∧ y.l ∈ ls ∧ ls.find? (fun l => decide (s.stp n m l = s.bst (n + 1) m)) = some y.l) := by
 induction h with
 | nil x => exact ⟨hk, .inl ⟨hx, fun l hl => by cases hl⟩⟩
 | cons h1 _ ih =>
  obtain ⟨h2, ⟨_, h3, h4⟩ | ⟨h3, _⟩⟩ := h1
  ·obtain ⟨h5, ⟨h6, h7⟩ | ⟨y, h6, h7, h8⟩⟩ := ih h2 h3
   ·exact ⟨h5, .inl ⟨h6, fun l hl => by
     rcases List.mem_cons.1 hl with rfl | hl
     ·exact h4
     ·exact h7 l hl⟩⟩
   ·exact ⟨h5, .inr ⟨y, h6, by simp [h7], by rw [List.find?_cons_of_neg (by simpa using h4)]; exact h8⟩⟩
  ·cases h3
 | stop h1 =>
  obtain ⟨h2, ⟨h3, _⟩ | ⟨_, y, h4, rfl, h5⟩⟩ := h1
  ·cases h3
  ·exact ⟨h2, .inr ⟨y, h4, by simp, by rw [List.find?_cons_of_pos (by simpa using h5)]⟩⟩
end Go.Proofs.Yteppiphdbondeaa.N
namespace Go.Proofs.Yteppiphdbondeaa.N
open Go Go.RowKit Go.Proofs
set_option linter.unusedSectionVars false
variable [I : Sys]
theorem F.one29 : One Try.prog 29 := ⟨by unfold aggB; rw [Try.underlying29], by rw [Try.underlying29]; simp⟩
theorem F.ti29 : TI Try.prog 29 (.slice none 0 0) 1 24 := TI.of (by kernel_rfl)
set_option maxRecDepth 4000 in
theorem zEf {s : Srch} (hs : s.Ok) {B : Nat} {w0 : World} {T : List Res} {N : Nat} {ds : List Deferred} {fr : List (Nat × Value)} {a : Act} {w : World} {kn : List (Spot × Value)} {km sb : Nat} (hkn : KnOk s kn) (hE : Stays B w0 T s.Env) (ha : At ⟨Try.prog, B, w0, N, ds⟩ fr (.blk km (KS.obj kn) :: .blk sb (.cells (s.cells km).toArray 101 (0, 0)) :: T) a w) : Calls Try.prog 49 #[pt sb] w fun e w' => ∃ kn' oA oc mr, (((s.bst s.days.length (start s.fs)).is = true ∧ mr.reverse.map (·.2.2) = s.planL s.days.length (start s.fs) ∧ e = .returned (.tuple #[.slice oA mr.length oc, .int .i64 (((s.bst s.days.length (start s.fs)).f : Nat) : Int), .bool true])) ∨ ((s.bst s.days.length (start s.fs)).is = false ∧ mr = [] ∧ e = .returned (.tuple #[.slice none 0 0, .int .i64 0, .bool false]))) ∧ KnOk s kn' ∧ At ⟨Try.prog, B, w0, N, ds⟩ fr (.row 22 1 oA mr.length oc (mr.reverse.map mcell) :: .blk km (KS.obj kn') :: .blk sb (.cells (s.cells km).toArray 101 (0, 0)) :: (mr.map mrow ++ T)) a w' := by
 have hs5 := hs.d5
 have hs3 := hs.f3
 have hm0 : MOk (start s.fs) := yG hs3 hs.ff _ (Nat.le_refl _)
 obtain ⟨x0, x1, x2, xw, hx, hx0, hx1, hx2, hxw⟩ := hm0.form
 have hb0 := s.bst_le hs s.days.length (start s.fs)
 have ha0 : At ⟨Try.prog, B, w0, N, ds⟩ fr (.blk km (KS.obj kn) :: .blk sb (SOb s km 101) :: T) a w := ha
 refine zKd (N := 83) [(0, pt sb)] ha0 Try.func49 rfl Try.ntmps49 rfl rfl (zD (zB (kA rfl rfl ?_)))
 intro b1
 refine zE rfl rfl (zE rfl rfl (zE rfl rfl (zA (zC (zD (zB (zR rfl rfl F.one75 (qT rfl rfl (yT rfl rfl F.fi101_0 F.ti77 (jE (o := 0) (l := [.slice s.fA s.fs.length s.fc, .int .i64 (s.kiln : Int), .slice s.dA s.days.length s.dc]) rfl rfl F.agg77 F.ti77 (jM (v := .agg (V4 x0 x1 x2 xw).toArray) (vs := [_]) rfl rfl F.ent60 (fun a w ha => (zDz s.fA s.dA s.fc s.days.length s.dc s.kiln s.fs hs3 hs.ff w (hE _ _ _ _ _ _ (fun r hr => by simp [hr]) ha).rf).mono (fun e w' h => ⟨h.1.trans (by rw [hx]; rfl), h.2⟩)) (kG (vs := [(0, _), (1, _)]) (l' := [_, _, _, _, _]) rfl rfl F.ti107 F.pl107 (.cons rfl rfl (.cons rfl rfl (.nil _))) rfl (zX rfl F.ti107 ?_)))))))))))))
 intro b5
 refine zH rfl rfl F.ti107 rfl (zA (zC (zD (zB (zR rfl rfl F.one75 (jE rfl rfl F.agg107 F.ti107 ?_))))))
 refine xB (X := List (Spot × Value)) (first := []) (cap := []) (vs := [_, _]) (p := fun kn' => KnOk s kn') (val := fun _ => .agg [.int .i64 ((s.bst s.days.length (start s.fs)).f : Int), .int .i64 ((s.bst s.days.length (start s.fs)).w : Int), .bool (s.bst s.days.length (start s.fs)).is].toArray) (rs := fun kn' => .blk km (KS.obj kn') :: .blk sb (SOb s km 101) :: .blk b5 (.cells [.int .i64 (x0 : Int), .int .i64 (x1 : Int), .int .i64 (x2 : Int), .int .u8 (xw : Int), .int .i64 0].toArray 107 (0, 0)) :: .blk b1 (PO sb 75) :: T) rfl rfl rfl F.ent68 (fun a w ha => ?_) ?_
 ·refine (zFr hs s.days.length B w0 (.blk b5 (.cells [.int .i64 (x0 : Int), .int .i64 (x1 : Int), .int .i64 (x2 : Int), .int .u8 (xw : Int), .int .i64 0].toArray 107 (0, 0)) :: .blk b1 (PO sb 75) :: T) _ _ _ _ _ kn km sb 0 x0 x1 x2 xw om ⟨rfl, by simp; omega, hxw⟩ hkn (hE.more (fun r hr => by simp [hr])) (ha.pck pkk)).mono ?_
  rintro e w' ⟨kn', h1, h2, h3⟩
  exact ⟨kn', h1.1, h2.trans (by rw [hx]; rfl), h3.pck pkk⟩
 rintro kn1 hkn1
 dsimp only [Srch.cells]
 generalize ho0 : s.bst s.days.length (start s.fs) = o0 at hb0 ⊢
 refine zX rfl F.ti111 ?_
 intro b6
 refine zH rfl rfl F.ti111 rfl (zA (zC (zD (zD (zB (zL rfl rfl F.fi111_1 F.ti4 (zR rfl rfl F.one4 ?_)))))))
 refine qF rfl rfl (zA (zC (qD rfl (fun hc0 => ?_) (fun hc0 => ?_))))
 ·exact zD (zB (zE rfl rfl (zE rfl rfl (zE rfl rfl (zA (zC (zY (jB (zJ1 rfl (fun a w ha => xL rfl rfl rfl rfl ha) (fun a w ha' => ⟨kn1, none, 0, [], .inr ⟨by simpa using hc0, rfl, rfl⟩, hkn1, ha.back ((ha'.add_nil 22 1).pck pkk)⟩))))))))))
 ·have his : (s.bst (s.days.length - 0) (start s.fs)).is = true := by rw [Nat.sub_zero, ho0]; simpa using hc0
  refine zQ (zC (zD (zB (zX rfl F.ti29 ?_))))
  intro b7
  refine zA (zC (zPu 22 1 (zJt (zC (zD (zS (zC4 (T := Mor × Nat × List (Spot × Value) × List Meta × Option Addr × Nat × List Nat) (fun g => g.2.1 <= s.days.length ∧ MOk g.1 ∧ KnOk s g.2.2.1 ∧ g.2.2.2.1.length = g.2.1 ∧ (s.bst (s.days.length - g.2.1) g.1).is = true ∧ s.planL s.days.length (start s.fs) = g.2.2.2.1.reverse.map (·.2.2) ++ s.planL (s.days.length - g.2.1) g.1) (fun g => s.days.length - g.2.1) (fun g => ⟨Try.prog, B, w0, 83, g.2.2.2.2.2.2.map colD⟩) (fun g => [(1, pt b1), (5, pt b5), (6, pt b6), (7, pt b7)]) (fun g => .blk b5 (.cells (Spot.cells (g.1, g.2.1)).toArray 107 (0, 0)) :: .blk b7 (.cells [.slice g.2.2.2.2.1 g.2.1 g.2.2.2.2.2.1].toArray 29 (0, 0)) :: .row 22 1 g.2.2.2.2.1 g.2.1 g.2.2.2.2.2.1 (g.2.2.2.1.reverse.map mcell) :: .blk b6 (OO o0.f o0.w o0.is 111) :: .blk b1 (PO sb 75) :: .blk km (KS.obj g.2.2.1) :: .blk sb (SOb s km 101) :: (g.2.2.2.2.2.2.map dblk ++ (g.2.2.2.1.map mrow ++ T))) (fun _ => rfl) ((⟨[x0, x1, x2], xw⟩ : Mor), 0, kn1, [], none, 0, []) ⟨Nat.zero_le _, hx ▸ hm0, hkn1, rfl, hx ▸ his, by rw [hx]; rfl⟩ (by rfl) sbn pkk ?_)))))))
  rintro ⟨m, k, kn2, mr, oA, oc, Ds⟩ ⟨hk, hm, hkn2, hmr, hbi, hpl⟩
  dsimp only at hk hm hkn2 hmr hbi hpl ⊢
  obtain ⟨z0, z1, z2, zw, rfl, hz0, hz1, hz2, hzw⟩ := hm.form
  rw [show Spot.cells ((⟨[z0, z1, z2], zw⟩ : Mor), k) = [.int .i64 (z0 : Int), .int .i64 (z1 : Int), .int .i64 (z2 : Int), .int .u8 (zw : Int), .int .i64 (k : Int)] from rfl]
  refine zD (zD (kD [] F.follows 10 rfl [false, false, false, false, false, false, false, false, false, false] rfl (zG 0 rfl rfl rfl (jA rfl F.fi107_1 F.ti3) (zG 1 rfl rfl rfl (kH rfl F.one3) (zG 2 rfl rfl rfl (kH rfl F.one75) (zG 3 rfl rfl rfl (kR rfl) (zG 4 rfl rfl rfl (xD rfl F.fi101_0 F.ti77) (zG 5 rfl rfl rfl (xD rfl F.fi77_0 F.ti27) (zG 6 rfl rfl rfl (xD rfl F.fi27_2 F.ti22) (zG 7 rfl rfl rfl (kH rfl F.one22) (zG 8 rfl rfl rfl (zA3 rfl Try.underlying22) (zG 9 rfl rfl rfl (kS rfl rfl jR) ?_))))))))))))
  refine adn (zC (zN rfl (fun hc1 => ?_) (fun hc1 => ?_)))
  ·obtain ⟨n, hn⟩ : ∃ n, s.days.length - k = n + 1 := ⟨s.days.length - k - 1, by omega⟩
   rw [hn] at hbi hpl
   have hbo2 := s.bst_le hs (n + 1) (⟨[z0, z1, z2], zw⟩ : Mor)
   obtain ⟨sugar, hsx⟩ : ∃ x, s.days[k]? = some x := ⟨_, List.getElem?_eq_getElem om⟩
   have hxs : sugar <= 12 := hs.dd sugar (List.mem_of_getElem? hsx)
   refine zQ (zC (zS (zS2 (zD (zB (zR rfl rfl F.one75 (jE rfl rfl F.agg107 F.ti107 (zH4 (φ := ∃ db dbo, s.dA = some ⟨db, dbo, none⟩) (fun a w ha => zJo (hE _ _ _ _ _ _ (fun r hr => by simp [hr]) ha).rd om) (fun hdA => ?_)))))))))
   obtain ⟨db, dbo, hdA⟩ := hdA
   refine xB (X := List (Spot × Value)) (first := []) (cap := []) (vs := [_, _]) (p := fun kn' => KnOk s kn') (val := fun _ => .agg [.int .i64 ((s.bst (n + 1) (⟨[z0, z1, z2], zw⟩ : Mor)).f : Int), .int .i64 ((s.bst (n + 1) (⟨[z0, z1, z2], zw⟩ : Mor)).w : Int), .bool (s.bst (n + 1) (⟨[z0, z1, z2], zw⟩ : Mor)).is].toArray) (rs := fun kn' => .blk b5 (O5 z0 z1 z2 zw k 107) :: .blk b7 (.cells [.slice oA k oc].toArray 29 (0, 0)) :: .row 22 1 oA k oc (mr.reverse.map mcell) :: .blk b6 (OO o0.f o0.w o0.is 111) :: .blk b1 (PO sb 75) :: .blk km (KS.obj kn') :: .blk sb (SOb s km 101) :: (Ds.map dblk ++ (mr.map mrow ++ T))) rfl rfl rfl F.ent68 (fun a w ha => ?_) ?_
   ·refine (zFr hs (n + 1) B w0 (.blk b5 (O5 z0 z1 z2 zw k 107) :: .blk b7 (.cells [.slice oA k oc].toArray 29 (0, 0)) :: .row 22 1 oA k oc (mr.reverse.map mcell) :: .blk b6 (OO o0.f o0.w o0.is 111) :: .blk b1 (PO sb 75) :: (Ds.map dblk ++ (mr.map mrow ++ T))) _ _ _ _ _ kn2 km sb k z0 z1 z2 zw om hm hkn2 (hE.more (fun r hr => by simp [hr])) (ha.pck pkk)).mono ?_
    rintro e w' ⟨kn', h1, h2, h3⟩
    exact ⟨kn', h1.1, h2, h3.pck pkk⟩
   rintro kn3 hkn3
   dsimp only [Srch.cells]
   refine zX rfl F.ti111 ?_
   intro b8
   refine zH rfl rfl F.ti111 rfl (zA (zC (zVc (fr' := [(1, pt b1), (5, pt b5), (6, pt b6), (7, pt b7), (8, pt b8)]) sbn (List.Sublist.refl _) (zJt (zC (zD (zSn (zC (zD (zB (zR rfl rfl F.one75 (qT rfl rfl (yT rfl rfl F.fi101_0 F.ti77 (jE (o := 0) (l := [.slice s.fA s.fs.length s.fc, .int .i64 (s.kiln : Int), .slice s.dA s.days.length s.dc]) rfl rfl F.agg77 F.ti77 (qK (X := Nat) (vs := [_]) (p := fun _ => True) (val := fun b1 => .func (.func 84) [].toArray [pt b1].toArray) (rs := fun b1 => [.blk b1 (.cells [.slice s.fA s.fs.length s.fc, .int .i64 (s.kiln : Int), .slice s.dA s.days.length s.dc].toArray 77 (0, 0))]) rfl rfl F.ent69 (fun a w ha => (zJj s.fA s.dA s.fc s.days.length s.dc s.kiln s.fs w).mono (fun e w' h => by obtain ⟨b1, h1, h2⟩ := h; exact ⟨b1, trivial, h1, h2⟩)) ?_)))))))))))))))
   rintro bl -
   dsimp only [List.cons_append, List.nil_append]
   have hlk : ∀ t v, look [(1, pt b1), (5, pt b5), (6, pt b6), (7, pt b7), (8, pt b8)] t = some v -> look ((41, .func (.func 84) [].toArray [pt bl].toArray) :: (40, .agg [.slice s.fA s.fs.length s.fc, .int .i64 (s.kiln : Int), .slice s.dA s.days.length s.dc].toArray) :: (39, pt sb) :: (38, pt sb) :: (37, pt sb) :: [(1, pt b1), (5, pt b5), (6, pt b6), (7, pt b7), (8, pt b8)]) t = some v := fun t v hv => Sub.look sbn t v hv
   refine zA (zC (zS (zEm (Y := Fnd × List (Spot × Value)) (lb := [pt bl]) (fun y => (KnOk s y.2 ∧ y.1.l ∈ exts [] s.fs.length ∧ (exts [] s.fs.length).find? (fun l => decide (s.stp n (⟨[z0, z1, z2], zw⟩ : Mor) l = s.bst (n + 1) (⟨[z0, z1, z2], zw⟩ : Mor))) = some y.1.l)) (fun _ => w0.output) (fun _ => some (.exit 2)) (fun _ => .exit 2) (fun y => .blk b5 (.cells (Spot.cells ((s.nxt n (⟨[z0, z1, z2], zw⟩ : Mor) y.1.l).2, k + 1)).toArray 107 (0, 0)) :: .blk b7 (.cells [.slice y.1.oA (k + 1) y.1.oc].toArray 29 (0, 0)) :: .row 22 1 y.1.oA (k + 1) y.1.oc (mr.reverse.map mcell ++ [mcell (y.1.A, y.1.c, y.1.l)]) :: .blk km (KS.obj y.2) :: mrow (y.1.A, y.1.c, y.1.l) :: .blk b8 (OO ((s.bst (n + 1) (⟨[z0, z1, z2], zw⟩ : Mor)).f) ((s.bst (n + 1) (⟨[z0, z1, z2], zw⟩ : Mor)).w) ((s.bst (n + 1) (⟨[z0, z1, z2], zw⟩ : Mor)).is) 111) :: .blk b6 (OO o0.f o0.w o0.is 111) :: .blk b1 (PO sb 75) :: .blk sb (SOb s km 101) :: (Ds.map dblk ++ (mr.map mrow ++ T))) rfl F.ent84 (fun _ _ => .inr ⟨_, rfl, rfl⟩) (fun r D rec a1 w1 hst hpe hps has hbo hsz hsl hR => ?_) (fun D y hy => ?_))))
   ·have hY : YSpL Try.prog B w0 r (fun _ => w0.output) (fun (x : PX) => match x.1 with | none => .blk r (.loop rec) :: .blk D (.deferred (some [])) :: .blk b5 (O5 z0 z1 z2 zw k 107) :: .blk b7 (.cells [.slice oA k oc].toArray 29 (0, 0)) :: .row 22 1 oA k oc (mr.reverse.map mcell) :: .blk km (KS.obj x.2) :: .blk b8 (OO ((s.bst (n + 1) (⟨[z0, z1, z2], zw⟩ : Mor)).f) ((s.bst (n + 1) (⟨[z0, z1, z2], zw⟩ : Mor)).w) ((s.bst (n + 1) (⟨[z0, z1, z2], zw⟩ : Mor)).is) 111) :: .blk b6 (OO o0.f o0.w o0.is 111) :: .blk b1 (PO sb 75) :: .blk sb (SOb s km 101) :: (Ds.map dblk ++ (mr.map mrow ++ T)) | some y => .blk r (.loop { rec with state := .done, pending := some (.exit 2) }) :: .blk D (.deferred (some [])) :: .blk b5 (.cells (Spot.cells ((s.nxt n (⟨[z0, z1, z2], zw⟩ : Mor) y.l).2, k + 1)).toArray 107 (0, 0)) :: .blk b7 (.cells [.slice y.oA (k + 1) y.oc].toArray 29 (0, 0)) :: .row 22 1 y.oA (k + 1) y.oc (mr.reverse.map mcell ++ [mcell (y.A, y.c, y.l)]) :: .blk km (KS.obj x.2) :: mrow (y.A, y.c, y.l) :: .blk b8 (OO ((s.bst (n + 1) (⟨[z0, z1, z2], zw⟩ : Mor)).f) ((s.bst (n + 1) (⟨[z0, z1, z2], zw⟩ : Mor)).w) ((s.bst (n + 1) (⟨[z0, z1, z2], zw⟩ : Mor)).is) 111) :: .blk b6 (OO o0.f o0.w o0.is 111) :: .blk b1 (PO sb 75) :: .blk sb (SOb s km 101) :: (Ds.map dblk ++ (mr.map mrow ++ T))) (PPre s) (PStep s n (⟨[z0, z1, z2], zw⟩ : Mor)) := by
     intro x A ac acts hpre N ds fr hp ay wy hay
     obtain ⟨hx0, hkk, hal⟩ := hpre
     obtain ⟨fo, kn4⟩ := x
     dsimp only at hx0 hkk
     subst hx0
     dsimp only at hay
     have ha2 := hay.permed (List.Perm.cons _ List.perm_append_comm)
     simp only [List.cons_append] at ha2
     have ha1 : At ⟨Try.prog, B, w0, N, ds⟩ fr (.blk r (.loop rec) :: .row 3 1 A acts.length ac (ints acts) :: .blk D (.deferred (some [])) :: .blk b5 (O5 z0 z1 z2 zw k 107) :: .blk b7 (.cells [.slice oA k oc].toArray 29 (0, 0)) :: .row 22 1 oA k oc (mr.reverse.map mcell) :: .blk km (KS.obj kn4) :: .blk b8 (OO ((s.bst (n + 1) (⟨[z0, z1, z2], zw⟩ : Mor)).f) ((s.bst (n + 1) (⟨[z0, z1, z2], zw⟩ : Mor)).w) ((s.bst (n + 1) (⟨[z0, z1, z2], zw⟩ : Mor)).is) 111) :: .blk b6 (OO o0.f o0.w o0.is 111) :: .blk b1 (PO sb 75) :: .blk sb (SOb s km 101) :: ((Ds.map dblk ++ (mr.map mrow ++ T)) ++ hp)) ay wy := ha2.pck pkk
     refine zH2 (X := Unit) (N := 83) (d := 42) (frC := [(1, pt b1), (5, pt b5), (6, pt b6), (7, pt b7), (8, pt b8)]) (frB := fun _ => (9, .slice A acts.length ac) :: [(1, pt b1), (5, pt b5), (6, pt b6), (7, pt b7), (8, pt b8)]) (hp1 := fun _ => .row 3 1 A acts.length ac (ints acts) :: .blk D (.deferred (some [])) :: .blk b5 (O5 z0 z1 z2 zw k 107) :: .blk b7 (.cells [.slice oA k oc].toArray 29 (0, 0)) :: .row 22 1 oA k oc (mr.reverse.map mcell) :: .blk km (KS.obj kn4) :: .blk b8 (OO ((s.bst (n + 1) (⟨[z0, z1, z2], zw⟩ : Mor)).f) ((s.bst (n + 1) (⟨[z0, z1, z2], zw⟩ : Mor)).w) ((s.bst (n + 1) (⟨[z0, z1, z2], zw⟩ : Mor)).is) 111) :: .blk b6 (OO o0.f o0.w o0.is 111) :: .blk b1 (PO sb 75) :: .blk sb (SOb s km 101) :: ((Ds.map dblk ++ (mr.map mrow ++ T)) ++ hp)) ha1 hst hps hsz rfl (fun t u hu => hsl t u (hlk t u hu)) (by rw [has]; kernel_rfl) (by rw [hbo]; kernel_rfl) ?_ ?_
     ·intro K hK
      refine zDw has (zB (zE rfl rfl (zA ?_)))
      exact fun a w ha => hK () a w ((ha.drop_slots sbn).pck pkk)
     ·intro _
      refine zDw hbo (zS (zD (zD (kD [.b km] F.follows 6 rfl [false, false, false, false, false, false] rfl (zG 0 rfl rfl rfl (kH rfl F.one75) (zG 1 rfl rfl rfl (qL rfl F.agg107 F.ti107) (zG 2 rfl rfl rfl (zP rfl) (zG 4 rfl rfl rfl (qL rfl F.agg111 F.ti111) (an1 3 rfl ?_)))))))))
      have hsl2 := s.stp_le hs n (⟨[z0, z1, z2], zw⟩ : Mor) (l := acts) om
      refine xB (X := List (Spot × Value)) (first := []) (cap := []) (vs := [_, _, _]) (p := fun kn' => KnOk s kn') (val := fun _ => .agg [.int .i64 ((s.stp n (⟨[z0, z1, z2], zw⟩ : Mor) acts).f : Int), .int .i64 ((s.stp n (⟨[z0, z1, z2], zw⟩ : Mor) acts).w : Int), .bool (s.stp n (⟨[z0, z1, z2], zw⟩ : Mor) acts).is].toArray) (rs := fun kn' => .blk km (KS.obj kn') :: .blk r (.loop { rec with state := .busy }) :: .row 3 1 A acts.length ac (ints acts) :: .blk D (.deferred (some [])) :: .blk b5 (O5 z0 z1 z2 zw k 107) :: .blk b7 (.cells [.slice oA k oc].toArray 29 (0, 0)) :: .row 22 1 oA k oc (mr.reverse.map mcell) :: .blk b8 (OO ((s.bst (n + 1) (⟨[z0, z1, z2], zw⟩ : Mor)).f) ((s.bst (n + 1) (⟨[z0, z1, z2], zw⟩ : Mor)).w) ((s.bst (n + 1) (⟨[z0, z1, z2], zw⟩ : Mor)).is) 111) :: .blk b6 (OO o0.f o0.w o0.is 111) :: .blk b1 (PO sb 75) :: .blk sb (SOb s km 101) :: ((Ds.map dblk ++ (mr.map mrow ++ T)) ++ hp)) rfl rfl rfl F.ent70 (fun a w ha => ?_) ?_
      ·refine (zM8 hs (zFr hs n) (T := .blk r (.loop { rec with state := .busy }) :: .row 3 1 A acts.length ac (ints acts) :: .blk D (.deferred (some [])) :: .blk b5 (O5 z0 z1 z2 zw k 107) :: .blk b7 (.cells [.slice oA k oc].toArray 29 (0, 0)) :: .row 22 1 oA k oc (mr.reverse.map mcell) :: .blk b8 (OO ((s.bst (n + 1) (⟨[z0, z1, z2], zw⟩ : Mor)).f) ((s.bst (n + 1) (⟨[z0, z1, z2], zw⟩ : Mor)).w) ((s.bst (n + 1) (⟨[z0, z1, z2], zw⟩ : Mor)).is) 111) :: .blk b6 (OO o0.f o0.w o0.is 111) :: .blk b1 (PO sb 75) :: ((Ds.map dblk ++ (mr.map mrow ++ T)) ++ hp)) (kn := kn4) (km := km) (sb := sb) (ac := ac) (d := k) om hm hz0 hz1 hz2 hzw hal hkk (hE.more (fun r hr => by simp [hr])) ((Stays.row (c := ac)).more (fun r hr => by simp at hr; simp [hr])) (ha.pck pkk)).mono ?_
       rintro e w' ⟨kn', h1, h2, h3⟩
       exact ⟨kn', h1.1, h2, h3.pck pkk⟩
      rintro kn6 hkn6
      dsimp only [Srch.cells]
      generalize hoo : s.stp n (⟨[z0, z1, z2], zw⟩ : Mor) acts = os at hsl2 ⊢
      refine zA (anb (zG 5 rfl rfl rfl (zO6 (u := Oc.val os) (u' := Oc.val (s.bst (n + 1) (⟨[z0, z1, z2], zw⟩ : Mor))) rfl rfl (zP8 om om om om _ _)) ?_))
      refine adn (zC (zN rfl (fun hc2 => ?_) (fun hc2 => ?_)))
      ·refine jU (zO (jF (zBq (hp' := .blk r (.loop { rec with state := .busy }) :: .blk D (.deferred (some [])) :: .blk b5 (O5 z0 z1 z2 zw k 107) :: .blk b7 (.cells [.slice oA k oc].toArray 29 (0, 0)) :: .row 22 1 oA k oc (mr.reverse.map mcell) :: .blk km (KS.obj kn6) :: .blk b8 (OO ((s.bst (n + 1) (⟨[z0, z1, z2], zw⟩ : Mor)).f) ((s.bst (n + 1) (⟨[z0, z1, z2], zw⟩ : Mor)).w) ((s.bst (n + 1) (⟨[z0, z1, z2], zw⟩ : Mor)).is) 111) :: .blk b6 (OO o0.f o0.w o0.is 111) :: .blk b1 (PO sb 75) :: .blk sb (SOb s km 101) :: ((Ds.map dblk ++ (mr.map mrow ++ T)) ++ hp)) pkk (wV hst hpe (fun a w ha => ⟨(none, kn6), true, ⟨hkn6, .inl ⟨rfl, rfl, by rw [hoo]; exact hc2⟩⟩, rfl, ?_⟩)))))
       exact ((hay.backO (x := w0.output) ha).pck (hp' := .blk r (.loop rec) :: .blk D (.deferred (some [])) :: .blk b5 (O5 z0 z1 z2 zw k 107) :: .blk b7 (.cells [.slice oA k oc].toArray 29 (0, 0)) :: .row 22 1 oA k oc (mr.reverse.map mcell) :: .blk km (KS.obj kn6) :: .blk b8 (OO ((s.bst (n + 1) (⟨[z0, z1, z2], zw⟩ : Mor)).f) ((s.bst (n + 1) (⟨[z0, z1, z2], zw⟩ : Mor)).w) ((s.bst (n + 1) (⟨[z0, z1, z2], zw⟩ : Mor)).is) 111) :: .blk b6 (OO o0.f o0.w o0.is 111) :: .blk b1 (PO sb 75) :: .blk sb (SOb s km 101) :: ((Ds.map dblk ++ (mr.map mrow ++ T)) ++ hp)) pkk).permed (by simpa using (List.perm_append_comm (l₁ := .blk r (.loop rec) :: .blk D (.deferred (some [])) :: .blk b5 (O5 z0 z1 z2 zw k 107) :: .blk b7 (.cells [.slice oA k oc].toArray 29 (0, 0)) :: .row 22 1 oA k oc (mr.reverse.map mcell) :: .blk km (KS.obj kn6) :: .blk b8 (OO ((s.bst (n + 1) (⟨[z0, z1, z2], zw⟩ : Mor)).f) ((s.bst (n + 1) (⟨[z0, z1, z2], zw⟩ : Mor)).w) ((s.bst (n + 1) (⟨[z0, z1, z2], zw⟩ : Mor)).is) 111) :: .blk b6 (OO o0.f o0.w o0.is 111) :: .blk b1 (PO sb 75) :: .blk sb (SOb s km 101) :: (Ds.map dblk ++ (mr.map mrow ++ T))) (l₂ := hp)))
      ·have heq : s.stp n (⟨[z0, z1, z2], zw⟩ : Mor) acts = s.bst (n + 1) (⟨[z0, z1, z2], zw⟩ : Mor) := by rw [hoo]; simpa using hc2
       have hglen : acts.length <= s.fs.length := by omega
       obtain ⟨hok2, -⟩ := wC (fs := s.fs) (kiln := s.kiln) (m := (⟨[z0, z1, z2], zw⟩ : Mor)) (acts := acts) (sugar := sugar) hs.ff hm hglen hs.f3
       have htry : ∀ w, RdL Flt.cells 4 w s.fA s.fs -> RdL ncell 1 w A acts -> Calls Try.prog 71 #[.agg [.slice s.fA s.fs.length s.fc, .int .i64 (s.kiln : Int), .slice s.dA s.days.length s.dc].toArray, .agg (V4 z0 z1 z2 zw).toArray, .slice A acts.length ac, .int .i64 (sugar : Int)] w (fun e w' => e = .returned (.tuple #[(dayE s.fs s.kiln (⟨[z0, z1, z2], zw⟩ : Mor) acts sugar).2.val, .int .i64 (((dayE s.fs s.kiln (⟨[z0, z1, z2], zw⟩ : Mor) acts sugar).1 : Nat) : Int)]) ∧ Grew w w' []) := fun w hF hA => zLq s.fA s.dA A s.fc s.days.length s.dc ac s.kiln s.fs hs.f3 hs.ff z0 z1 z2 zw hz0 hz1 hz2 hzw acts hglen sugar hxs w hF hA
       have hnx : s.nxt n (⟨[z0, z1, z2], zw⟩ : Mor) acts = dayE s.fs s.kiln (⟨[z0, z1, z2], zw⟩ : Mor) acts sugar := by
        unfold Srch.nxt
        rw [show s.days.length - (n + 1) = k from by omega, show s.days.getD k 0 = sugar from by rw [List.getD_eq_getElem?_getD, hsx]; rfl]
       generalize dayE s.fs s.kiln (⟨[z0, z1, z2], zw⟩ : Mor) acts sugar = st at hok2 htry hnx ⊢
       obtain ⟨er, nm⟩ := st
       dsimp only at hok2 htry hnx ⊢
       obtain ⟨y0, y1, y2, yw, rfl, hy0, hy1, hy2, hyw⟩ := hok2.form
       refine zQ (zC (zD (xK (G := Nat) (fun _ => True) (fun b10 => (9, .slice A acts.length ac) :: (10, pt b10) :: [(1, pt b1), (5, pt b5), (6, pt b6), (7, pt b7), (8, pt b8)]) (fun b10 => .blk b10 (.cells (V4 y0 y1 y2 yw).toArray 95 (0, 0)) :: .blk r (.loop { rec with state := .busy }) :: .row 3 1 A acts.length ac (ints acts) :: .blk D (.deferred (some [])) :: .blk b5 (O5 z0 z1 z2 zw k 107) :: .blk b7 (.cells [.slice oA k oc].toArray 29 (0, 0)) :: .row 22 1 oA k oc (mr.reverse.map mcell) :: .blk km (KS.obj kn6) :: .blk b8 (OO ((s.bst (n + 1) (⟨[z0, z1, z2], zw⟩ : Mor)).f) ((s.bst (n + 1) (⟨[z0, z1, z2], zw⟩ : Mor)).w) ((s.bst (n + 1) (⟨[z0, z1, z2], zw⟩ : Mor)).is) 111) :: .blk b6 (OO o0.f o0.w o0.is 111) :: .blk b1 (PO sb 75) :: .blk sb (SOb s km 101) :: ((Ds.map dblk ++ (mr.map mrow ++ T)) ++ hp)) ?_ ?_)))
       ·refine kD [] F.follows 24 rfl [false, false, false, false, false, false, false, false, false, false, false, false, false, false, false, false, false, false, false, false, false, false, false, false] rfl (zG 0 rfl rfl rfl (kH rfl F.one75) (zG 1 rfl rfl rfl (kR rfl) (zG 2 rfl rfl rfl (xD rfl F.fi101_0 F.ti77) (zG 3 rfl rfl rfl (qL (o := 0) (l := [.slice s.fA s.fs.length s.fc, .int .i64 (s.kiln : Int), .slice s.dA s.days.length s.dc]) rfl F.agg77 F.ti77) (zG 4 rfl rfl rfl (jA rfl F.fi107_0 F.ti95) (zG 5 rfl rfl rfl (qL rfl F.agg95 F.ti95) (zG 6 rfl rfl rfl (zP rfl) (zG 7 rfl rfl rfl (kH rfl F.one75) (zG 8 rfl rfl rfl (kR rfl) (zG 9 rfl rfl rfl (xD rfl F.fi101_0 F.ti77) (zG 10 rfl rfl rfl (xD rfl F.fi77_0 F.ti27) (zG 11 rfl rfl rfl (xD rfl F.fi27_2 F.ti22) (zG 12 rfl rfl rfl (kH rfl F.one22) (zG 13 rfl rfl rfl (jA rfl F.fi107_1 F.ti3) ?_))))))))))))))
        refine zG 14 rfl rfl rfl (kH rfl F.one3) (zG 15 rfl rfl rfl (kM (j := k) (show _ = some (Value.slice (some ⟨db, dbo, none⟩) s.days.length s.dc) from by rw [<- hdA]; rfl) rfl Try.underlying22 F.ti3 rfl (show k < s.days.length by omega)) (zG 16 rfl rfl rfl (jP (v := .int .i64 (sugar : Int)) rfl F.one3 (fun a w ha => zJq (by have h := (hE _ _ _ _ _ _ (fun r hr => by simp [hr]) ha).rd; rw [hdA] at h; exact h) hsx)) ?_))
        refine qI 17 21 kr rfl rfl rfl rfl ?_ ?_
        ·refine jM (v := .tuple #[.agg (V4 y0 y1 y2 yw).toArray, .int .i64 (er : Int)]) (vs := [_, _, _, _]) rfl rfl F.ent71 (fun a w ha => (htry w (hE _ _ _ _ _ _ (fun r hr => by simp [hr]) ha).rf (Stays.row (c := ac) _ _ _ _ _ _ (fun r hr => by simp at hr; simp [hr]) ha)).mono (fun e w' h => ⟨h.1.trans rfl, h.2⟩)) (zA (anb (zG 18 rfl rfl rfl (zP rfl) (zG 19 rfl rfl rfl (kZ rfl rfl) (zG 20 rfl rfl rfl (kZ rfl rfl) (an1 21 rfl (zX rfl F.ti95 ?_)))))))
         intro b10
         exact zA (anb (an1 22 rfl (zH rfl rfl F.ti95 rfl (zA (anb (zG 23 rfl rfl rfl (jZ rfl) (adn (jS b10 trivial sbn pkk))))))))
        ·refine zX rfl F.ti95 ?_
         intro b10
         exact zA (anb (an1 17 rfl (jM (v := .tuple #[.agg (V4 y0 y1 y2 yw).toArray, .int .i64 (er : Int)]) (vs := [_, _, _, _]) rfl rfl F.ent71 (fun a w ha => (htry w (hE _ _ _ _ _ _ (fun r hr => by simp [hr]) ha).rf (Stays.row (c := ac) _ _ _ _ _ _ (fun r hr => by simp at hr; simp [hr]) ha)).mono (fun e w' h => ⟨h.1.trans rfl, h.2⟩)) (zA (anb (zG 18 rfl rfl rfl (zP rfl) (zG 19 rfl rfl rfl (kZ rfl rfl) (zG 20 rfl rfl rfl (kZ rfl rfl) (an1 22 rfl (zH rfl rfl F.ti95 rfl (zA (anb (zG 23 rfl rfl rfl (jZ rfl) (adn (jS b10 trivial sbn pkk)))))))))))))))
       ·rintro b10 -
        (try dsimp only)
        refine zC (zD (xK (G := Option Addr × Nat) (fun _ => True) (fun x => []) (fun x => .blk r (.loop { rec with state := .busy }) :: .blk D (.deferred (some [])) :: .blk b5 (.cells [.int .i64 (y0 : Int), .int .i64 (y1 : Int), .int .i64 (y2 : Int), .int .u8 (yw : Int), .int .i64 ((k + 1 : Nat) : Int)].toArray 107 (0, 0)) :: .blk b7 (.cells [.slice x.1 (k + 1) x.2].toArray 29 (0, 0)) :: .row 22 1 x.1 (k + 1) x.2 (mr.reverse.map mcell ++ [mcell (A, ac, acts)]) :: .blk km (KS.obj kn6) :: .row 3 1 A acts.length ac (ints acts) :: .blk b8 (OO ((s.bst (n + 1) (⟨[z0, z1, z2], zw⟩ : Mor)).f) ((s.bst (n + 1) (⟨[z0, z1, z2], zw⟩ : Mor)).w) ((s.bst (n + 1) (⟨[z0, z1, z2], zw⟩ : Mor)).is) 111) :: .blk b6 (OO o0.f o0.w o0.is 111) :: .blk b1 (PO sb 75) :: .blk sb (SOb s km 101) :: ((Ds.map dblk ++ (mr.map mrow ++ T)) ++ hp)) ?_ ?_))
        ·refine kD [.b b7, .b b5, .r oA] F.follows 11 rfl [false, false, false, false, false, false, false, false, false, false, false] rfl (zG 1 rfl rfl rfl (zP rfl) (zG 4 rfl rfl rfl (qL rfl F.agg95 F.ti95) (zG 5 rfl rfl rfl (jA rfl F.fi107_1 F.ti3) ?_)))
         refine zRp (l3 := [false, true, false, false, true, true, true, false, false, false, false].toArray) 0 2 6 kr rfl rfl rfl rfl rfl rfl ?_ ?_ ?_
         ·refine zR rfl rfl F.one29 ?_
          refine zA (anb (qI 2 6 kr rfl rfl rfl rfl ?_ ?_))
          ·refine jV (vs := [(0, _)]) rfl rfl Try.underlying29 F.ti22 rfl rfl rfl ?_
           intro b72
           refine zA (anb (qI 3 6 kr rfl rfl rfl rfl ?_ ?_))
           ·refine kL rfl rfl rfl Try.underlying29 F.ti22 rfl rfl rfl (by unfold maxLen; omega) om ?_
            intro A3 c3
            refine zA (anb (qI 6 9 kr rfl rfl rfl rfl ?_ ?_))
            ·exact zR rfl rfl F.one3 (zA (anb (zG 7 rfl rfl rfl (kS (v := .int .i64 ((k + 1 : Nat) : Int)) rfl rfl (fun w => jK w (by rw [zT _ om om]; omega))) (zG 8 rfl rfl rfl (xV (vs := [(0, _), (1, _)]) (l' := [_, _, _, _, _]) rfl F.ti107 F.pl107 (.cons rfl rfl (.cons rfl rfl (.nil _))) rfl) (an1 9 rfl (zH rfl rfl F.ti29 rfl (zA (anb (an1 10 rfl (zH rfl rfl F.ti107 rfl (zA (anb (adn (jS (A3, c3) trivial sbn pkk))))))))))))))
            ·exact zH rfl rfl F.ti29 rfl (zA (anb (an1 6 rfl (zR rfl rfl F.one3 (zA (anb (zG 7 rfl rfl rfl (kS (v := .int .i64 ((k + 1 : Nat) : Int)) rfl rfl (fun w => jK w (by rw [zT _ om om]; omega))) (zG 8 rfl rfl rfl (xV (vs := [(0, _), (1, _)]) (l' := [_, _, _, _, _]) rfl F.ti107 F.pl107 (.cons rfl rfl (.cons rfl rfl (.nil _))) rfl) (an1 10 rfl (zH rfl rfl F.ti107 rfl (zA (anb (adn (jS (A3, c3) trivial sbn pkk))))))))))))))
           ·refine zR rfl rfl F.one3 (zA (anb (zG 7 rfl rfl rfl (kS (v := .int .i64 ((k + 1 : Nat) : Int)) rfl rfl (fun w => jK w (by rw [zT _ om om]; omega))) (zG 8 rfl rfl rfl (xV (vs := [(0, _), (1, _)]) (l' := [_, _, _, _, _]) rfl F.ti107 F.pl107 (.cons rfl rfl (.cons rfl rfl (.nil _))) rfl) (an1 3 rfl (kL rfl rfl rfl Try.underlying29 F.ti22 rfl rfl rfl (by unfold maxLen; omega) om ?_))))))
            intro A3 c3
            exact zA (anb (an1 9 rfl (zH rfl rfl F.ti29 rfl (zA (anb (an1 10 rfl (zH rfl rfl F.ti107 rfl (zA (anb (adn (jS (A3, c3) trivial sbn pkk)))))))))))
          ·refine zR rfl rfl F.one3 (zA (anb (zG 7 rfl rfl rfl (kS (v := .int .i64 ((k + 1 : Nat) : Int)) rfl rfl (fun w => jK w (by rw [zT _ om om]; omega))) (zG 8 rfl rfl rfl (xV (vs := [(0, _), (1, _)]) (l' := [_, _, _, _, _]) rfl F.ti107 F.pl107 (.cons rfl rfl (.cons rfl rfl (.nil _))) rfl) (an1 2 rfl (jV (vs := [(0, _)]) rfl rfl Try.underlying29 F.ti22 rfl rfl rfl ?_))))))
           intro b72
           refine zA (anb (an1 3 rfl (kL rfl rfl rfl Try.underlying29 F.ti22 rfl rfl rfl (by unfold maxLen; omega) om ?_)))
           intro A3 c3
           exact zA (anb (an1 9 rfl (zH rfl rfl F.ti29 rfl (zA (anb (an1 10 rfl (zH rfl rfl F.ti107 rfl (zA (anb (adn (jS (A3, c3) trivial sbn pkk)))))))))))
         ·refine jV (vs := [(0, _)]) rfl rfl Try.underlying29 F.ti22 rfl rfl rfl ?_
          intro b72
          refine zA (anb (qI 0 6 kr rfl rfl rfl rfl ?_ ?_))
          ·refine zR rfl rfl F.one29 ?_
           refine zA (anb (qI 3 6 kr rfl rfl rfl rfl ?_ ?_))
           ·refine kL rfl rfl rfl Try.underlying29 F.ti22 rfl rfl rfl (by unfold maxLen; omega) om ?_
            intro A3 c3
            refine zA (anb (qI 6 9 kr rfl rfl rfl rfl ?_ ?_))
            ·exact zR rfl rfl F.one3 (zA (anb (zG 7 rfl rfl rfl (kS (v := .int .i64 ((k + 1 : Nat) : Int)) rfl rfl (fun w => jK w (by rw [zT _ om om]; omega))) (zG 8 rfl rfl rfl (xV (vs := [(0, _), (1, _)]) (l' := [_, _, _, _, _]) rfl F.ti107 F.pl107 (.cons rfl rfl (.cons rfl rfl (.nil _))) rfl) (an1 9 rfl (zH rfl rfl F.ti29 rfl (zA (anb (an1 10 rfl (zH rfl rfl F.ti107 rfl (zA (anb (adn (jS (A3, c3) trivial sbn pkk))))))))))))))
            ·exact zH rfl rfl F.ti29 rfl (zA (anb (an1 6 rfl (zR rfl rfl F.one3 (zA (anb (zG 7 rfl rfl rfl (kS (v := .int .i64 ((k + 1 : Nat) : Int)) rfl rfl (fun w => jK w (by rw [zT _ om om]; omega))) (zG 8 rfl rfl rfl (xV (vs := [(0, _), (1, _)]) (l' := [_, _, _, _, _]) rfl F.ti107 F.pl107 (.cons rfl rfl (.cons rfl rfl (.nil _))) rfl) (an1 10 rfl (zH rfl rfl F.ti107 rfl (zA (anb (adn (jS (A3, c3) trivial sbn pkk))))))))))))))
           ·refine zR rfl rfl F.one3 (zA (anb (zG 7 rfl rfl rfl (kS (v := .int .i64 ((k + 1 : Nat) : Int)) rfl rfl (fun w => jK w (by rw [zT _ om om]; omega))) (zG 8 rfl rfl rfl (xV (vs := [(0, _), (1, _)]) (l' := [_, _, _, _, _]) rfl F.ti107 F.pl107 (.cons rfl rfl (.cons rfl rfl (.nil _))) rfl) (an1 3 rfl (kL rfl rfl rfl Try.underlying29 F.ti22 rfl rfl rfl (by unfold maxLen; omega) om ?_))))))
            intro A3 c3
            exact zA (anb (an1 9 rfl (zH rfl rfl F.ti29 rfl (zA (anb (an1 10 rfl (zH rfl rfl F.ti107 rfl (zA (anb (adn (jS (A3, c3) trivial sbn pkk)))))))))))
          ·refine zR rfl rfl F.one3 (zA (anb (zG 7 rfl rfl rfl (kS (v := .int .i64 ((k + 1 : Nat) : Int)) rfl rfl (fun w => jK w (by rw [zT _ om om]; omega))) (zG 8 rfl rfl rfl (xV (vs := [(0, _), (1, _)]) (l' := [_, _, _, _, _]) rfl F.ti107 F.pl107 (.cons rfl rfl (.cons rfl rfl (.nil _))) rfl) (an1 0 rfl (zR rfl rfl F.one29 (zA (anb (an1 3 rfl (kL rfl rfl rfl Try.underlying29 F.ti22 rfl rfl rfl (by unfold maxLen; omega) om ?_))))))))))
           intro A3 c3
           exact zA (anb (an1 9 rfl (zH rfl rfl F.ti29 rfl (zA (anb (an1 10 rfl (zH rfl rfl F.ti107 rfl (zA (anb (adn (jS (A3, c3) trivial sbn pkk)))))))))))
         ·refine zR rfl rfl F.one3 (zA (anb (zG 7 rfl rfl rfl (kS (v := .int .i64 ((k + 1 : Nat) : Int)) rfl rfl (fun w => jK w (by rw [zT _ om om]; omega))) (zG 8 rfl rfl rfl (xV (vs := [(0, _), (1, _)]) (l' := [_, _, _, _, _]) rfl F.ti107 F.pl107 (.cons rfl rfl (.cons rfl rfl (.nil _))) rfl) ?_))))
          refine qI 0 2 kr rfl rfl rfl rfl ?_ ?_
          ·refine zR rfl rfl F.one29 (zA (anb (an1 2 rfl (jV (vs := [(0, _)]) rfl rfl Try.underlying29 F.ti22 rfl rfl rfl ?_))))
           intro b72
           refine zA (anb (an1 3 rfl (kL rfl rfl rfl Try.underlying29 F.ti22 rfl rfl rfl (by unfold maxLen; omega) om ?_)))
           intro A3 c3
           exact zA (anb (an1 9 rfl (zH rfl rfl F.ti29 rfl (zA (anb (an1 10 rfl (zH rfl rfl F.ti107 rfl (zA (anb (adn (jS (A3, c3) trivial sbn pkk)))))))))))
          ·refine jV (vs := [(0, _)]) rfl rfl Try.underlying29 F.ti22 rfl rfl rfl ?_
           intro b72
           refine zA (anb (an1 0 rfl (zR rfl rfl F.one29 (zA (anb (an1 3 rfl (kL rfl rfl rfl Try.underlying29 F.ti22 rfl rfl rfl (by unfold maxLen; omega) om ?_)))))))
           intro A3 c3
           exact zA (anb (an1 9 rfl (zH rfl rfl F.ti29 rfl (zA (anb (an1 10 rfl (zH rfl rfl F.ti107 rfl (zA (anb (adn (jS (A3, c3) trivial sbn pkk)))))))))))
        ·rintro ⟨A3, c3⟩ -
         (try dsimp only)
         refine zC (jU (yK rfl (zBq (hp' := .blk r (.loop { rec with state := .busy }) :: .blk D (.deferred (some [])) :: .blk b5 (.cells [.int .i64 (y0 : Int), .int .i64 (y1 : Int), .int .i64 (y2 : Int), .int .u8 (yw : Int), .int .i64 ((k + 1 : Nat) : Int)].toArray 107 (0, 0)) :: .blk b7 (.cells [.slice A3 (k + 1) c3].toArray 29 (0, 0)) :: .row 22 1 A3 (k + 1) c3 (mr.reverse.map mcell ++ [mcell (A, ac, acts)]) :: .blk km (KS.obj kn6) :: .row 3 1 A acts.length ac (ints acts) :: .blk b8 (OO ((s.bst (n + 1) (⟨[z0, z1, z2], zw⟩ : Mor)).f) ((s.bst (n + 1) (⟨[z0, z1, z2], zw⟩ : Mor)).w) ((s.bst (n + 1) (⟨[z0, z1, z2], zw⟩ : Mor)).is) 111) :: .blk b6 (OO o0.f o0.w o0.is 111) :: .blk b1 (PO sb 75) :: .blk sb (SOb s km 101) :: ((Ds.map dblk ++ (mr.map mrow ++ T)) ++ hp)) pkk (zN1 (j := .exit 2) rfl (fun a w ha => ⟨(some ⟨A, ac, acts, A3, c3⟩, kn6), false, ⟨hkn6, .inr ⟨rfl, _, rfl, rfl, heq⟩⟩, rfl, ?_⟩)))))
         have ha5 := At.permed (hp' := hp ++ (.blk r (.loop { rec with state := .done, pending := some (.exit 2) }) :: .blk D (.deferred (some [])) :: .blk b5 (.cells [.int .i64 (y0 : Int), .int .i64 (y1 : Int), .int .i64 (y2 : Int), .int .u8 (yw : Int), .int .i64 ((k + 1 : Nat) : Int)].toArray 107 (0, 0)) :: .blk b7 (.cells [.slice A3 (k + 1) c3].toArray 29 (0, 0)) :: .row 22 1 A3 (k + 1) c3 (mr.reverse.map mcell ++ [mcell (A, ac, acts)]) :: .blk km (KS.obj kn6) :: .row 3 1 A acts.length ac (ints acts) :: .blk b8 (OO ((s.bst (n + 1) (⟨[z0, z1, z2], zw⟩ : Mor)).f) ((s.bst (n + 1) (⟨[z0, z1, z2], zw⟩ : Mor)).w) ((s.bst (n + 1) (⟨[z0, z1, z2], zw⟩ : Mor)).is) 111) :: .blk b6 (OO o0.f o0.w o0.is 111) :: .blk b1 (PO sb 75) :: .blk sb (SOb s km 101) :: (Ds.map dblk ++ (mr.map mrow ++ T)) : List Res)) (show At _ fr ((.blk r (.loop { rec with state := .done, pending := some (.exit 2) }) :: .blk D (.deferred (some [])) :: .blk b5 (.cells [.int .i64 (y0 : Int), .int .i64 (y1 : Int), .int .i64 (y2 : Int), .int .u8 (yw : Int), .int .i64 ((k + 1 : Nat) : Int)].toArray 107 (0, 0)) :: .blk b7 (.cells [.slice A3 (k + 1) c3].toArray 29 (0, 0)) :: .row 22 1 A3 (k + 1) c3 (mr.reverse.map mcell ++ [mcell (A, ac, acts)]) :: .blk km (KS.obj kn6) :: .row 3 1 A acts.length ac (ints acts) :: .blk b8 (OO ((s.bst (n + 1) (⟨[z0, z1, z2], zw⟩ : Mor)).f) ((s.bst (n + 1) (⟨[z0, z1, z2], zw⟩ : Mor)).w) ((s.bst (n + 1) (⟨[z0, z1, z2], zw⟩ : Mor)).is) 111) :: .blk b6 (OO o0.f o0.w o0.is 111) :: .blk b1 (PO sb 75) :: .blk sb (SOb s km 101) :: (Ds.map dblk ++ (mr.map mrow ++ T)) : List Res) ++ hp) _ _ from (hay.backO (x := w0.output) ha).pck (hp' := .blk r (.loop { rec with state := .done, pending := some (.exit 2) }) :: .blk D (.deferred (some [])) :: .blk b5 (.cells [.int .i64 (y0 : Int), .int .i64 (y1 : Int), .int .i64 (y2 : Int), .int .u8 (yw : Int), .int .i64 ((k + 1 : Nat) : Int)].toArray 107 (0, 0)) :: .blk b7 (.cells [.slice A3 (k + 1) c3].toArray 29 (0, 0)) :: .row 22 1 A3 (k + 1) c3 (mr.reverse.map mcell ++ [mcell (A, ac, acts)]) :: .blk km (KS.obj kn6) :: .row 3 1 A acts.length ac (ints acts) :: .blk b8 (OO ((s.bst (n + 1) (⟨[z0, z1, z2], zw⟩ : Mor)).f) ((s.bst (n + 1) (⟨[z0, z1, z2], zw⟩ : Mor)).w) ((s.bst (n + 1) (⟨[z0, z1, z2], zw⟩ : Mor)).is) 111) :: .blk b6 (OO o0.f o0.w o0.is 111) :: .blk b1 (PO sb 75) :: .blk sb (SOb s km 101) :: ((Ds.map dblk ++ (mr.map mrow ++ T)) ++ hp)) pkk) List.perm_append_comm
         dsimp only
         rw [hnx]
         exact ha5
    refine (zHn (X := PX) (o := fun _ => w0.output) (T := (fun (x : PX) => match x.1 with | none => .blk r (.loop rec) :: .blk D (.deferred (some [])) :: .blk b5 (O5 z0 z1 z2 zw k 107) :: .blk b7 (.cells [.slice oA k oc].toArray 29 (0, 0)) :: .row 22 1 oA k oc (mr.reverse.map mcell) :: .blk km (KS.obj x.2) :: .blk b8 (OO ((s.bst (n + 1) (⟨[z0, z1, z2], zw⟩ : Mor)).f) ((s.bst (n + 1) (⟨[z0, z1, z2], zw⟩ : Mor)).w) ((s.bst (n + 1) (⟨[z0, z1, z2], zw⟩ : Mor)).is) 111) :: .blk b6 (OO o0.f o0.w o0.is 111) :: .blk b1 (PO sb 75) :: .blk sb (SOb s km 101) :: (Ds.map dblk ++ (mr.map mrow ++ T)) | some y => .blk r (.loop { rec with state := .done, pending := some (.exit 2) }) :: .blk D (.deferred (some [])) :: .blk b5 (.cells (Spot.cells ((s.nxt n (⟨[z0, z1, z2], zw⟩ : Mor) y.l).2, k + 1)).toArray 107 (0, 0)) :: .blk b7 (.cells [.slice y.oA (k + 1) y.oc].toArray 29 (0, 0)) :: .row 22 1 y.oA (k + 1) y.oc (mr.reverse.map mcell ++ [mcell (y.A, y.c, y.l)]) :: .blk km (KS.obj x.2) :: mrow (y.A, y.c, y.l) :: .blk b8 (OO ((s.bst (n + 1) (⟨[z0, z1, z2], zw⟩ : Mor)).f) ((s.bst (n + 1) (⟨[z0, z1, z2], zw⟩ : Mor)).w) ((s.bst (n + 1) (⟨[z0, z1, z2], zw⟩ : Mor)).is) 111) :: .blk b6 (OO o0.f o0.w o0.is 111) :: .blk b1 (PO sb 75) :: .blk sb (SOb s km 101) :: (Ds.map dblk ++ (mr.map mrow ++ T)))) (hp := []) hs3 hY (x := (none, kn3)) (zO0 _ _ (fun l hl => by have := yH _ _ l hl; simpa using this) rfl hkn3) (hR.pck pkk)).mono (fun e w2 h => ?_)
    obtain ⟨⟨fo, kn5⟩, b', hr, he, h4⟩ := h
    obtain ⟨hk5, ⟨_, hno⟩ | ⟨y, hy1, hy2, hy3⟩⟩ := zX1 hr hkn3 rfl
    ·obtain ⟨l, hl, hle⟩ := Srch.has hbi
     exact absurd hle (hno l hl)
    ·dsimp only at hk5 hy1
     subst hy1
     refine ⟨⟨_, he⟩, (y, kn5), ⟨hk5, hy2, hy3⟩, ?_⟩
     dsimp only at h4
     exact h4.pck pkk
   ·obtain ⟨⟨yA, yc, yl, yoA, yoc⟩, kn5⟩ := y
    obtain ⟨hk5, hy2, hy3⟩ := hy
    dsimp only at hk5 hy2 hy3 ⊢
    refine jF (zJc (zJ (zBq (hp' := .blk b5 (.cells (Spot.cells ((s.nxt n (⟨[z0, z1, z2], zw⟩ : Mor) yl).2, k + 1)).toArray 107 (0, 0)) :: .blk b7 (.cells [.slice yoA (k + 1) yoc].toArray 29 (0, 0)) :: .row 22 1 yoA (k + 1) yoc (mr.reverse.map mcell ++ [mcell (yA, yc, yl)]) :: .blk b6 (OO o0.f o0.w o0.is 111) :: .blk b1 (PO sb 75) :: .blk km (KS.obj kn5) :: .blk sb (SOb s km 101) :: dblk D :: mrow (yA, yc, yl) :: (Ds.map dblk ++ (mr.map mrow ++ T))) pkk (zOl (hp' := .blk b5 (.cells (Spot.cells ((s.nxt n (⟨[z0, z1, z2], zw⟩ : Mor) yl).2, k + 1)).toArray 107 (0, 0)) :: .blk b7 (.cells [.slice yoA (k + 1) yoc].toArray 29 (0, 0)) :: .row 22 1 yoA (k + 1) yoc (mr.reverse.map mcell ++ [mcell (yA, yc, yl)]) :: .blk b6 (OO o0.f o0.w o0.is 111) :: .blk b1 (PO sb 75) :: .blk km (KS.obj kn5) :: .blk sb (SOb s km 101) :: dblk D :: (Ds.map dblk ++ (mrow (yA, yc, yl) :: (mr.map mrow ++ T)))) perm8 ?_))))
    have hst2 := Srch.stp_is (s := s) (n := n) (m := (⟨[z0, z1, z2], zw⟩ : Mor)) (l := yl) (by
     have h9 := List.find?_some hy3
     simp only [decide_eq_true_eq] at h9
     rw [h9]; exact hbi)
    have hyl := yH _ _ _ hy2
    refine zAl ((s.nxt n (⟨[z0, z1, z2], zw⟩ : Mor) yl).2, k + 1, kn5, (yA, yc, yl) :: mr, yoA, yoc, D :: Ds) rfl ⟨by (try dsimp only); omega, zX7 hs hm (by simp at hyl; omega), hk5, by simp [hmr], ?_, ?_⟩ tdo sbn ?_
    ·dsimp only
     rw [show s.days.length - (k + 1) = n from by omega]
     exact hst2.2.1
    ·dsimp only
     rw [hpl, show s.days.length - (k + 1) = n from by omega]
     rw [show s.planL (n + 1) (⟨[z0, z1, z2], zw⟩ : Mor) = s.pick n (⟨[z0, z1, z2], zw⟩ : Mor) :: s.planL n (s.nxt n (⟨[z0, z1, z2], zw⟩ : Mor) (s.pick n (⟨[z0, z1, z2], zw⟩ : Mor))).2 from rfl, Srch.pick_of hy3]
     simp
    dsimp only
    rw [List.reverse_cons, List.map_append]
    exact pkk
  ·subst hmr
   have hkl : mr.length = s.days.length := by omega
   have hpl2 : s.planL s.days.length (start s.fs) = mr.reverse.map (·.2.2) := by rw [hpl, hkl, Nat.sub_self]; simp [Srch.planL]
   exact jU (zO (zO (jF (zC (zD (kD [] F.follows 7 rfl [false, false, false, false, false, false, false] rfl (zG 0 rfl rfl rfl (kH rfl F.one29) (zG 1 rfl rfl rfl (jA rfl F.fi111_0 F.ti109) (zG 2 rfl rfl rfl (jA rfl F.fi109_0 F.ti3) (zG 3 rfl rfl rfl (kH rfl F.one3) (zG 4 rfl rfl rfl (jZ rfl) (zG 5 rfl rfl rfl (jZ rfl) (zG 6 rfl rfl rfl (jZ rfl) (adn (zC (zY (zOl (hp' := Ds.map dblk ++ (.blk b5 (.cells (Spot.cells ((⟨[z0, z1, z2], zw⟩ : Mor), mr.length)).toArray 107 (0, 0)) :: .blk b7 (.cells [.slice oA mr.length oc].toArray 29 (0, 0)) :: .row 22 1 oA mr.length oc (mr.reverse.map mcell) :: .blk b6 (OO o0.f o0.w o0.is 111) :: .blk b1 (PO sb 75) :: .blk km (KS.obj kn2) :: .blk sb (SOb s km 101) :: (mr.map mrow ++ T))) perm7c (zR6 (.tuple #[.slice oA mr.length oc, .int .i64 (o0.f : Int), .bool true]) (fun a w ha => xL rfl rfl rfl rfl ha) (fun a w ha' => ⟨kn2, oA, oc, mr, .inl ⟨by rw [Nat.sub_zero, ho0] at his; exact his, hpl2.symm, rfl⟩, hkn2, ha.back (ha'.pck pkk)⟩)))))))))))))))))))

end Go.Proofs.Yteppiphdbondeaa.N
namespace Go.Proofs.Yteppiphdbondeaa.N
open Go Go.RowKit Go.Proofs Go.Conc
set_option linter.unusedSectionVars false
variable {P : Program} {b dc fc kiln n : Nat} {dA fA : Option Addr} {days : List Nat} {e k t : TypeId} {es : Array MapEntry} {fs : List Flt} {w w' : World} {x : Operand}
section
variable [I : Sys] {C : Ctx} {fr : List (Nat × Value)} {hp hp' : List Res} {ops : Array Oper} {Q : Exit -> Act -> World -> Prop} {rest : List Oper} {d : Nat} {dst : Option Nat} {ty : TypeId} {pos : String} {after : Array Edge}
theorem zFw {y y' : Operand} {A : Option Addr} {len cap k m : Nat} {kd kd' : IntKind} {z : Value} (hx : ev fr x = some (.slice A len cap)) (hy : ev fr y = some (.int kd (k : Int))) (hy' : ev fr y' = some (.int kd' (k : Int)))
  (ht : C.P.underlying t = some (.slice e)) (he : TI C.P e z n m) (hle : k <= cap) : Yld C ⟨dst, .slice t x none (some y) (some y'), ty, pos, after, none⟩ fr hp (.slice A k k) := by
 obtain ⟨i', hi', _, hs, _⟩ := he
 refine ⟨rfl, fun a w ha => ⟨zEq .., ?_⟩⟩
 have hu := ht
 rw [<- zL3 ht] at hu
 have h1 : (0 : Int) <= (k : Int) := by omega
 have h2 : ((k : Int) <= (cap : Int)) := by omega
 have h3 : ¬ cap < k := by omega
 have hsz : (sizeOf e).run C.P w = .ok n w := by simp [sizeOf, typeInfo, hi', hs]
 simp only [execOp, ha.eval hx, Option.map, ha.eval hy, ha.eval hy', Sem.run_bind, run_sliceAt_slice _ _ _ _ _ _ hu]
 cases A with
 | none => simp [Instr.slice, run_underlying ht, Instr.sliceBounds, Instr.sliceBound, asIntOf, h1, hle, hsz]
 | some p =>
  have hp0 : p.add 0 = p := by unfold Addr.add; split <;> simp_all
  simp [Instr.slice, run_underlying ht, Instr.sliceBounds, Instr.sliceBound, asIntOf, h1, hle, hsz, hp0]
theorem zN7 (ht : P.underlying t = some (.map k e)) (cs : Array Bool) (w : World) (hb : w.heap[b]? = some (.map es n)) : (builtin .len #[t] ty cs #[.map (some b)]).run P w = .ok (.value (.int .i64 (es.size : Int))) w := by
 simp [builtin, Builtin.len_, run_underlying ht, MapKept.run_getObj_map hb, goInt]
theorem zOd (hx : ev fr x = some (.map (some b))) (ht : C.P.underlying t = some (.map k e)) (hb : Res.blk b (.map es n) ∈ hp) :
  Yld C ⟨dst, .call { callee := .builtin .len, args := #[x], argTypes := #[t] }, ty, pos, after, none⟩ fr hp (.int .i64 (es.size : Int)) := by
 refine ⟨rfl, fun a w ha => ⟨vM fun _ => zHu, ?_⟩⟩
 have := zN7 (P := C.P) (ty := ty) ht (w := w) (es := es) (n := n) (b := b)
 simp only [execOp, resolve, ha.eval hx, Sem.run_bind, Sem.run_pure, Result.andThen_ok, invoke, List.map_toArray, List.map_cons, List.map_nil]
 exact this _ (ha.mem_blk hb)
end
theorem zL7 {α : Type} (K : KT P k α) (l : List (α × Value)) : ((idxd l).map K.ent).toArray.size = l.length := by simp [zHv]
structure ChV (fs : List Flt) (kiln : Nat) (days : List Nat) : Prop where
 f1 : 1 <= fs.length
 f3 : fs.length <= 3
 ff : ∀ f ∈ fs, FltOk f
 k3 : kiln <= 3
 d1 : 1 <= days.length
 d4 : days.length <= 4
 dd : ∀ n ∈ days, n <= 12
def toZs (l : List Nat) : List Int := l.map fun (n : Nat) => (n : Int)
theorem chk0 (h : ChV fs kiln days) : chk (fs.map Flt.toZ) kiln (toZs days) = 0 := by
 obtain ⟨h1, h3, hf, hk, d1, d4, dd⟩ := h
 unfold chk toZs
 simp only [List.length_map]
 have e1 : szd (fs.length : Int) 1 3 = 0 := by unfold szd; rw [if_neg om, if_neg om]
 have e2 : szd (days.length : Int) 1 4 = 0 := by unfold szd; rw [if_neg om, if_neg om]
 have e3 : (fs.map Flt.toZ).any (fun f => chkF f != 0) = false := by
  rw [List.any_eq_false]
  intro f hfm
  obtain ⟨g, hg, rfl⟩ := List.mem_map.1 hfm
  obtain ⟨a1, a2, a3, a4⟩ := hf g hg
  have : chkF g.toZ = 0 := by
   unfold chkF btw Flt.toZ
   rw [if_pos]
   simp
   omega
  simp [this]
 have e4 : (days.map fun (n : Nat) => (n : Int)).any (fun n => !btw n 0 12) = false := by
  rw [List.any_eq_false]
  intro n hn
  obtain ⟨g, hg, rfl⟩ := List.mem_map.1 hn
  have := dd g hg
  unfold btw
  simp
  omega
 have e5 : btw (kiln : Int) 0 3 = true := by unfold btw; simp; omega
 rw [e1, e2, e3, e4, e5]
 rfl
def anyS (fA dA : Option Addr) (fc dc kiln : Nat) (fs : List Flt) (days : List Nat) : Srch := ⟨fA, dA, fc, dc, kiln, fs, days, 66, 67, [], [], fun _ _ => true, fun _ => true⟩
def bstA (fs : List Flt) (kiln : Nat) (days : List Nat) : Oc := bstO (fun _ _ => true) (fun _ => true) fs kiln days days.length (start fs)
def planA (fs : List Flt) (kiln : Nat) (days : List Nat) : List (List Nat) := (anyS none none 0 0 kiln fs days).planL days.length (start fs)
theorem zMg : ∀ n m, (anyS fA dA fc dc kiln fs days).planL n m = (anyS none none 0 0 kiln fs days).planL n m
 | 0, _ => rfl
 | n + 1, _m => congrArg (List.cons _) (zMg n _)
section
variable [I : Sys]
theorem zOu (hF : RdL Flt.cells 4 w fA fs) (hD : RdL ncell 1 w dA days) : (anyS fA dA fc dc kiln fs days).Env w :=
 ⟨hF, hD, fun A c d acts _ _ _ => zRb _ A _ c w, fun m hm => by
  obtain ⟨a, b, c, x, rfl, _⟩ := hm.form
  exact zRk a b c x w⟩
theorem zKm (hF : RdL Flt.cells 4 w fA fs) (hD : RdL ncell 1 w dA days) : Stays w.heap.size w [] (anyS fA dA fc dc kiln fs days).Env :=
 fun _ _ _ _ _ _w' _ ha => zOu (hF.later ha.below) (hD.later ha.below)
theorem zFp (h : ChV fs kiln days) : (anyS fA dA fc dc kiln fs days).Ok := ⟨h.f3, h.ff, Nat.le_succ_of_le h.d4, h.dd, jD Try.func66 rfl (by kernel_rfl), jD Try.func67 rfl (by kernel_rfl)⟩
class ReaC where
 low : Nat
 reach : ∀ {fA dA eA : Option Addr} {fc nd dc kiln ec : Nat} {fs : List Flt} {days gl : List Nat} (_ : fs.length <= 3) (_ : ∀ f ∈ fs, FltOk f) (_ : ∀ n ∈ days, n <= 12) (_ : days.length <= 5) (w : World) (_ : low <= w.heap.size) (_ : w.output = gout [0])
  (_ : ∀ b ∈ gl, ∃ cs t, w.heap[b]? = some (.cells cs t (0, 0)) ∧ 0 < cs.size) (_ : 0 < fs.length -> ∃ g o x, g ∈ gl ∧ fA = some ⟨g, o, x⟩) (_ : RdL Flt.cells 4 w fA fs) (_ : RdL ncell 1 w eA days),
  Calls Try.prog 56 #[.agg (CA fA fs.length fc kiln dA nd dc).toArray, .slice eA days.length ec] w fun e w' => ∃ l b, e = .returned (.map (some b)) ∧ l.Nodup ∧ (∀ m, m ∈ l ↔ Rch fs kiln days m) ∧ (∀ m ∈ l, MOk m) ∧ Grew w w' [.blk b (KM.obj (tr l))]
def RdC [R : ReaC] (w : World) : Prop := R.low <= w.heap.size ∧ w.output = gout [0]
theorem RdC.later [R : ReaC] {B : Nat} (h : RdC w) (hb : Below B w w') : RdC w' := ⟨Nat.le_trans h.1 hb.size, hb.output.trans h.2⟩
def Lendy (w : World) (fA : Option Addr) (fs : List Flt) : Prop := 0 < fs.length -> ∃ g o x cs t, fA = some ⟨g, o, x⟩ ∧ w.heap[g]? = some (.cells cs t (0, 0)) ∧ 0 < cs.size
theorem Lendy.later (h : Lendy w fA fs) (hb : Below w.heap.size w w') : Lendy w' fA fs := fun hl => by
 obtain ⟨g, o, x, cs, t, h1, h2, h3⟩ := h hl
 exact ⟨g, o, x, cs, t, h1, by rw [hb.block g (Array.getElem?_eq_some_iff.1 h2).1]; exact h2, h3⟩
theorem zWz [R : ReaC] {eA : Option Addr} {nd ec : Nat} (h3 : fs.length <= 3) (hf : ∀ f ∈ fs, FltOk f) (hd : ∀ n ∈ days, n <= 12) (hl : days.length <= 5) (w : World) (hR : RdC w) (hL : Lendy w fA fs) (hF : RdL Flt.cells 4 w fA fs) (hD : RdL ncell 1 w eA days) :
  Calls Try.prog 56 #[.agg (CA fA fs.length fc kiln dA nd dc).toArray, .slice eA days.length ec] w fun e w' => ∃ l b, e = .returned (.map (some b)) ∧ l.Nodup ∧ (∀ m, m ∈ l ↔ Rch fs kiln days m) ∧ (∀ m ∈ l, MOk m) ∧ Grew w w' [.blk b (KM.obj (tr l))] := by
 by_cases h0 : 0 < fs.length
 ·obtain ⟨g, o, x, cs, t, h1, h2, h4⟩ := hL h0
  exact R.reach (gl := [g]) h3 hf hd hl w hR.1 hR.2 (fun b hb => by simp at hb; subst hb; exact ⟨cs, t, h2, h4⟩) (fun _ => ⟨g, o, x, by simp, h1⟩) hF hD
 ·exact R.reach (gl := []) h3 hf hd hl w hR.1 hR.2 (fun b hb => by cases hb) (fun h => absurd h h0) hF hD
end
instance reaC_main (low : Nat) : @ReaC (zSys Try.prog (Cp low 131 msgM)) := @ReaC.mk (zSys Try.prog (Cp low 131 msgM)) low fun h1 h2 h3 h4 w h5 h6 h7 h8 h9 h10 => @zW7 (zSys Try.prog (Cp low 131 msgM)) low _ _ _ _ _ _ _ _ _ _ _ h1 h2 h3 h4 w h5 h6 h7 h8 h9 h10
end Go.Proofs.Yteppiphdbondeaa.N
namespace Go.Proofs.Yteppiphdbondeaa.N
open Go Go.RowKit Go.Proofs
set_option linter.unusedSectionVars false
variable [I : Sys]
theorem F.agg27 : aggB Try.prog 27 = true := by unfold aggB; rw [Try.underlying27]
theorem F.ent43 : Enters Try.prog 43 := jD Try.func43 rfl (by kernel_rfl)
theorem F.ent48 : Enters Try.prog 48 := jD Try.func48 rfl (by kernel_rfl)
theorem F.ent49 : Enters Try.prog 49 := jD Try.func49 rfl (by kernel_rfl)
theorem F.pl77 : Places Try.prog 77 [(0, 3)] := .inl ⟨_, Try.underlying77, by kernel_rfl⟩
set_option maxRecDepth 4000 in
theorem zMz {fA dA : Option Addr} {fc dc kiln : Nat} {fs : List Flt} {days : List Nat} (hc : ChV fs kiln days) (w : World) (hF : RdL Flt.cells 4 w fA fs) (hD : RdL ncell 1 w dA days) : Calls Try.prog 15 #[.agg (CA fA fs.length fc kiln dA days.length dc).toArray] w fun e w' => ∃ oA oc mr, (((bstA fs kiln days).is = true ∧ mr.reverse.map (·.2.2) = planA fs kiln days ∧ e = .returned (.tuple #[.slice oA mr.length oc, .int .i64 (((bstA fs kiln days).f : Nat) : Int), .int .i64 0])) ∨ ((bstA fs kiln days).is = false ∧ mr = [] ∧ e = .returned (.tuple #[.slice none 0 0, .int .i64 0, .int .i64 11]))) ∧ Grew w w' (.row 22 1 oA mr.length oc (mr.reverse.map mcell) :: mr.map mrow) := by
 refine enter (N := 26) [(0, .agg (CA fA fs.length fc kiln dA days.length dc).toArray)] Try.func15 rfl Try.ntmps15 rfl rfl (zD (zB (kA rfl rfl ?_)))
 intro b1
 refine zE rfl rfl (zE rfl rfl (zE rfl rfl (zA (zC (zD (zD (zB (jE rfl rfl F.agg27 F.ti27 ?_))))))))
 refine jM (v := .int .i64 0) (vs := [_]) rfl rfl F.ent43 (fun a w ha => by
  have h := zCj (fA := fA) (dA := dA) (fc := fc) (dc := dc) (fs := fs.map Flt.toZ) (kiln := (kiln : Int)) (days := toZs days) (by have := hc.f3; simp; omega) (by have := hc.d4; simp [toZs]; omega) w (RdL.mapped Flt.toZ (hF.later ha.below) (fun _ => rfl)) (RdL.mapped (fun (n : Nat) => (n : Int)) (hD.later ha.below) (fun _ => rfl))
  rw [chk0 hc] at h
  simpa [toZs] using h) ?_
 refine zE rfl rfl (zA (zC (zD (zB (zF rfl rfl (zI rfl rfl rfl qO ?_))))))
 refine zA (zC (zN rfl (fun hc0 => ?_) (fun hc0 => ?_)))
 ·exact absurd rfl hc0
  done
 ·refine zQ (zC (zD ?_))
  rcases his : (bstA fs kiln days).is with _ | _
  ·refine zB (jE rfl rfl F.agg27 F.ti27 (kG (vs := [(0, _)]) (l' := [_, _, _]) rfl rfl F.ti77 F.pl77 (.cons rfl rfl (.nil _)) rfl (qK (X := Nat × Nat) (vs := [_]) (p := fun _ => True) (val := fun g => .pointer (some ⟨g.1, 0, none⟩)) (rs := fun g => [.blk g.1 (.cells [.slice fA fs.length fc, .int .i64 (kiln : Int), .slice dA days.length dc, .func (.func 66) [].toArray [].toArray, .func (.func 67) [].toArray [].toArray, .map (some g.2)].toArray 101 (0, 0)), .blk g.2 (KS.obj [])]) rfl rfl F.ent48 (fun a w ha => (zGv fA dA fc days.length dc kiln fs w).mono (fun e w' h => by obtain ⟨b, km, h1, h2⟩ := h; exact ⟨(b, km), trivial, h1, h2⟩)) ?_)))
   rintro ⟨sb, km⟩ -
   dsimp only [List.cons_append, List.nil_append]
   refine xB (X := Option Addr × Nat × List Meta × List (Spot × Value)) (first := []) (cap := []) (vs := [_]) (p := fun g => g.2.2.1 = []) (val := fun g => .tuple #[.slice none 0 0, .int .i64 0, .bool false]) (rs := fun g => .row 22 1 g.1 g.2.2.1.length g.2.1 (g.2.2.1.reverse.map mcell) :: .blk km (KS.obj g.2.2.2) :: .blk sb (.cells [.slice fA fs.length fc, .int .i64 (kiln : Int), .slice dA days.length dc, .func (.func 66) [].toArray [].toArray, .func (.func 67) [].toArray [].toArray, .map (some km)].toArray 101 (0, 0)) :: (g.2.2.1.map mrow ++ [.blk b1 (.cells (CA fA fs.length fc kiln dA days.length dc).toArray 27 (0, 0))])) rfl rfl rfl F.ent49 (fun a w ha => ?_) ?_
   ·refine (zEf (s := (anyS fA dA fc dc kiln fs days)) (zFp hc) (T := [.blk b1 (.cells (CA fA fs.length fc kiln dA days.length dc).toArray 27 (0, 0))]) (km := km) (sb := sb) (KnOk.nil _) ((zKm hF hD).more (fun r hr => by cases hr)) (ha.pck pkk)).mono ?_
    rintro e w' ⟨kn', oA, oc, mr, hcase, hk, hA⟩
    rcases hcase with ⟨h1, h2, h3⟩ | ⟨h1, h2, h3⟩
    ·exact absurd (his.symm.trans h1) (by simp)
    ·exact ⟨(oA, oc, mr, kn'), h2, h3, hA⟩
   rintro ⟨oA, oc, mr, kn'⟩ hp
   dsimp only at hp ⊢
   exact zF rfl rfl (zW rfl rfl rfl (zW rfl rfl rfl (zW rfl rfl rfl (zE rfl rfl (zE rfl rfl (zE rfl rfl (zA (zC (zD (zD (zB (zF rfl rfl (qF rfl rfl (zA (zC (kX rfl (zD (zB (zE rfl rfl (zE rfl rfl (zE rfl rfl (zA (zC (zY (jB (jJ rfl (fun a w ha => xL rfl rfl rfl rfl ha) (fun a w ha => ⟨oA, oc, mr, .inr ⟨rfl, hp, rfl⟩, ha.grown (.cons_cons _ (.cons _ (.cons _ (List.sublist_append_left ..))))⟩)))))))))))))))))))))))))))
  ·refine zB (jE rfl rfl F.agg27 F.ti27 (kG (vs := [(0, _)]) (l' := [_, _, _]) rfl rfl F.ti77 F.pl77 (.cons rfl rfl (.nil _)) rfl (qK (X := Nat × Nat) (vs := [_]) (p := fun _ => True) (val := fun g => .pointer (some ⟨g.1, 0, none⟩)) (rs := fun g => [.blk g.1 (.cells [.slice fA fs.length fc, .int .i64 (kiln : Int), .slice dA days.length dc, .func (.func 66) [].toArray [].toArray, .func (.func 67) [].toArray [].toArray, .map (some g.2)].toArray 101 (0, 0)), .blk g.2 (KS.obj [])]) rfl rfl F.ent48 (fun a w ha => (zGv fA dA fc days.length dc kiln fs w).mono (fun e w' h => by obtain ⟨b, km, h1, h2⟩ := h; exact ⟨(b, km), trivial, h1, h2⟩)) ?_)))
   rintro ⟨sb, km⟩ -
   dsimp only [List.cons_append, List.nil_append]
   refine xB (X := Option Addr × Nat × List Meta × List (Spot × Value)) (first := []) (cap := []) (vs := [_]) (p := fun g => g.2.2.1.reverse.map (·.2.2) = planA fs kiln days) (val := fun g => .tuple #[.slice g.1 g.2.2.1.length g.2.1, .int .i64 (((bstA fs kiln days).f : Nat) : Int), .bool true]) (rs := fun g => .row 22 1 g.1 g.2.2.1.length g.2.1 (g.2.2.1.reverse.map mcell) :: .blk km (KS.obj g.2.2.2) :: .blk sb (.cells [.slice fA fs.length fc, .int .i64 (kiln : Int), .slice dA days.length dc, .func (.func 66) [].toArray [].toArray, .func (.func 67) [].toArray [].toArray, .map (some km)].toArray 101 (0, 0)) :: (g.2.2.1.map mrow ++ [.blk b1 (.cells (CA fA fs.length fc kiln dA days.length dc).toArray 27 (0, 0))])) rfl rfl rfl F.ent49 (fun a w ha => ?_) ?_
   ·refine (zEf (s := (anyS fA dA fc dc kiln fs days)) (zFp hc) (T := [.blk b1 (.cells (CA fA fs.length fc kiln dA days.length dc).toArray 27 (0, 0))]) (km := km) (sb := sb) (KnOk.nil _) ((zKm hF hD).more (fun r hr => by cases hr)) (ha.pck pkk)).mono ?_
    rintro e w' ⟨kn', oA, oc, mr, hcase, hk, hA⟩
    rcases hcase with ⟨h1, h2, h3⟩ | ⟨h1, h2, h3⟩
    ·exact ⟨(oA, oc, mr, kn'), h2.trans (zMg _ _), h3, hA⟩
    ·exact absurd (his.symm.trans h1) (by simp)
   rintro ⟨oA, oc, mr, kn'⟩ hp
   dsimp only at hp ⊢
   exact zF rfl rfl (zW rfl rfl rfl (zW rfl rfl rfl (zW rfl rfl rfl (zE rfl rfl (zE rfl rfl (zE rfl rfl (zA (zC (zD (zD (zB (zF rfl rfl (qF rfl rfl (zA (zC (kI rfl (zQ (zC (zD (zB (zF rfl rfl (zF rfl rfl (zE rfl rfl (zE rfl rfl (zE rfl rfl (zA (zC (zY (jJ rfl (fun a w ha => xL rfl rfl rfl rfl ha) (fun a w ha => ⟨oA, oc, mr, .inl ⟨rfl, hp, rfl⟩, ha.grown (.cons_cons _ (.cons _ (.cons _ (List.sublist_append_left ..))))⟩))))))))))))))))))))))))))))))

theorem zWm [R : ReaC] {fA dA : Option Addr} {fc dc kiln : Nat} {fs : List Flt} {days : List Nat} (hc : ChV fs kiln days) (hcap : days.length <= dc) (w : World) (hR : RdC w) (hL : Lendy w fA fs) (hF : RdL Flt.cells 4 w fA fs) (hD : RdL ncell 1 w dA days) : Calls Try.prog 23 #[.agg (CA fA fs.length fc kiln dA days.length dc).toArray] w fun e w' => ((∃ d, d < days.length ∧ (∀ j, j < d -> ∃ m, Rch fs kiln (days.take (j + 1)) m) ∧ (∀ m, ¬ Rch fs kiln (days.take (d + 1)) m) ∧ e = .returned (.tuple #[.int .i64 (d : Int), .int .i64 0])) ∨ ((∀ j, j < days.length -> ∃ m, Rch fs kiln (days.take (j + 1)) m) ∧ e = .returned (.tuple #[.int .i64 0, .int .i64 11]))) ∧ Grew w w' [] := by
 refine enter (N := 31) [(0, .agg (CA fA fs.length fc kiln dA days.length dc).toArray)] Try.func23 rfl Try.ntmps23 rfl rfl (zD (zB (kA rfl rfl ?_)))
 intro b1
 refine zE rfl rfl (zE rfl rfl (zA (zC (zD (zD (zB (jE rfl rfl F.agg27 F.ti27 ?_)))))))
 refine jM (v := .int .i64 0) (vs := [_]) rfl rfl F.ent43 (fun a w ha => by
  have h := zCj (fA := fA) (dA := dA) (fc := fc) (dc := dc) (fs := fs.map Flt.toZ) (kiln := (kiln : Int)) (days := toZs days) (by have := hc.f3; simp; omega) (by have := hc.d4; simp [toZs]; omega) w (RdL.mapped Flt.toZ (hF.later ha.below) (fun _ => rfl)) (RdL.mapped (fun (n : Nat) => (n : Int)) (hD.later ha.below) (fun _ => rfl))
  rw [chk0 hc] at h
  simpa [toZs] using h) ?_
 refine zE rfl rfl (zA (zC (zD (zB (zF rfl rfl (zI rfl rfl rfl qO ?_))))))
 refine zA (zC (zN rfl (fun hc0 => ?_) (fun hc0 => ?_)))
 ·exact absurd rfl hc0
  done
 ·refine zQ (zC (zD (zD (zB (zL rfl rfl F.fi27_2 F.ti22 (zR rfl rfl F.one22 (jX rfl rfl Try.underlying22 (zF rfl rfl (zA (zC (zS (xY (G := Nat) (fun k => k <= days.length ∧ ∀ j, j < k -> ∃ m, Rch fs kiln (days.take (j + 1)) m) (fun k => days.length - k) (fun k => [(1, pt b1), (13, .int .i64 (days.length : Int)), (14, .int .i64 (k : Int))]) (fun k => [.blk b1 (.cells (CA fA fs.length fc kiln dA days.length dc).toArray 27 (0, 0))]) 0 ⟨Nat.zero_le _, fun j hj => absurd hj (Nat.not_lt_zero _)⟩ sbn sbl ?_))))))))))))
  intro k hk
  (try dsimp only at hk ⊢)
  refine zD (zB (zI rfl rfl rfl jR ?_))
  refine zA (zC (zD (zN rfl (fun hc1 => ?_) (fun hc1 => ?_))))
  ·have hd4 := hc.d4
   obtain ⟨hkl, hkall⟩ := hk
   have hdc : days.length <= dc := hcap
   refine zQ (zC (zD (zS (zD (zB (zF rfl rfl (zE rfl rfl (zA (zC (zD (kD [] F.follows 12 rfl [false, false, false, false, false, false, false, false, false, false, false, false] rfl (zG 0 rfl rfl rfl (qL rfl F.agg27 F.ti27) (zG 1 rfl rfl rfl (xV (vs := [(0, _)]) (l' := [_, _, _]) rfl F.ti77 F.pl77 (.cons rfl rfl (.nil _)) rfl) (zG 2 rfl rfl rfl (jA rfl F.fi27_2 F.ti22) (zG 3 rfl rfl rfl (kH rfl F.one22) (zG 4 rfl rfl rfl (zP rfl) (zG 5 rfl rfl rfl (kS (v := .int .i64 ((k + 1 : Nat) : Int)) rfl rfl (fun w => jK w (by rw [zT _ om om]; omega))) (zG 6 rfl rfl rfl (zP rfl) (zG 7 rfl rfl rfl (kS (v := .int .i64 ((k + 1 : Nat) : Int)) rfl rfl (fun w => jK w (by rw [zT _ om om]; omega))) (zG 8 rfl rfl rfl (zFw (k := k + 1) rfl rfl rfl Try.underlying22 F.ti3 om) (an1 9 rfl ?_)))))))))))))))))))))
   refine qK (X := List Mor × Nat) (vs := [_, _]) (p := fun g => (∀ m, m ∈ g.1 ↔ Rch fs kiln (days.take (k + 1)) m)) (val := fun g => .map (some g.2)) (rs := fun g => [.blk g.2 (KM.obj (tr g.1))]) rfl rfl F.ent56 (fun a w ha => ?_) ?_
   ·have hlen : (days.take (k + 1)).length = k + 1 := by rw [List.length_take]; omega
    have h := zWz (dA := dA) (nd := days.length) (dc := dc) (fc := fc) (kiln := kiln) (days := days.take (k + 1)) (eA := dA) (ec := k + 1) hc.f3 hc.ff (fun n hn => hc.dd n (List.mem_of_mem_take hn)) om w (hR.later ha.below) (hL.later ha.below) (hF.later ha.below) ((hD.later ha.below).take (k + 1))
    rw [hlen] at h
    refine h.mono ?_
    rintro e w' ⟨l, b, h1, _, h2, _, h3⟩
    exact ⟨(l, b), h2, h1, h3⟩
   rintro ⟨l, mb⟩ hl
   dsimp only [List.cons_append, List.nil_append] at hl ⊢
   refine zA (anb (an1 10 rfl (zWy rfl rfl (zOd rfl Try.underlying86 (InB.mem (b := mb) (o := KM.obj (tr l)))) (zA (anb (zG 11 rfl rfl rfl (kS rfl rfl jY) ?_))))))
   refine adn (zC (zN rfl (fun hc2 => ?_) (fun hc2 => ?_)))
   ·have hl0 : l.length = 0 := by rw [zL7, zMa] at hc2; omega
    have hln : l = [] := List.length_eq_zero_iff.1 hl0
    exact zD (zB (zF rfl rfl (zE rfl rfl (zE rfl rfl (zA (zC (zY (jW (jB (jB (jW (jB (jJ rfl (fun a w ha => vT rfl rfl rfl ha) (fun a w ha => ⟨.inl ⟨k, by omega, hkall, fun m hm => (by have := (hl m).2 hm; rw [hln] at this; cases this), rfl⟩, ha.grown nsl⟩))))))))))))))
   ·have hlp : 0 < l.length := by rw [zL7, zMa] at hc2; omega
    obtain ⟨m0, hm0⟩ : ∃ m, m ∈ l := List.exists_mem_of_length_pos hlp
    refine zQ (zJ (zC (zB (zI rfl rfl rfl (fun w => jK w (zT _ om om)) (zF rfl rfl (zA (kP (k + 1) ⟨by omega, fun j hj => ?_⟩ tdo sbn pkk)))))))
    rcases Nat.lt_or_ge j k with h | h
    ·exact hkall j h
    ·obtain rfl : j = k := by omega
     exact ⟨m0, (hl m0).1 hm0⟩
  ·obtain ⟨hkl, hkall⟩ := hk
   obtain rfl : k = days.length := by omega
   exact jU (zO (zO (jF (zC (zD (zB (zE rfl rfl (zE rfl rfl (zA (zC (zY (jJ rfl (fun a w ha => vT rfl rfl rfl ha) (fun a w ha => ⟨.inr ⟨hkall, rfl⟩, ha.grown nsl⟩)))))))))))))

end Go.Proofs.Yteppiphdbondeaa.N
namespace Go.Proofs.Yteppiphdbondeaa.N
open Go Go.RowKit Go.Proofs
set_option linter.unusedSectionVars false
variable {A : Option Addr} {w : World} {x : Int}
abbrev MetaZ : Type := Option Addr × Nat × List Int
def zmcell (m : MetaZ) : Value := .slice m.1 m.2.2.length m.2.1
structure RdZ (w : World) (A : Option Addr) (ms : List MetaZ) : Prop where
 outer : RdL (fun m => [zmcell m]) 1 w A ms
 inner : ∀ m ∈ ms, RdL zcell 1 w m.1 m.2.2
theorem RdZ.later [I : Sys] {w' : World} {ms : List MetaZ} (h : RdZ w A ms) (hb : Below w.heap.size w w') : RdZ w' A ms := ⟨h.outer.later hb, fun m hm => (h.inner m hm).later hb⟩
def strs (fs : List Flt) (m : Mor) : List Nat := m.s.take fs.length
def badK (l : List Int) : Bool := l.any fun n => !btw n 0 3
def natL (l : List Int) : List Nat := l.map Int.toNat
def wk (fs : List Flt) (kiln : Nat) (days : List Nat) : List (List Int) -> Nat -> Mor -> Nat × List (List Nat) × Nat
 | [], _, _ => (0, [], 0)
 | l :: ls, d, m =>
  if szd l.length fs.length fs.length ≠ 0 then (szd l.length fs.length fs.length, [], 0)
  else if badK l = true then (8, [], 0)
  else if (dayE fs kiln m (natL l) (days.getD d 0)).1 ≠ 0 then ((dayE fs kiln m (natL l) (days.getD d 0)).1, [], 0)
  else if (wk fs kiln days ls (d + 1) (dayE fs kiln m (natL l) (days.getD d 0)).2).1 ≠ 0 then ((wk fs kiln days ls (d + 1) (dayE fs kiln m (natL l) (days.getD d 0)).2).1, [], 0)
  else (0, strs fs (dayE fs kiln m (natL l) (days.getD d 0)).2 :: (wk fs kiln days ls (d + 1) (dayE fs kiln m (natL l) (days.getD d 0)).2).2.1, spF (natL l) + (wk fs kiln days ls (d + 1) (dayE fs kiln m (natL l) (days.getD d 0)).2).2.2)
def workE (fs : List Flt) (kiln : Nat) (days : List Nat) (plan : List (List Int)) : Nat × List (List Nat) × Nat :=
 if szd plan.length days.length days.length ≠ 0 then (szd plan.length days.length days.length, [], 0)
 else if (wk fs kiln days plan 0 (start fs)).1 ≠ 0 then ((wk fs kiln days plan 0 (start fs)).1, [], 0)
 else (0, strs fs (start fs) :: (wk fs kiln days plan 0 (start fs)).2.1, (wk fs kiln days plan 0 (start fs)).2.2)
structure WkI (fs : List Flt) (kiln : Nat) (days : List Nat) (plan : List (List Int)) (k : Nat) (m : Mor) (fires : Nat) (out : List (List Nat)) : Prop where
 le : k <= plan.length
 ok : MOk m
 code : (wk fs kiln days plan 0 (start fs)).1 = (wk fs kiln days (plan.drop k) k m).1
 res : (wk fs kiln days (plan.drop k) k m).1 = 0 -> (wk fs kiln days plan 0 (start fs)).2.1 = out ++ (wk fs kiln days (plan.drop k) k m).2.1 ∧ (wk fs kiln days plan 0 (start fs)).2.2 = fires + (wk fs kiln days (plan.drop k) k m).2.2
 fle : fires <= k
theorem WkI.first {fs : List Flt} {kiln : Nat} {days : List Nat} {plan : List (List Int)} (h : MOk (start fs)) : WkI fs kiln days plan 0 (start fs) 0 [] := ⟨Nat.zero_le _, h, rfl, fun _ => ⟨rfl, by simp⟩, Nat.le_refl _⟩
section
variable {fs : List Flt} {kiln : Nat} {days : List Nat} {plan : List (List Int)} {k : Nat} {m : Mor} {fires : Nat} {out : List (List Nat)} {l : List Int}
theorem zGo (hl : plan[k]? = some l) : plan.drop k = l :: plan.drop (k + 1) := by
 obtain ⟨h, e⟩ := List.getElem?_eq_some_iff.1 hl
 rw [List.drop_eq_getElem_cons h, e]
theorem WkI.short (h : WkI fs kiln days plan k m fires out) (hl : plan[k]? = some l) (h1 : szd l.length fs.length fs.length ≠ 0) : (wk fs kiln days plan 0 (start fs)).1 = szd l.length fs.length fs.length := by
 rw [h.code, zGo hl]
 unfold wk
 rw [if_pos h1]
theorem WkI.sort (h : WkI fs kiln days plan k m fires out) (hl : plan[k]? = some l) (h1 : ¬ szd l.length fs.length fs.length ≠ 0) (h2 : badK l = true) : (wk fs kiln days plan 0 (start fs)).1 = 8 := by
 rw [h.code, zGo hl]
 unfold wk
 rw [if_neg h1, if_pos h2]
theorem WkI.day (h : WkI fs kiln days plan k m fires out) (hl : plan[k]? = some l) (h1 : ¬ szd l.length fs.length fs.length ≠ 0) (h2 : badK l = false) (h3 : (dayE fs kiln m (natL l) (days.getD k 0)).1 ≠ 0) : (wk fs kiln days plan 0 (start fs)).1 = (dayE fs kiln m (natL l) (days.getD k 0)).1 := by
 rw [h.code, zGo hl]
 unfold wk
 rw [if_neg h1, if_neg (by rw [h2]; simp), if_pos h3]
theorem WkI.next (h : WkI fs kiln days plan k m fires out) (hl : plan[k]? = some l) (h1 : ¬ szd l.length fs.length fs.length ≠ 0) (h2 : badK l = false) (h3 : ¬ (dayE fs kiln m (natL l) (days.getD k 0)).1 ≠ 0) (hok : MOk (dayE fs kiln m (natL l) (days.getD k 0)).2) :
  WkI fs kiln days plan (k + 1) (dayE fs kiln m (natL l) (days.getD k 0)).2 (fires + spF (natL l)) (out ++ [strs fs (dayE fs kiln m (natL l) (days.getD k 0)).2]) := by
 have hk := (List.getElem?_eq_some_iff.1 hl).1
 have e : wk fs kiln days (plan.drop k) k m = if (wk fs kiln days (plan.drop (k + 1)) (k + 1) (dayE fs kiln m (natL l) (days.getD k 0)).2).1 ≠ 0 then ((wk fs kiln days (plan.drop (k + 1)) (k + 1) (dayE fs kiln m (natL l) (days.getD k 0)).2).1, [], 0)
   else (0, strs fs (dayE fs kiln m (natL l) (days.getD k 0)).2 :: (wk fs kiln days (plan.drop (k + 1)) (k + 1) (dayE fs kiln m (natL l) (days.getD k 0)).2).2.1, spF (natL l) + (wk fs kiln days (plan.drop (k + 1)) (k + 1) (dayE fs kiln m (natL l) (days.getD k 0)).2).2.2) := by
  rw [zGo hl]
  conv => lhs; unfold wk
  rw [if_neg h1, if_neg (by rw [h2]; simp), if_neg h3]
 have hs := zCp (natL l)
 refine ⟨by omega, hok, ?_, fun h0 => ?_, by have := h.fle; omega⟩
 ·rw [h.code, e]
  split
  ·rfl
  ·rename_i h4
   simp at h4
   exact h4.symm
 ·have h4 : (wk fs kiln days (plan.drop k) k m).1 = 0 := by rw [e, if_neg (by simpa using h0)]
  obtain ⟨r1, r2⟩ := h.res h4
  rw [r1, r2, e, if_neg (by simpa using h0)]
  simp
  omega
theorem WkI.last (h : WkI fs kiln days plan k m fires out) (hk : k = plan.length) : (wk fs kiln days plan 0 (start fs)) = (0, out, fires) := by
 subst hk
 have h1 := h.code
 have h2 := h.res
 rw [List.drop_length] at h1 h2
 obtain ⟨r1, r2⟩ := h2 rfl
 exact Prod.ext h1 (Prod.ext (by rw [r1]; simp [wk]) (by rw [r2]; simp [wk]))
end
theorem zTe {l : List Int} {k : Nat} (hx : l[k]? = some x) (h : badK (l.take k) = false) (hb : btw x 0 3 = true) : badK (l.take (k + 1)) = false := by
 unfold badK at h ⊢
 rw [List.take_add_one, hx, List.any_append, h]
 simp [hb]
theorem zSz {l : List Int} {k : Nat} (hx : l[k]? = some x) (hb : btw x 0 3 = false) : badK l = true := List.any_eq_true.2 ⟨x, List.mem_of_getElem? hx, by simp [hb]⟩
theorem zT3 {l : List Int} (h : badK l = false) : l = (natL l).map fun (n : Nat) => (n : Int) := by
 unfold badK at h
 rw [List.any_eq_false] at h
 unfold natL
 rw [List.map_map]
 refine (List.map_id l).symm.trans (List.map_congr_left fun x hx => ?_)
 have := h x hx
 unfold btw at this
 simp at this
 simp
 omega
theorem RdL.nats {l : List Int} (h : RdL zcell 1 w A l) (hb : badK l = false) : RdL ncell 1 w A (natL l) := fun hl => by
 have e := zT3 hb
 obtain ⟨b, o, h1, h2, h3⟩ := h (by rw [e]; simpa using hl)
 refine ⟨b, o, h1, h2, fun k x hk j u hu => ?_⟩
 refine h3 k (x : Int) (by rw [e, List.getElem?_map, hk]; rfl) j u hu
theorem zSg {z0 z1 z2 : Nat} {w : Value} {n j : Nat} {u : Value} (h : (ints ([z0, z1, z2].take n))[j]? = some u) : [Value.int .i64 (z0 : Int), .int .i64 (z1 : Int), .int .i64 (z2 : Int), w][j]? = some u := by
 unfold ints at h
 rw [List.getElem?_map] at h
 obtain ⟨x, hx, rfl⟩ := Option.map_eq_some_iff.1 h
 have h2 : [z0, z1, z2][j]? = some x := by
  rw [List.getElem?_take] at hx
  split at hx
  ·exact hx
  ·cases hx
 rcases j with _ | _ | _ | j
 ·simp at h2 ⊢; omega
 ·simp at h2 ⊢; omega
 ·simp at h2 ⊢; omega
 ·simp at h2
end Go.Proofs.Yteppiphdbondeaa.N
namespace Go.Proofs.Yteppiphdbondeaa.N
open Go Go.RowKit Go.Proofs
set_option linter.unusedSectionVars false
section
variable [I : Sys] {C : Ctx} {fr : List (Nat × Value)} {hp hp' : List Res} {dst : Option Nat} {ty : TypeId} {pos : String} {after : Array Edge}
theorem zP4 {x : Operand} {s ft : TypeId} {f off : Nat} {vs : List Value} {v : Value} (hx : ev fr x = some (.agg vs.toArray)) (hf : FI C.P s f ft off) (ho : One C.P ft) (hv : vs[off]? = some v) : Yld C ⟨dst, .field s x f, ty, pos, after, none⟩ fr hp v := by
 obtain ⟨fs, fd, h1, h2, h3, h4⟩ := hf
 refine ⟨rfl, fun a w ha => ⟨zLm .., ?_⟩⟩
 have hag : (isAgg fd.type).run C.P w = .ok false w := by rw [h3]; exact yU ho.1 ho.2 w
 have hv' : vs[fd.offset]? = some v := by rw [h4]; exact hv
 simp [execOp, ha.eval hx, Instr.field, run_underlying h1, h2, asAgg, part, hag, hv']
end
end Go.Proofs.Yteppiphdbondeaa.N
