/- Parts of the walk of the law CharKnown: T34, T35, T36, ChAD, ChAE, T38, T39, T42, ChAO, ChAP, T48, ChRow, RowC, RowC2, RowC3. -/
import Derived.Test.YteppiphdbondeaaSCharKnown09
import Derived.Test.YteppiphdbondeaaProg
import Derived.ArgAppend
import Derived.Deep.Upon
import Derived.Deep.AppendSrc
import Derived.Test.YteppiphdbondeaaSCharKnown03
import Derived.Test.YteppiphdbondeaaSCharKnown08
import Derived.Test.YteppiphdbondeaaSCharKnown05
import Derived.Test.YteppiphdbondeaaRows
import Derived.ChangeSame
import Derived.ChangeVars
import Derived.JoinedOf
import Derived.RowKit
import Derived.RowKitTokens
import Derived.WitnessAt
import Derived.Stop.Joined
import Derived.ProofKit
import Derived.SizedLaws
import Derived.OpenShut
import Derived.Conc.Holds
namespace Go.Proofs.Yteppiphdbondeaa.N
open Go Go.RowKit Go.Proofs
set_option linter.unusedSectionVars false
variable [I : Sys]
theorem F.ent62 : Enters Try.prog 62 := jG Try.func62 rfl (by kernel_rfl)
theorem zFi {fA dA : Option Addr} {fc dc kiln d : Nat} {fs : List Flt} {days : List Nat} (hc : ChV fs kiln days) (hd : d < days.length) (w : World) (hF : RdL Flt.cells 4 w fA fs) (hD : RdL ncell 1 w dA days) : Calls Try.prog 40 #[.agg (CA fA fs.length fc kiln dA days.length dc).toArray, .int .i64 (d : Int)] w fun e w' => e = .returned (.tuple #[.int .i64 ((optN (sprN fs kiln days d 12) : Nat) : Int), .int .i64 ((optE (sprN fs kiln days d 12) : Nat) : Int)]) ∧ Grew w w' [] := by
 refine enter (N := 31) [(0, .agg (CA fA fs.length fc kiln dA days.length dc).toArray), (1, .int .i64 (d : Int))] Try.func40 rfl Try.ntmps40 rfl rfl ?_
 refine zD (zB (jT rfl rfl ?_))
 intro b2
 refine zE rfl rfl (zE rfl rfl (zA (zC (zD (zD (zB (zX rfl rfl F.agg27 F.ti27 ?_)))))))
 refine zF rfl rfl (zW (v := .int .i64 0) (vs := [_, _]) rfl rfl F.ent64 (fun a w ha => zQ0 (dc := dc) (fc := fc) hc hd w (hF.later ha.below) (hD.later ha.below)) ?_)
 refine zE rfl rfl (zA (zC (zD (zB (zF rfl rfl (zI rfl rfl rfl jP ?_))))))
 refine zA (zC (zR rfl (fun hc0 => ?_) (fun hc0 => ?_)))
 ·exact absurd rfl hc0
  done
 ·refine zQ (zC (zD (zB ?_)))
  have hd4 := hc.d4
  have hd1 := hc.d1
  obtain ⟨bd, bo, rfl, _, _⟩ := hD om
  refine zK4 rfl Try.underlying22 F.ti3 ?_
  intro b14
  refine zH3 1 (.head _) ?_
  refine zP rfl rfl F.fi27_2 F.ti22 ?_
  refine jE rfl rfl F.one22 ?_
  refine zGs (cells := ncell) rfl rfl rfl Try.underlying22 F.ti3 rfl rfl (fun _ => rfl) zXo (fun a w ha => hD.later ha.below) rfl (by unfold maxLen; omega) om ?_
  intro A3 c3
  simp only [Nat.zero_add, List.nil_append, <- zI5]
  refine zP rfl rfl F.fi27_2 F.ti22 ?_
  refine zK rfl rfl F.ti22 rfl ?_
  refine zA (zC (zD (zD (zB (zE rfl rfl (zA (zC (zV (vT (G := Nat × List Nat) (fun g => g.1 <= 13 ∧ g.2.length = days.length ∧ (∀ x, g.2.set d x = days.set d x) ∧ sprF fs kiln days d 13 = sprF fs kiln days d g.1) (fun g => g.1) (fun g => [(1, .int .i64 (d : Int)), (2, .pointer (some ⟨b2, 0, none⟩)), (7, .int .i64 ((g.1 : Int) - 1))]) (fun g => [.row 3 1 A3 days.length c3 (ints g.2), .blk b2 (.cells [.slice fA fs.length fc, .int .i64 (kiln : Int), .slice A3 days.length c3].toArray 27 (0, 0))]) (13, days) ⟨Nat.le_refl _, rfl, fun _ => rfl, rfl⟩ sbn pkk ?_)))))))))
  rintro ⟨k, cur⟩ ⟨hk, hcl, hcs, hsp⟩
  dsimp only at hk hcl hcs hsp ⊢
  refine zD (zD (zB (zF rfl rfl (zI rfl rfl rfl zTy ?_))))
  refine zA (zC (zR rfl (fun hc1 => ?_) (fun hc1 => ?_)))
  ·obtain ⟨m, rfl⟩ : ∃ m, k = m + 1 := ⟨k - 1, by omega⟩
   have em : (((m + 1 : Nat) : Int) - 1) = (m : Int) := by omega
   rw [em]
   have hm12 : m <= 12 := by omega
   refine zQ (zC (zD (zV (zD (zB (zTz A3 om ?_))))))
   intro g3 hg3
   refine zP rfl rfl F.fi27_2 F.ti22 ?_
   refine jE rfl rfl F.one22 ?_
   refine zF rfl rfl (zF rfl rfl (qE (j := d) rfl (show _ = some (Value.slice (some ⟨g3, 0, none⟩) days.length c3) from by rw [<- hg3]; rfl) rfl Try.underlying22 F.ti3 rfl hd ?_))
   refine zKc (A := A3) (ints (days.set d m)) (show _ = some (Value.pointer (some ⟨g3, 0 + d * 1, none⟩)) from rfl) rfl F.ti3 hg3 (by rw [zCb]; omega) (by rw [show 0 + d * 1 = d from by omega, zSf, hcs]) ?_
   refine zA (zC (zD (zB (zX rfl rfl F.agg27 F.ti27 ?_))))
   refine zW (v := .bool (bstA fs kiln (days.set d m)).is) (vs := [_]) rfl rfl F.ent62 (fun a w ha => ?_) ?_
   ·have h := zDc (dA := A3) (dc := c3) (fc := fc) (hc.set (d := d) hm12).w w (hF.later ha.below) (zTh (A := A3) ha (by rw [List.length_set]))
    rw [List.length_set] at h
    exact h
   refine zA (zC (kV rfl (fun hc2 => ?_) (fun hc2 => ?_)))
   ·refine zD (zB (zF rfl rfl (zE rfl rfl (zE rfl rfl (zA (zC (zZ (jQ (zU (zU (jQ (zU ?_))))))))))))
    exact jI rfl (fun a w ha => qM rfl rfl rfl ha) (fun a w ha => ⟨by rw [show sprN fs kiln days d 12 = some m from hsp.trans (zRz hc2)]; rfl, ha.grown nsl⟩)
   ·refine zQ (zO (zC (zB (zF rfl rfl (zI rfl rfl rfl (fun w => vJ w (jF _ om om)) ?_)))))
    refine zE rfl rfl (zA (qU (m, days.set d m) ⟨by omega, by rw [List.length_set], fun x => by rw [List.set_set], hsp.trans (zUv (by simpa using hc2))⟩ tdo sbn pkk))
  ·obtain rfl : k = 0 := by omega
   refine kI (zT (zT (jK (zC (zD (zB (zE rfl rfl (zE rfl rfl (zA (zC (zZ ?_)))))))))))
   exact jI rfl (fun a w ha => qM rfl rfl rfl ha) (fun a w ha => ⟨by rw [show sprN fs kiln days d 12 = none from hsp]; rfl, ha.grown nsl⟩)

theorem zLx {fs : List Flt} {days : List Nat} {x : Nat} : ∀ (j k : Nat), klnN fs days k = some x -> klnN fs days (k + j) = some x
 | 0, _, h => h
 | j + 1, k, h => by
  show klnN fs days (k + j + 1) = some x
  unfold klnN
  rw [zLx j k h]
theorem zTq {fs : List Flt} {days : List Nat} {k : Nat} (hk : k < 4) (hn : klnN fs days k = none) (h : (bstA fs k days).is = true) : klnN fs days 4 = some k := by
 have h1 : klnN fs days (k + 1) = some k := by unfold klnN; rw [hn]; simp [h]
 have := zLx (4 - (k + 1)) (k + 1) h1
 rw [show k + 1 + (4 - (k + 1)) = 4 from by omega] at this
 exact this

theorem zKr {fA dA : Option Addr} {fc dc kiln : Nat} {fs : List Flt} {days : List Nat} (hc : ChV fs kiln days) (w : World) (hF : RdL Flt.cells 4 w fA fs) (hD : RdL ncell 1 w dA days) : Calls Try.prog 38 #[.agg (CA fA fs.length fc kiln dA days.length dc).toArray] w fun e w' => e = .returned (.tuple #[.int .i64 ((optN (klnN fs days 4) : Nat) : Int), .int .i64 ((optE (klnN fs days 4) : Nat) : Int)]) ∧ Grew w w' [] := by
 refine enter (N := 20) [(0, .agg (CA fA fs.length fc kiln dA days.length dc).toArray)] Try.func38 rfl Try.ntmps38 rfl rfl ?_
 refine zD (zB (jT rfl rfl ?_))
 intro b1
 refine zE rfl rfl (zE rfl rfl (zA (zC (zD (zD (zB (zX rfl rfl F.agg27 F.ti27 ?_)))))))
 refine zW (v := .int .i64 0) (vs := [_]) rfl rfl F.ent43 (fun a w ha => by
  have h := xT (fA := fA) (dA := dA) (fc := fc) (dc := dc) (fs := fs.map Flt.toZ) (kiln := (kiln : Int)) (days := toZs days) (by have := hc.f3; simp; omega) (by have := hc.d4; simp [toZs]; omega) w (RdL.mapped Flt.toZ (hF.later ha.below) (fun _ => rfl)) (RdL.mapped (fun (n : Nat) => (n : Int)) (hD.later ha.below) (fun _ => rfl))
  rw [chk0 hc] at h
  simpa [toZs] using h) ?_
 refine zE rfl rfl (zA (zC (zD (zB (zF rfl rfl (zI rfl rfl rfl jP ?_))))))
 refine zA (zC (zR rfl (fun hc0 => ?_) (fun hc0 => ?_)))
 ·exact absurd rfl hc0
  done
 ·refine zQ (zC (zD (zD (zB (zF rfl rfl (zA (zC (zV (vT (G := Nat × Nat) (fun g => g.1 <= 4 ∧ klnN fs days g.1 = none) (fun g => 4 - g.1) (fun g => [(1, .pointer (some ⟨b1, 0, none⟩)), (11, .int .i64 (g.1 : Int))]) (fun g => [.blk b1 (.cells [.slice fA fs.length fc, .int .i64 (g.2 : Int), .slice dA days.length dc].toArray 27 (0, 0))]) (0, kiln) ⟨Nat.zero_le _, rfl⟩ sbn pkk ?_)))))))))
  rintro ⟨k, kx⟩ ⟨hk, hkn⟩
  dsimp only at hk hkn ⊢
  refine zD (zB (zI rfl rfl rfl kG ?_))
  refine zA (zC (zD (zR rfl (fun hc1 => ?_) (fun hc1 => ?_))))
  ·refine zQ (zC (zD (zV (zD (zB (zF rfl rfl (zE rfl rfl (zA (zC (zD (zB (zF rfl rfl (zP rfl rfl F.fi27_1 F.ti3 ?_)))))))))))))
   refine zK rfl rfl F.ti3 rfl ?_
   refine zA (zC (zD (zB (zX rfl rfl F.agg27 F.ti27 ?_))))
   refine zW (v := .bool (bstA fs k days).is) (vs := [_]) rfl rfl F.ent62 (fun a w ha => zDc (dc := dc) (fc := fc) (hc.kil (k := k) om).w w (hF.later ha.below) (hD.later ha.below)) ?_
   refine zA (zC (kV rfl (fun hc2 => ?_) (fun hc2 => ?_)))
   ·refine zD (zB (zF rfl rfl (zE rfl rfl (zE rfl rfl (zA (zC (zZ (jQ (zU (zU (jQ (zU ?_))))))))))))
    exact jI rfl (fun a w ha => qM rfl rfl rfl ha) (fun a w ha => ⟨by rw [show klnN fs days 4 = some k from zTq om hkn hc2]; rfl, ha.grown nsl⟩)
   ·refine zQ (zO (zC (zB (zI rfl rfl rfl (fun w => jO w (jF _ om om)) ?_))))
    refine zF rfl rfl (zA (qU (k + 1, k) ⟨by omega, by unfold klnN; rw [hkn]; simp; simpa using hc2⟩ tdo sbn pkk))
  ·obtain rfl : k = 4 := by omega
   refine kI (zT (zT (jK (zC (zD (zB (zE rfl rfl (zE rfl rfl (zA (zC (zZ ?_)))))))))))
   exact jI rfl (fun a w ha => qM rfl rfl rfl ha) (fun a w ha => ⟨by rw [hkn]; rfl, ha.grown nsl⟩)

theorem F.ent39 : Enters Try.prog 39 := jG Try.func39 rfl (by kernel_rfl)
theorem F.ent40 : Enters Try.prog 40 := jG Try.func40 rfl (by kernel_rfl)
theorem F.ent37 : Enters Try.prog 37 := jG Try.func37 rfl (by kernel_rfl)
theorem F.ent38 : Enters Try.prog 38 := jG Try.func38 rfl (by kernel_rfl)
end Go.Proofs.Yteppiphdbondeaa.N
namespace Go.Proofs.Yteppiphdbondeaa.N
open Go Go.RowKit Go.Proofs
set_option linter.unusedSectionVars false
section
variable [I : Sys] {C : Ctx} {fr : List (Nat × Value)} {hp hp' : List Res} {a : Act} {w : World} {ops : Array Oper} {Q : Exit -> Act -> World -> Prop} {rest : List Oper} {d : Nat} {dst : Option Nat} {ty : TypeId} {pos : String} {after : Array Edge}
theorem zFy {x y : Operand} {t e : TypeId} {A : Option Addr} {l len cap n m : Nat} {kd : IntKind} {i : Int} {z : Value} (hx : ev fr x = some (.slice A len cap)) (hy : ev fr y = some (.int kd i))
  (ht : C.P.underlying t = some (.slice e)) (he : TI C.P e z n m) (hi : i = (l : Int)) (hc : l <= len) : Yld C ⟨dst, .slice t x (some y) none none, ty, pos, after, none⟩ fr hp (.slice (if cap = l then A else A.map (·.add (l * n))) (len - l) (cap - l)) := by
 obtain ⟨i', hi', _, hs, _⟩ := he
 subst hi
 have hu := ht
 rw [<- zNa ht] at hu
 refine ⟨rfl, fun a w ha => ⟨zBt .., ?_⟩⟩
 have h1 := run_slice_l (P := C.P) w t A len cap hu kd (l : Int) om om
 have h2 : (Instr.sliceAt t (.slice A len cap) (some (.int kd (l : Int))) none none).run C.P w = .ok (.slice (if cap = l then A else A.map (·.add (l * n))) (len - l) (cap - l)) w := by
  rw [run_sliceAt_slice _ _ _ _ _ _ hu, h1]
  have : (sizeOf (C.P.elem t)).run C.P w = .ok n w := by
   rw [zNa ht]
   simp [sizeOf, typeInfo, hi', hs]
  rw [this]
  simp only [Result.andThen_ok, sliced, Int.toNat_natCast]
 simp only [execOp, ha.eval hx, Option.map, ha.eval hy, Sem.run_bind, h2, Result.andThen_ok, Sem.run_pure]
theorem zGu {x y : Operand} {t e : TypeId} {p q : Addr} {n m cb size bytes : Nat} {olds news : List Value} {z : Value} (hd : Nat.blt d C.N = true)
  (hx : ev fr x = some (.slice (some p) n n)) (hy : ev fr y = some (.slice (some q) m cb)) (ht : C.P.underlying t = some (.slice e)) (hi : TI C.P e z size bytes) (hzs : z.cells.size = size) (hs0 : Nat.blt 0 size = true)
  (hl : news.length = m * size) (hm : 0 < m) (hlo : olds.length = n * size) (hold : ∀ a w, At C fr hp a w -> ∀ j u, olds[j]? = some u -> w.cell? (p.add j) = some u) (hnew : ∀ a w, At C fr hp a w -> ∀ j u, news[j]? = some u -> w.cell? (q.add j) = some u)
  (h63 : n + m <= maxLen) (hbytes : (n + m) * bytes <= 140737488355328)
  (k : ∀ A' c', Lst C ops Q rest ((d, .slice A' (n + m) c') :: fr) (.row e size A' (n + m) c' (olds ++ news) :: hp)) :
  Lst C ops Q (⟨some d, .call { callee := .builtin .append, args := #[x, y], argTypes := #[t, t] }, ty, pos, after, none⟩ :: rest) fr hp := by
 refine qW rfl fun a w ha => ?_
 obtain ⟨i, hi1, hi2, hi3, hi4⟩ := hi
 subst hi3; subst hi4
 obtain ⟨v', w', hrun, hown', hg⟩ := run_append_arg_grows (P := C.P) w t ty e i z i.size i.bytes ht hi1 hi2 rfl rfl hzs (kB hs0) p n n olds hlo (hold a w ha) q m cb news hl (hnew a w ha) om h63 hbytes
 obtain ⟨A', c', rfl⟩ := wQ hown'
 refine ⟨xR fun cs => by simp only [List.map_toArray, List.map_cons, List.map_nil, ha.eval hx, ha.eval hy]; exact wL ht, ?_⟩
 have hr' : (execOp a.eval ⟨some d, .call { callee := .builtin .append, args := #[x, y], argTypes := #[t, t] }, ty, pos, after, none⟩).run C.P w = .ok (.value (.slice A' (n + m) c')) w' := by
  simp only [execOp, resolve, invoke, builtin, Sem.run_bind, Sem.run_pure, Result.andThen_ok, List.map_toArray, List.map_cons, List.map_nil, ha.eval hx, ha.eval hy, hrun]
 rw [hr']
 have hbel : Below w.heap.size w w' := ⟨hg.os, hg.tape, hg.output, hg.size, fun k hk => hg.block k hk (by simp)⟩
 have hres : (Res.row e i.size A' (n + m) c' (olds ++ news)).ok w.heap.size w' := hown'
 have := ha.grew hbel (rs := [.row e i.size A' (n + m) c' (olds ++ news)]) (fun r hr => by rw [List.mem_singleton.1 hr]; exact hres) (by
  cases h : Res.id (.row e i.size A' (n + m) c' (olds ++ news)) <;> simp [h])
 exact k A' c' _ _ (this.put (kB hd) _)
theorem zG5 {x y : Operand} {t e : TypeId} {A : Option Addr} {q : Addr} {n c cb size bytes : Nat} {z : Value} (hd : Nat.blt d C.N = true)
  (hx : ev fr x = some (.slice A n c)) (hy : ev fr y = some (.slice (some q) 0 cb)) (ht : C.P.underlying t = some (.slice e)) (hi : TI C.P e z size bytes) (hle : n <= c)
  (k : Lst C ops Q rest ((d, .slice A n c) :: fr) hp) :
  Lst C ops Q (⟨some d, .call { callee := .builtin .append, args := #[x, y], argTypes := #[t, t] }, ty, pos, after, none⟩ :: rest) fr hp := by
 refine qW rfl fun a w ha => ?_
 obtain ⟨i, hi1, hi2, hi3, hi4⟩ := hi
 have hrun := run_append_nothing (P := C.P) w t t ty e i ht hi1 A n c hle (.slice (some q) 0 cb) (Src.ofSlice w ht q 0 cb [] (by simp) (fun j u h => by simp at h) (fun u h => by cases h))
 refine ⟨xR fun cs => by simp only [List.map_toArray, List.map_cons, List.map_nil, ha.eval hx, ha.eval hy]; exact wL ht, ?_⟩
 have hr' : (execOp a.eval ⟨some d, .call { callee := .builtin .append, args := #[x, y], argTypes := #[t, t] }, ty, pos, after, none⟩).run C.P w = .ok (.value (.slice A n c)) w := by
  simp only [execOp, resolve, invoke, builtin, Sem.run_bind, Sem.run_pure, Result.andThen_ok, List.map_toArray, List.map_cons, List.map_nil, ha.eval hx, ha.eval hy, hrun]
 rw [hr']
 exact k _ _ (ha.put (kB hd) _)
end
def nedL (fs : List Flt) (kiln : Nat) (days : List Nat) (k : Nat) : List Nat := (List.range k).filter fun i => !(bstA (fs.eraseIdx i) kiln days).is
theorem zN5 {fs : List Flt} {kiln : Nat} {days : List Nat} {k : Nat} (h : (bstA (fs.eraseIdx k) kiln days).is = false) : nedL fs kiln days (k + 1) = nedL fs kiln days k ++ [k] := by
 unfold nedL
 rw [List.range_succ, List.filter_append]
 simp [h]
theorem zQl {fs : List Flt} {kiln : Nat} {days : List Nat} {k : Nat} (h : (bstA (fs.eraseIdx k) kiln days).is = true) : nedL fs kiln days (k + 1) = nedL fs kiln days k := by
 unfold nedL
 rw [List.range_succ, List.filter_append]
 simp [h]
theorem zTx {fs : List Flt} {kiln : Nat} {days : List Nat} (k : Nat) : (nedL fs kiln days k).length <= k := by
 unfold nedL
 have := List.length_filter_le (fun i => !(bstA (fs.eraseIdx i) kiln days).is) (List.range k)
 simpa using this
theorem zFv {α : Type} (l : List α) (i : Nat) : l.eraseIdx i = l.take i ++ l.drop (i + 1) := List.eraseIdx_eq_take_drop_succ l i
theorem ChV.without {fs : List Flt} {kiln i : Nat} {days : List Nat} (h : ChV fs kiln days) : ChW (fs.eraseIdx i) kiln days :=
 ⟨Nat.le_trans (List.length_eraseIdx_le ..) h.f3, fun f hf => h.ff f (List.mem_of_mem_eraseIdx hf), h.k3, h.d1, h.d4, h.dd⟩
theorem zUe [I : Sys] {w : World} {fb fo : Nat} {fs : List Flt} (h : RdL Flt.cells 4 w (some ⟨fb, fo, none⟩) fs) (k : Nat) : ∀ j u, ((fs.drop k).flatMap Flt.cells)[j]? = some u -> w.cell? (((⟨fb, fo, none⟩ : Addr).add (k * 4)).add j) = some u := fun j u hu => by
 have hk : k <= fs.length := by
  rcases Nat.lt_or_ge fs.length k with h1 | h1
  ·rw [List.drop_eq_nil_of_le om] at hu; simp at hu
  ·exact h1
 have hl : ((fs.take k).flatMap Flt.cells).length = k * 4 := by rw [zAh, List.length_take, Nat.min_eq_left hk]
 have h2 := zIq h (k * 4 + j) u (by
  rw [<- List.take_append_drop k fs, List.flatMap_append, List.getElem?_append_right (by rw [hl]; omega), hl]
  rw [show k * 4 + j - k * 4 = j from by omega]
  simpa using hu)
 rw [qO] at h2
 rw [qO, qO, Nat.add_assoc]
 exact h2
end Go.Proofs.Yteppiphdbondeaa.N
namespace Go.Proofs.Yteppiphdbondeaa.N
open Go Go.RowKit Go.Proofs
set_option linter.unusedSectionVars false
variable [I : Sys]

theorem zGm {fA dA : Option Addr} {fc dc kiln : Nat} {fs : List Flt} {days : List Nat} (hc : ChV fs kiln days) (hcapf : fs.length <= fc) (w : World) (hF : RdL Flt.cells 4 w fA fs) (hD : RdL ncell 1 w dA days) : Calls Try.prog 34 #[.agg (CA fA fs.length fc kiln dA days.length dc).toArray] w fun e w' => ∃ oA oc, e = .returned (if (bstA fs kiln days).is = true then .tuple #[.slice oA (nedL fs kiln days fs.length).length oc, .int .i64 0] else .tuple #[.slice none 0 0, .int .i64 11]) ∧ Grew w w' [.row 3 1 oA (if (bstA fs kiln days).is = true then (nedL fs kiln days fs.length).length else 0) oc (ints (if (bstA fs kiln days).is = true then (nedL fs kiln days fs.length) else []))] := by
 refine enter (N := 42) [(0, .agg (CA fA fs.length fc kiln dA days.length dc).toArray)] Try.func34 rfl Try.ntmps34 rfl rfl ?_
 refine zD (zB (jT rfl rfl ?_))
 intro b1
 refine zE rfl rfl (zE rfl rfl (zA (zC (zD (zD (zB (zX rfl rfl F.agg27 F.ti27 ?_)))))))
 refine zW (v := .int .i64 0) (vs := [_]) rfl rfl F.ent43 (fun a w ha => by
  have h := xT (fA := fA) (dA := dA) (fc := fc) (dc := dc) (fs := fs.map Flt.toZ) (kiln := (kiln : Int)) (days := toZs days) (by have := hc.f3; simp; omega) (by have := hc.d4; simp [toZs]; omega) w (RdL.mapped Flt.toZ (hF.later ha.below) (fun _ => rfl)) (RdL.mapped (fun (n : Nat) => (n : Int)) (hD.later ha.below) (fun _ => rfl))
  rw [chk0 hc] at h
  simpa [toZs] using h) ?_
 refine zE rfl rfl (zA (zC (zD (zB (zF rfl rfl (zI rfl rfl rfl jP ?_))))))
 refine zA (zC (zR rfl (fun hc0 => ?_) (fun hc0 => ?_)))
 ·exact absurd rfl hc0
  done
 ·refine zQ (zC (zD (zD ?_)))
  rcases his0 : (bstA fs kiln days).is with _ | _
  ·refine zB (zX rfl rfl F.agg27 F.ti27 ?_)
   refine zW (v := .bool (bstA fs kiln days).is) (vs := [_]) rfl rfl F.ent62 (fun a w ha => zDc (fc := fc) (dc := dc) hc.w w (hF.later ha.below) (hD.later ha.below)) ?_
   rw [his0]
   refine kO rfl rfl (zA (zC (jZ rfl (zD (zB (zE rfl rfl (zE rfl rfl (zA (zC (zZ (zU ?_)))))))))))
   exact jI rfl (fun a w ha => qM rfl rfl rfl ha) (fun a w ha => ⟨none, 0, rfl, (ha.add_nil 3 1).grown (.cons_cons _ nsl)⟩)
  ·refine zB (zX rfl rfl F.agg27 F.ti27 ?_)
   refine zW (v := .bool (bstA fs kiln days).is) (vs := [_]) rfl rfl F.ent62 (fun a w ha => zDc (fc := fc) (dc := dc) hc.w w (hF.later ha.below) (hD.later ha.below)) ?_
   rw [his0]
   refine kO rfl rfl (zA (zC (jL rfl (zQ (zC (zD (zB (zE rfl rfl (zA (zC (zD (zB (zP rfl rfl F.fi27_0 F.ti25 ?_)))))))))))))
   refine jE rfl rfl F.one25 ?_
   refine zE rfl rfl (zA (zC (zD (zD (zB (zF rfl rfl (jX rfl rfl Try.underlying25 ?_)))))))
   refine zF rfl rfl (zA (zC (zV (zVg 3 1 ?_))))
   have hf1 := hc.f1
   have hf3 := hc.f3
   obtain ⟨fb, fo, rfl, _, _⟩ := hF om
   refine vT (G := Nat × Option Addr × Nat × Option Addr × Nat × Nat) (fun g => g.1 <= fs.length) (fun g => fs.length - g.1) (fun g => [(1, .pointer (some ⟨b1, 0, none⟩)), (5, .slice g.2.1 (nedL fs kiln days g.1).length g.2.2.1), (6, .slice (some ⟨fb, fo, none⟩) fs.length fc), (19, .int .i64 (fs.length : Int)), (20, .int .i64 (g.1 : Int))]) (fun g => [.row 3 1 g.2.1 (nedL fs kiln days g.1).length g.2.2.1 (ints (nedL fs kiln days g.1)), .blk b1 (.cells [.slice g.2.2.2.1 g.2.2.2.2.1 g.2.2.2.2.2, .int .i64 (kiln : Int), .slice dA days.length dc].toArray 27 (0, 0))]) (0, none, 0, _, _, _) (Nat.zero_le _) sbn pkk ?_
   rintro ⟨k, oA, oc, X, xn, xc⟩ hk
   dsimp only at hk ⊢
   refine zD (zB (zI rfl rfl rfl kG ?_))
   refine zA (zC (zD (zR rfl (fun hc2 => ?_) (fun hc2 => ?_))))
   ·have hk2 : k < fs.length := by omega
    have hnl := zTx (fs := fs) (kiln := kiln) (days := days) k
    refine zQ (zC (zD (zV (zD (zB (zF rfl rfl (zE rfl rfl (zA (zC (zD ?_))))))))))
    rcases Nat.lt_or_ge (k + 1) fs.length with hm | hm
    ·refine kJ [.b b1] F.follows 11 rfl [false, false, false, false, false, false, false, false, false, false, false] rfl ?_
     refine zG 0 rfl rfl rfl (jC rfl) ?_
     refine zG 1 rfl rfl rfl (jC rfl) ?_
     refine zG 2 rfl rfl rfl (jC rfl) ?_
     refine zG 3 rfl rfl rfl (wB (k := k) rfl rfl rfl Try.underlying25 F.ti49 om) ?_
     refine zG 4 rfl rfl rfl (jC rfl) ?_
     refine zG 5 rfl rfl rfl (jC rfl) ?_
     refine zG 6 rfl rfl rfl (qC (v := .int .i64 ((k + 1 : Nat) : Int)) rfl rfl (fun w => jO w (by rw [jF _ om om]; omega))) ?_
     refine zG 7 rfl rfl rfl (zFy (l := k + 1) rfl rfl Try.underlying25 F.ti49 rfl om) ?_
     refine an1 8 rfl ?_
     refine zGu (q := (⟨fb, fo, none⟩ : Addr).add ((k + 1) * 4)) (olds := (fs.take k).flatMap Flt.cells) (news := (fs.drop (k + 1)).flatMap Flt.cells) rfl rfl (by rw [if_neg om]; rfl) Try.underlying25 F.ti49 rfl rfl (by rw [zAh, List.length_drop]) om (by rw [zAh, List.length_take]; omega) (fun a w ha => zIq ((hF.later ha.below).take k)) (fun a w ha => zUe (hF.later ha.below) (k + 1)) (by unfold maxLen; omega) om ?_
     intro X8 x8
     refine zA (anb (zG 9 rfl rfl rfl (jS rfl F.fi27_0 F.ti25) ?_))
     refine an1 10 rfl ?_
     refine zK rfl rfl F.ti25 rfl ?_
     refine zA (anb (adn (zC (zD (zB (zX rfl rfl F.agg27 F.ti27 ?_))))))
     have helen : (fs.eraseIdx k).length = fs.length - 1 := List.length_eraseIdx_of_lt hk2
     refine zW (v := .bool (bstA (fs.eraseIdx k) kiln days).is) (vs := [_]) rfl rfl F.ent62 (fun a w ha => ?_) ?_
     ·have h := zDc (fA := X8) (fc := x8) (dA := dA) (dc := dc) (hc.without (i := k)) w (qD ha (cells := Flt.cells) (size := 4) (e := 49) (c := x8) (n := k + (fs.length - (k + 1))) (l := fs.eraseIdx k) (fun _ => rfl) (by rw [zFv, List.flatMap_append]; exact InR.mem (A := X8)) om) (hD.later ha.below)
      rw [helen, show fs.length - 1 = k + (fs.length - (k + 1)) from by omega] at h
      exact h
     refine kO rfl rfl (zA (zC (kV rfl (fun hc3 => ?_) (fun hc3 => ?_))))
     ·have hny := zN5 (fs := fs) (kiln := kiln) (days := days) (k := k) (by simpa using hc3)
      refine zB (zF rfl rfl (zF rfl rfl (jW (vs := [(0, _)]) rfl rfl Try.underlying22 F.ti3 rfl rfl rfl ?_)))
      intro b38
      refine xO rfl rfl rfl Try.underlying22 F.ti3 rfl rfl rfl (by unfold maxLen; omega) om ?_
      intro A9 c9
      refine zE rfl rfl (zA (zO (zC (zB (zI rfl rfl rfl (fun w => jO w (jF _ om om)) ?_)))))
      refine zF rfl rfl (zA (qU (k + 1, A9, c9, X8, k + (fs.length - (k + 1)), x8) tdo tdo (by dsimp only; rw [hny, List.length_append, List.length_singleton]; repeat (first | exact Sub.nil _ | refine Sub.cons rfl ?_)) (by dsimp only; rw [hny, List.length_append, List.length_singleton, zJf]; repeat (first | exact Pck.nil _ | exact Pck.refl _ | (apply Pck.cons; focus ((repeat (first | exact Rem.here _ | apply Rem.there)); done)) | refine Pck.skip _ ?_))))
     ·have hnn := zQl (fs := fs) (kiln := kiln) (days := days) (k := k) (by simpa using hc3)
      refine zQ (zO (zC (zB (zI rfl rfl rfl (fun w => jO w (jF _ om om)) ?_))))
      refine zF rfl rfl (zA (qU (k + 1, oA, oc, X8, k + (fs.length - (k + 1)), x8) tdo tdo (by dsimp only; rw [hnn]; repeat (first | exact Sub.nil _ | refine Sub.cons rfl ?_)) (by dsimp only; rw [hnn]; repeat (first | exact Pck.nil _ | exact Pck.refl _ | (apply Pck.cons; focus ((repeat (first | exact Rem.here _ | apply Rem.there)); done)) | refine Pck.skip _ ?_))))
    ·refine kJ [.b b1] F.follows 11 rfl [false, false, false, false, false, false, false, false, false, false, false] rfl ?_
     refine zG 0 rfl rfl rfl (jC rfl) ?_
     refine zG 1 rfl rfl rfl (jC rfl) ?_
     refine zG 2 rfl rfl rfl (jC rfl) ?_
     refine zG 3 rfl rfl rfl (wB (k := k) rfl rfl rfl Try.underlying25 F.ti49 om) ?_
     refine zG 4 rfl rfl rfl (jC rfl) ?_
     refine zG 5 rfl rfl rfl (jC rfl) ?_
     refine zG 6 rfl rfl rfl (qC (v := .int .i64 ((k + 1 : Nat) : Int)) rfl rfl (fun w => jO w (by rw [jF _ om om]; omega))) ?_
     refine zG 7 rfl rfl rfl (zFy (l := k + 1) rfl rfl Try.underlying25 F.ti49 rfl om) ?_
     refine an1 8 rfl ?_
     rw [show fs.length - (k + 1) = 0 from by omega]
     refine zG5 (q := (if fc = k + 1 then (some (⟨fb, fo, none⟩ : Addr)) else (some (⟨fb, fo, none⟩ : Addr)).map (·.add ((k + 1) * 4))).getD default) rfl rfl (by split <;> rfl) Try.underlying25 F.ti49 (Nat.le_refl _) ?_
     refine zA (anb (zG 9 rfl rfl rfl (jS rfl F.fi27_0 F.ti25) ?_))
     refine an1 10 rfl ?_
     refine zK rfl rfl F.ti25 rfl ?_
     refine zA (anb (adn (zC (zD (zB (zX rfl rfl F.agg27 F.ti27 ?_))))))
     have helen : (fs.eraseIdx k).length = fs.length - 1 := List.length_eraseIdx_of_lt hk2
     refine zW (v := .bool (bstA (fs.eraseIdx k) kiln days).is) (vs := [_]) rfl rfl F.ent62 (fun a w ha => ?_) ?_
     ·have h := zDc (fA := (some ⟨fb, fo, none⟩)) (fc := k) (dA := dA) (dc := dc) (hc.without (i := k)) w (by have h9 := (hF.later ha.below).take k; rw [zFv, List.drop_eq_nil_of_le om, List.append_nil]; exact h9) (hD.later ha.below)
      rw [helen, show fs.length - 1 = k from by omega] at h
      exact h
     refine kO rfl rfl (zA (zC (kV rfl (fun hc3 => ?_) (fun hc3 => ?_))))
     ·have hny := zN5 (fs := fs) (kiln := kiln) (days := days) (k := k) (by simpa using hc3)
      refine zB (zF rfl rfl (zF rfl rfl (jW (vs := [(0, _)]) rfl rfl Try.underlying22 F.ti3 rfl rfl rfl ?_)))
      intro b38
      refine xO rfl rfl rfl Try.underlying22 F.ti3 rfl rfl rfl (by unfold maxLen; omega) om ?_
      intro A9 c9
      refine zE rfl rfl (zA (zO (zC (zB (zI rfl rfl rfl (fun w => jO w (jF _ om om)) ?_)))))
      refine zF rfl rfl (zA (qU (k + 1, A9, c9, (some ⟨fb, fo, none⟩), k, k) tdo tdo (by dsimp only; rw [hny, List.length_append, List.length_singleton]; repeat (first | exact Sub.nil _ | refine Sub.cons rfl ?_)) (by dsimp only; rw [hny, List.length_append, List.length_singleton, zJf]; repeat (first | exact Pck.nil _ | exact Pck.refl _ | (apply Pck.cons; focus ((repeat (first | exact Rem.here _ | apply Rem.there)); done)) | refine Pck.skip _ ?_))))
     ·have hnn := zQl (fs := fs) (kiln := kiln) (days := days) (k := k) (by simpa using hc3)
      refine zQ (zO (zC (zB (zI rfl rfl rfl (fun w => jO w (jF _ om om)) ?_))))
      refine zF rfl rfl (zA (qU (k + 1, oA, oc, (some ⟨fb, fo, none⟩), k, k) tdo tdo (by dsimp only; rw [hnn]; repeat (first | exact Sub.nil _ | refine Sub.cons rfl ?_)) (by dsimp only; rw [hnn]; repeat (first | exact Pck.nil _ | exact Pck.refl _ | (apply Pck.cons; focus ((repeat (first | exact Rem.here _ | apply Rem.there)); done)) | refine Pck.skip _ ?_))))
   ·obtain rfl : k = fs.length := by omega
    refine kI (zT (zT (jK (zC (zD (zB (zF rfl rfl (zE rfl rfl (zE rfl rfl (zA (zC (zZ ?_))))))))))))
    exact jI rfl (fun a w ha => qM rfl rfl rfl ha) (fun a w ha => ⟨oA, oc, rfl, ha.grown (.cons_cons _ nsl)⟩)

theorem F.ent34 : Enters Try.prog 34 := jG Try.func34 rfl (by kernel_rfl)
theorem F.ent32 : Enters Try.prog 32 := jG Try.func32 rfl (by kernel_rfl)
end Go.Proofs.Yteppiphdbondeaa.N
namespace Go.Proofs.Yteppiphdbondeaa.N
open Go Go.RowKit Go.Proofs
set_option linter.unusedSectionVars false
theorem Grew.none [_I : Sys] {w w' : World} {rs : List Res} (h : Grew w w' rs) : Grew w w' [] := ⟨h.1, (fun _ h => by cases h), List.nodup_nil⟩
section
variable [I : Sys]
def wpRounds (P : Program) (c : Code) (Q : Exit -> Act -> World -> Prop) : Nat -> Act -> World -> Prop
 | 0, _, _ => False
 | n + 1, a, w => wp P c (Exit.then (wpRounds P c Q n) Q) a w
theorem zHi {C : Ctx} {fr : List (Nat × Value)} {hp : List Res} {Q : Exit -> Act -> World -> Prop} {c : Code} (n : Nat) (h : Cod C c (Exit.then (wpRounds C.P c Q n) Q) fr hp) : Cod C (.loop c) Q fr hp := by
 intro a w ha
 refine zBk (fun n a w => wpRounds C.P c Q n a w) (n + 1) (h a w ha) ?_
 rintro m a w hm
 cases m with
 | zero => exact hm.elim
 | succ m =>
  refine zAn (Q := Exit.then (wpRounds C.P c Q m) Q) hm ?_
  intro e a' w' he
  cases e with
  | normal => exact ⟨m, Nat.lt_succ_self m, he⟩
  | _ => exact he
theorem vX {C : Ctx} {fr : List (Nat × Value)} {hp : List Res} {Q : Exit -> Act -> World -> Prop} {c : Code} {n : Nat} (h : Cod C c (Exit.then (wpRounds C.P c Q n) Q) fr hp) : Ex C (Exit.then (wpRounds C.P c Q (n + 1)) Q) .normal fr hp := fun a w ha => h a w ha
end
theorem zQy : bstA tfs 1 tds = ⟨0, 0, true⟩ := by kernel_rfl
theorem zU4 : planA tfs 1 tds = [[0, 0], [0, 0]] := by kernel_rfl
theorem zM8 : (bstA hfs 0 hds).is = false := by kernel_rfl
theorem zXr : (rchM hfs 1 [3]).isEmpty = false := by kernel_rfl
theorem zXt : (rchM hfs 1 [3, 2]).isEmpty = false := by kernel_rfl
theorem zXu : (rchM hfs 1 [3, 2, 3]).isEmpty = false := by kernel_rfl
def mostB (l : List Mor) (N : Nat) : Bool := l.any (fun m => sumM m == N) && l.all fun m => decide (sumM m <= N)
theorem zXy : mostB (rchM hfs 1 (hds.take 0)) 4 = true := by kernel_rfl
theorem zYa : mostB (rchM hfs 1 (hds.take 1)) 2 = true := by kernel_rfl
theorem zXs : mostB (rchM hfs 1 (hds.take 2)) 3 = true := by kernel_rfl
theorem zWz : mostB (rchM hfs 0 (hds.take 2)) 1 = true := by kernel_rfl
theorem zYq : mostB (rchM hfs 1 (hds.take hds.length)) 2 = true := by kernel_rfl
theorem zXz : mostB (rchM tfs 1 (tds.take tds.length)) 3 = true := by kernel_rfl
theorem zXb : sprN hfs 1 hds 0 12 = some 3 := by kernel_rfl
theorem zX5 : sprN hfs 1 hds 1 12 = some 2 := by kernel_rfl
theorem zYg : sprN hfs 1 hds 2 12 = some 3 := by kernel_rfl
theorem zWc : sprN hfs 0 hds 2 12 = some 1 := by kernel_rfl
theorem zIn : (bstA hfs 1 hds).is = true := by kernel_rfl
theorem zTk : nedL hfs 1 hds hfs.length = [0, 1] := by kernel_rfl
theorem zIt : (bstA tfs 1 tds).is = true := by kernel_rfl
theorem zTl : nedL tfs 1 tds tfs.length = [0, 1] := by kernel_rfl
theorem zTm : klnN hfs hds 4 = some 1 := by kernel_rfl
theorem zYp : klnN tfs tds 4 = some 0 := by kernel_rfl
def ofs1 : List Flt := [⟨1, 0, 1, false⟩]
theorem zV0 : buyN hfs 0 hds ofs1 1 = none := by kernel_rfl
theorem zSo : (bstG hfs 1 hds).is = false := by kernel_rfl
theorem zX8 : verdO (bstF hfs 1 hds 1 0 true) (bstF hfs 1 hds 1 0 false) = (2, 0) := by kernel_rfl
theorem zXc : verdO (bstF hfs 0 hds 0 1 true) (bstF hfs 0 hds 0 1 false) = (0, 11) := by kernel_rfl
theorem zXn : (workE hfs 1 hds [[0, 2], [3, 0], [0, 0]]).1 = 0 := by kernel_rfl
theorem zYb : (workE hfs 1 hds [[0, 2], [3, 0]]).1 = 7 := by kernel_rfl
theorem zXk : (workE hfs 1 hds [[0, 2], [0, 2], [0, 0]]).1 = 12 := by kernel_rfl
theorem zX2 : (workE hfs 1 hds [[3, 3], [0, 0], [0, 0]]).1 = 6 := by kernel_rfl
theorem zXv : (workE hfs 1 hds [[0, 0], [0, 0], [0, 0]]).1 = 9 := by kernel_rfl
theorem zXh : (workE hfs 1 hds [[0, 4], [0, 0], [0, 0]]).1 = 8 := by kernel_rfl
def hfz : List FltZ := [⟨3, 1, 3, false⟩, ⟨2, 1, 1, false⟩]
def gfz : List FltZ := [⟨3, 4, 3, false⟩, ⟨2, 1, 1, false⟩]
theorem zX9 : chk hfz 1 [3, 2, 3] = 0 := by kernel_rfl
theorem zYs : chk [] 1 [3, 2, 3] = 7 := by kernel_rfl
theorem zYj : chk gfz 1 [3, 2, 3] = 1 := by kernel_rfl
theorem zXf : chk hfz 4 [3, 2, 3] = 1 := by kernel_rfl
theorem zYt : chk hfz 1 [13, 2, 3] = 1 := by kernel_rfl
theorem zAp {fs : List Flt} {kiln : Nat} {days : List Nat} {n e N : Nat} (h : MostP fs kiln days n e) (hb : mostB (rchM fs kiln days) N = true) : n = N ∧ e = 0 := by
 unfold mostB at hb
 rw [Bool.and_eq_true, List.any_eq_true, List.all_eq_true] at hb
 obtain ⟨⟨m, hm, h1⟩, h2⟩ := hb
 have h1 : sumM m = N := by simpa using h1
 have hm := zYv.1 hm
 rcases h with ⟨rfl, ⟨x, hx, h3⟩, h4⟩ | ⟨_, _, h3⟩
 ·have a1 := h4 m hm
  have a2 := h2 x (zYv.2 hx)
  simp at a2
  exact ⟨by omega, rfl⟩
 ·exact absurd hm (h3 m)
theorem zS9 {P : Nat -> Prop} {q : Prop} (h : (∃ d, d < hds.length ∧ (∀ j, j < d -> ∃ m, Rch hfs 1 (hds.take (j + 1)) m) ∧ (∀ m, ¬ Rch hfs 1 (hds.take (d + 1)) m) ∧ P d) ∨ ((∀ j, j < hds.length -> ∃ m, Rch hfs 1 (hds.take (j + 1)) m) ∧ q)) : q := by
 rcases h with ⟨d, h1, h2, h3, h4⟩ | ⟨_, h⟩
 ·rcases d with _ | _ | _ | d
  ·obtain ⟨m, hm⟩ := zB8 zXr
   exact absurd hm (h3 m)
  ·obtain ⟨m, hm⟩ := zB8 zXt
   exact absurd hm (h3 m)
  ·obtain ⟨m, hm⟩ := zB8 zXu
   exact absurd hm (h3 m)
  ·exact absurd h1 (by simp [hds])
 ·exact h
end Go.Proofs.Yteppiphdbondeaa.N
namespace Go.Proofs.Yteppiphdbondeaa.N
open Go Go.RowKit Go.Proofs
set_option linter.unusedSectionVars false
variable [I : Sys]

set_option maxRecDepth 8000 in
theorem zMx [R : ReaC] (w : World) (hR : RdC w) : Calls Try.prog 12 #[] w fun e w' => e = .returned (.bool true) ∧ Grew w w' [] := by
 refine enter (N := 362) [] Try.func12 rfl Try.ntmps12 rfl rfl ?_
 refine zD (zB (zE rfl rfl (zA (zC (zD (zB (jR (X := Nat × Nat) (vs := [_]) (p := fun _ => True) (val := fun g => .agg [.slice (some ⟨g.1, 0, none⟩) 2 2, .int .i64 1, .slice (some ⟨g.2, 0, none⟩) 3 3].toArray) (rs := fun g => [.blk g.2 (.cells (ints hds).toArray 3 (0, 0)), .blk g.1 (.cells (hfs.flatMap Flt.cells).toArray 49 (0, 0))]) rfl rfl F.ent42 (fun a w ha => (kR 1 w).mono (fun e w' h => by obtain ⟨b5, b7, h1, h2⟩ := h; exact ⟨(b5, b7), trivial, h1, h2⟩)) ?_)))))))
 rintro ⟨fn, dn⟩ -
 dsimp only [List.cons_append, List.nil_append]
 refine jR (X := Nat × Nat) (vs := [_]) (p := fun _ => True) (val := fun g => .agg [.slice (some ⟨g.1, 0, none⟩) 2 2, .int .i64 1, .slice (some ⟨g.2, 0, none⟩) 3 3].toArray) (rs := fun g => [.blk g.2 (.cells (ints hds).toArray 3 (0, 0)), .blk g.1 (.cells (hfs.flatMap Flt.cells).toArray 49 (0, 0))]) rfl rfl F.ent42 (fun a w ha => (kR 1 w).mono (fun e w' h => by obtain ⟨b5, b7, h1, h2⟩ := h; exact ⟨(b5, b7), trivial, h1, h2⟩)) ?_
 rintro ⟨fg, dg⟩ -
 dsimp only [List.cons_append, List.nil_append]
 refine jR (X := Nat × Nat) (vs := [_]) (p := fun _ => True) (val := fun g => .agg [.slice (some ⟨g.1, 0, none⟩) 2 2, .int .i64 1, .slice (some ⟨g.2, 0, none⟩) 3 3].toArray) (rs := fun g => [.blk g.2 (.cells (ints hds).toArray 3 (0, 0)), .blk g.1 (.cells (hfs.flatMap Flt.cells).toArray 49 (0, 0))]) rfl rfl F.ent42 (fun a w ha => (kR 1 w).mono (fun e w' h => by obtain ⟨b5, b7, h1, h2⟩ := h; exact ⟨(b5, b7), trivial, h1, h2⟩)) ?_
 rintro ⟨fs, ds⟩ -
 dsimp only [List.cons_append, List.nil_append]
 refine jA rfl F.ti27 ?_
 intro b1
 refine jA rfl F.ti27 ?_
 intro b2
 refine jA rfl F.ti27 ?_
 intro b3
 refine zK rfl rfl F.ti27 rfl ?_
 refine zK rfl rfl F.ti27 rfl ?_
 refine zK rfl rfl F.ti27 rfl ?_
 rw [show hfs.flatMap Flt.cells = [.int .i64 3, .int .i64 1, .int .i64 3, .bool false, .int .i64 2, .int .i64 1, .int .i64 1, .bool false] from rfl, show ints hds = [.int .i64 3, .int .i64 2, .int .i64 3] from rfl]
 refine zA (zC (zD (kJ [.b b1, .b fg, .b ds] F.follows 11 rfl [false, false, false, false, false, false, false, false, false, false, false] rfl ?_)))
 refine zG 0 rfl rfl rfl (jS rfl F.fi27_0 F.ti25) ?_
 refine zG 1 rfl rfl rfl (kL rfl F.one25) ?_
 refine zG 2 rfl rfl rfl (jS rfl F.fi27_2 F.ti22) ?_
 refine zG 3 rfl rfl rfl (kL rfl F.one22) ?_
 refine zG 4 rfl rfl rfl (jS rfl F.fi27_0 F.ti25) ?_
 refine an1 5 rfl ?_
 refine zK rfl rfl F.ti25 rfl ?_
 refine zA (anb (zG 6 rfl rfl rfl (kZ (j := 0) rfl rfl Try.underlying25 F.ti49 rfl (by decide)) ?_))
 refine zG 7 rfl rfl rfl (qT (b := fg) (o := 0) rfl F.fi49_1 F.ti3) ?_
 refine an1 8 rfl ?_
 refine zK (b := fg) (o := 1) rfl rfl F.ti3 rfl ?_
 refine zA (anb (zG 9 rfl rfl rfl (kZ (j := 0) rfl rfl Try.underlying22 F.ti3 rfl (by decide)) ?_))
 refine an1 10 rfl ?_
 refine zK (b := ds) (o := 0) rfl rfl F.ti3 rfl ?_
 refine zA (anb (adn (zC (zD (zD (zB (zW (v := .bool true) (vs := []) rfl rfl F.ent20 (fun a w ha => zPq w (hR.later ha.below)) ?_)))))))
 refine kO rfl rfl (zF rfl rfl (zJ rfl rfl (jR (X := Nat × Nat) (vs := [_]) (p := fun _ => True) (val := fun g => .agg [.slice (some ⟨g.1, 0, none⟩) 2 2, .int .i64 1, .slice (some ⟨g.2, 0, none⟩) 3 3].toArray) (rs := fun g => [.blk g.2 (.cells (ints hds).toArray 3 (0, 0)), .blk g.1 (.cells (hfs.flatMap Flt.cells).toArray 49 (0, 0))]) rfl rfl F.ent42 (fun a w ha => (kR 1 w).mono (fun e w' h => by obtain ⟨b5, b7, h1, h2⟩ := h; exact ⟨(b5, b7), trivial, h1, h2⟩)) ?_)))
 rintro ⟨fc, dc⟩ -
 dsimp only [List.cons_append, List.nil_append]
 refine zJ rfl rfl (zW (v := .int .i64 0) (vs := [_]) rfl rfl F.ent43 (fun a w ha => (xT (fA := some ⟨fc, 0, none⟩) (dA := some ⟨dc, 0, none⟩) (fc := 2) (dc := 3) (fs := hfz) (kiln := 1) (days := [3, 2, 3]) (by decide) (by decide) w (zM ha (cells := FltZ.cells) (size := 4) (b := fc) (l := hfz) (fun _ => rfl) rfl) (zM ha (cells := zcell) (size := 1) (b := dc) (l := [3, 2, 3]) (fun _ => rfl) rfl)).mono (fun e w' h => ⟨h.1.trans (by rw [zX9]; rfl), h.2⟩)) ?_)
 refine zJ rfl rfl (zI (v := .bool false) rfl rfl rfl (fun w => by rw [jP, decide_eq_false (by decide)]) ?_)
 refine zY rfl rfl rfl (zF rfl rfl (zJ rfl rfl (zX rfl rfl F.agg27 F.ti27 ?_)))
 refine zJ rfl rfl (zW (v := .int .i64 7) (vs := [_]) rfl rfl F.ent43 (fun a w ha => (xT (fA := none) (dA := some ⟨dn, 0, none⟩) (fc := 0) (dc := 3) (fs := []) (kiln := 1) (days := [3, 2, 3]) (by decide) (by decide) w (fun h => absurd h (by decide)) (zM ha (cells := zcell) (size := 1) (b := dn) (l := [3, 2, 3]) (fun _ => rfl) rfl)).mono (fun e w' h => ⟨h.1.trans (by rw [zYs]; rfl), h.2⟩)) ?_)
 refine zJ rfl rfl (zI (v := .bool false) rfl rfl rfl (fun w => by rw [jP, decide_eq_false (by decide)]) ?_)
 refine zY rfl rfl rfl (zF rfl rfl (zJ rfl rfl (zX rfl rfl F.agg27 F.ti27 ?_)))
 refine zJ rfl rfl (zW (v := .int .i64 1) (vs := [_]) rfl rfl F.ent43 (fun a w ha => (xT (fA := some ⟨fg, 0, none⟩) (dA := some ⟨dg, 0, none⟩) (fc := 2) (dc := 3) (fs := gfz) (kiln := 1) (days := [3, 2, 3]) (by decide) (by decide) w (zM ha (cells := FltZ.cells) (size := 4) (b := fg) (l := gfz) (fun _ => rfl) rfl) (zM ha (cells := zcell) (size := 1) (b := dg) (l := [3, 2, 3]) (fun _ => rfl) rfl)).mono (fun e w' h => ⟨h.1.trans (by rw [zYj]; rfl), h.2⟩)) ?_)
 refine zJ rfl rfl (zI (v := .bool false) rfl rfl rfl (fun w => by rw [jP, decide_eq_false (by decide)]) ?_)
 refine zY rfl rfl rfl (zF rfl rfl (zJ rfl rfl (jR (X := Nat × Nat) (vs := [_]) (p := fun _ => True) (val := fun g => .agg [.slice (some ⟨g.1, 0, none⟩) 2 2, .int .i64 4, .slice (some ⟨g.2, 0, none⟩) 3 3].toArray) (rs := fun g => [.blk g.2 (.cells (ints hds).toArray 3 (0, 0)), .blk g.1 (.cells (hfs.flatMap Flt.cells).toArray 49 (0, 0))]) rfl rfl F.ent42 (fun a w ha => (kR 4 w).mono (fun e w' h => by obtain ⟨b5, b7, h1, h2⟩ := h; exact ⟨(b5, b7), trivial, h1, h2⟩)) ?_)))
 rintro ⟨fk, dk⟩ -
 dsimp only [List.cons_append, List.nil_append]
 refine zJ rfl rfl (zW (v := .int .i64 1) (vs := [_]) rfl rfl F.ent43 (fun a w ha => (xT (fA := some ⟨fk, 0, none⟩) (dA := some ⟨dk, 0, none⟩) (fc := 2) (dc := 3) (fs := hfz) (kiln := 4) (days := [3, 2, 3]) (by decide) (by decide) w (zM ha (cells := FltZ.cells) (size := 4) (b := fk) (l := hfz) (fun _ => rfl) rfl) (zM ha (cells := zcell) (size := 1) (b := dk) (l := [3, 2, 3]) (fun _ => rfl) rfl)).mono (fun e w' h => ⟨h.1.trans (by rw [zXf]; rfl), h.2⟩)) ?_)
 refine zJ rfl rfl (zI (v := .bool false) rfl rfl rfl (fun w => by rw [jP, decide_eq_false (by decide)]) ?_)
 refine zY rfl rfl rfl (zF rfl rfl (zJ rfl rfl (zX rfl rfl F.agg27 F.ti27 ?_)))
 refine zJ rfl rfl (zW (v := .int .i64 1) (vs := [_]) rfl rfl F.ent43 (fun a w ha => (xT (fA := some ⟨fs, 0, none⟩) (dA := some ⟨ds, 0, none⟩) (fc := 2) (dc := 3) (fs := hfz) (kiln := 1) (days := [13, 2, 3]) (by decide) (by decide) w (zM ha (cells := FltZ.cells) (size := 4) (b := fs) (l := hfz) (fun _ => rfl) rfl) (zM ha (cells := zcell) (size := 1) (b := ds) (l := [13, 2, 3]) (fun _ => rfl) rfl)).mono (fun e w' h => ⟨h.1.trans (by rw [zYt]; rfl), h.2⟩)) ?_)
 refine zJ rfl rfl (zI (v := .bool false) rfl rfl rfl (fun w => by rw [jP, decide_eq_false (by decide)]) ?_)
 refine zY rfl rfl rfl (zA (zC (jL rfl (zQ (zC (zD (zB (jR (X := Nat × Nat × Nat × Nat) (vs := []) (p := fun _ => True) (val := fun g => .slice (some ⟨g.2.2.2, 0, none⟩) 3 3) (rs := fun g => [.blk g.2.2.2 (.cells [.slice (some ⟨g.1, 0, none⟩) 2 2, .slice (some ⟨g.2.1, 0, none⟩) 2 2, .slice (some ⟨g.2.2.1, 0, none⟩) 2 2].toArray 22 (0, 0)), .blk g.2.2.1 (.cells [.int .i64 0, .int .i64 0].toArray 3 (0, 0)), .blk g.2.1 (.cells [.int .i64 3, .int .i64 0].toArray 3 (0, 0)), .blk g.1 (.cells [.int .i64 0, .int .i64 2].toArray 3 (0, 0))]) rfl rfl F.ent44 (fun a w ha => (zKo w).mono (fun e w' h => by obtain ⟨b1, b2, b3, b4, h1, h2⟩ := h; exact ⟨(b1, b2, b3, b4), trivial, h1, h2⟩)) ?_))))))))
 rintro ⟨j1, j2, j3, j4⟩ -
 dsimp only [List.cons_append, List.nil_append]
 refine jW (vs := [(0, _), (1, _)]) rfl rfl Try.underlying22 F.ti3 rfl rfl rfl ?_
 intro b75
 refine jW (vs := [(0, _), (1, _)]) rfl rfl Try.underlying22 F.ti3 rfl rfl rfl ?_
 intro b76
 refine jW (vs := [(0, _), (1, _)]) rfl rfl Try.underlying29 F.ti22 rfl rfl rfl ?_
 intro b77
 refine jW (vs := [(0, _), (1, _)]) rfl rfl Try.underlying22 F.ti3 rfl rfl rfl ?_
 intro b78
 refine jW (vs := [(0, _), (1, _)]) rfl rfl Try.underlying22 F.ti3 rfl rfl rfl ?_
 intro b79
 refine jW (vs := [(0, _), (1, _)]) rfl rfl Try.underlying22 F.ti3 rfl rfl rfl ?_
 intro b80
 refine jW (vs := [(0, _), (1, _), (2, _)]) rfl rfl Try.underlying29 F.ti22 rfl rfl rfl ?_
 intro b81
 refine jW (vs := [(0, _), (1, _)]) rfl rfl Try.underlying22 F.ti3 rfl rfl rfl ?_
 intro b82
 refine jW (vs := [(0, _), (1, _)]) rfl rfl Try.underlying22 F.ti3 rfl rfl rfl ?_
 intro b83
 refine jW (vs := [(0, _), (1, _)]) rfl rfl Try.underlying22 F.ti3 rfl rfl rfl ?_
 intro b84
 refine jW (vs := [(0, _), (1, _), (2, _)]) rfl rfl Try.underlying29 F.ti22 rfl rfl rfl ?_
 intro b85
 refine jW (vs := [(0, _), (1, _)]) rfl rfl Try.underlying22 F.ti3 rfl rfl rfl ?_
 intro b86
 refine jW (vs := [(0, _), (1, _)]) rfl rfl Try.underlying22 F.ti3 rfl rfl rfl ?_
 intro b87
 refine jW (vs := [(0, _), (1, _)]) rfl rfl Try.underlying22 F.ti3 rfl rfl rfl ?_
 intro b88
 refine jW (vs := [(0, _), (1, _), (2, _)]) rfl rfl Try.underlying29 F.ti22 rfl rfl rfl ?_
 intro b89
 refine jW (vs := [(0, _), (1, _)]) rfl rfl Try.underlying22 F.ti3 rfl rfl rfl ?_
 intro b90
 refine jW (vs := [(0, _), (1, _)]) rfl rfl Try.underlying22 F.ti3 rfl rfl rfl ?_
 intro b91
 refine jW (vs := [(0, _), (1, _)]) rfl rfl Try.underlying22 F.ti3 rfl rfl rfl ?_
 intro b92
 refine jW (vs := [(0, _), (1, _), (2, _)]) rfl rfl Try.underlying29 F.ti22 rfl rfl rfl ?_
 intro b93
 refine jW (vs := [(0, _), (1, _), (2, _), (3, _), (4, _), (5, _)]) rfl rfl Try.underlying33 F.ti29 rfl rfl rfl ?_
 intro b94
 refine zE rfl rfl (zA (zC (zD (zB (jW (vs := [(0, _), (1, _), (2, _), (3, _), (4, _), (5, _)]) rfl rfl Try.underlying67 F.ti30 rfl rfl rfl ?_)))))
 intro b95
 refine zE rfl rfl (zA (zC (zD (zD (zB (zE rfl rfl (zA (zC (zV (zHi 6 ?_))))))))))
 refine zD (zD (zB (zF rfl rfl (zF rfl rfl (jX rfl rfl Try.underlying33 ?_)))))
 refine zI (v := .bool true) rfl rfl rfl (fun w => by rw [kG, decide_eq_true (by decide)]) ?_
 refine zA (zC (jZ rfl (zQ (zC (zD (zV (zD (kJ [] F.follows 11 rfl [false, false, false, false, false, false, false, false, false, false, false] rfl ?_))))))))
 refine zG 1 rfl rfl rfl (jC rfl) ?_
 refine zG 2 rfl rfl rfl (jC rfl) ?_
 refine zG 3 rfl rfl rfl (kZ (j := 0) rfl rfl Try.underlying33 F.ti29 rfl (by decide)) ?_
 refine zG 4 rfl rfl rfl (kK (v := .slice (some ⟨j4, 0, none⟩) 3 3) rfl F.one29 (fun a w ha => jU (ha.mem_blk (InB.mem (b := b94))) rfl)) ?_
 refine zG 6 rfl rfl rfl (jC rfl) ?_
 refine zG 7 rfl rfl rfl (jC rfl) ?_
 refine zG 8 rfl rfl rfl (kZ (j := 0) rfl rfl Try.underlying67 F.ti30 rfl (by decide)) ?_
 refine zG 9 rfl rfl rfl (kK (v := .int .i64 0) rfl F.one30 (fun a w ha => jU (ha.mem_blk (InB.mem (b := b95))) rfl)) ?_
 refine an1 0 rfl ?_
 refine jR (X := Nat × Nat) (vs := [_]) (p := fun _ => True) (val := fun g => .agg [.slice (some ⟨g.1, 0, none⟩) 2 2, .int .i64 1, .slice (some ⟨g.2, 0, none⟩) 3 3].toArray) (rs := fun g => [.blk g.2 (.cells (ints hds).toArray 3 (0, 0)), .blk g.1 (.cells (hfs.flatMap Flt.cells).toArray 49 (0, 0))]) rfl rfl F.ent42 (fun a w ha => (kR 1 w).mono (fun e w' h => by obtain ⟨b5, b7, h1, h2⟩ := h; exact ⟨(b5, b7), trivial, h1, h2⟩)) ?_
 rintro ⟨fp0, dp0⟩ -
 dsimp only [List.cons_append, List.nil_append]
 refine zA (anb (an1 5 rfl ?_))
 refine zW (v := .int .i64 0) (vs := [_, _]) rfl rfl F.ent32 (fun a w ha => ?_) ?_
 ·have h := yU (fA := some ⟨fp0, 0, none⟩) (dA := some ⟨dp0, 0, none⟩) (fc := 2) (dc := 3) (fs := hfs) (days := hds) (kiln := 1) (pA := some ⟨j4, 0, none⟩) (pc := 3) (ms := [(some ⟨j1, 0, none⟩, 2, [0, 2]), (some ⟨j2, 0, none⟩, 2, [3, 0]), (some ⟨j3, 0, none⟩, 2, [0, 0])]) (hv (by decide)) (by show 3 < 1000000; decide) (by intro x hx; simp only [List.mem_cons, List.not_mem_nil, or_false] at hx; rcases hx with rfl | rfl | rfl <;> (dsimp only; decide)) w (zM ha (cells := Flt.cells) (size := 4) (b := fp0) (l := hfs) (fun _ => rfl) rfl) (zM ha (cells := ncell) (size := 1) (b := dp0) (l := hds) (fun _ => rfl) rfl) ⟨zM ha (cells := fun m => [zmcell m]) (size := 1) (b := j4) (l := [(some ⟨j1, 0, none⟩, 2, [0, 2]), (some ⟨j2, 0, none⟩, 2, [3, 0]), (some ⟨j3, 0, none⟩, 2, [0, 0])]) (fun _ => rfl) rfl, fun m hm => by
   simp only [List.mem_cons, List.not_mem_nil, or_false] at hm
   rcases hm with rfl | rfl | rfl
   ·exact zM ha (cells := zcell) (size := 1) (b := j1) (l := [0, 2]) (fun _ => rfl) rfl
   ·exact zM ha (cells := zcell) (size := 1) (b := j2) (l := [3, 0]) (fun _ => rfl) rfl
   ·exact zM ha (cells := zcell) (size := 1) (b := j3) (l := [0, 0]) (fun _ => rfl) rfl⟩
  exact h.mono (fun e w' h => ⟨h.1.trans (by rw [show (workE hfs 1 hds (List.map (fun x => x.2.2) ([(some ⟨j1, 0, none⟩, 2, [0, 2]), (some ⟨j2, 0, none⟩, 2, [3, 0]), (some ⟨j3, 0, none⟩, 2, [0, 0])] : List MetaZ))).1 = 0 from zXn]; rfl), h.2⟩)
 refine zA (anb (zG 10 rfl rfl rfl (qC (v := .bool false) rfl rfl (fun w => by rw [jP, decide_eq_false (by decide)])) ?_))
 refine adn (zC (jL rfl (zQ (zO (zC (zB (zF rfl rfl (zI (v := .int .i64 1) rfl rfl rfl (fun w => jO w rfl) ?_))))))))
 refine zE rfl rfl (zA (vX ?_))
 refine zD (zD (zB (zF rfl rfl (zF rfl rfl (jX rfl rfl Try.underlying33 ?_)))))
 refine zI (v := .bool true) rfl rfl rfl (fun w => by rw [kG, decide_eq_true (by decide)]) ?_
 refine zA (zC (jZ rfl (zQ (zC (zD (zV (zD (kJ [] F.follows 11 rfl [false, false, false, false, false, false, false, false, false, false, false] rfl ?_))))))))
 refine zG 1 rfl rfl rfl (jC rfl) ?_
 refine zG 2 rfl rfl rfl (jC rfl) ?_
 refine zG 3 rfl rfl rfl (kZ (j := 1) rfl rfl Try.underlying33 F.ti29 rfl (by decide)) ?_
 refine zG 4 rfl rfl rfl (kK (v := .slice (some ⟨b77, 0, none⟩) 2 2) rfl F.one29 (fun a w ha => jU (ha.mem_blk (InB.mem (b := b94))) rfl)) ?_
 refine zG 6 rfl rfl rfl (jC rfl) ?_
 refine zG 7 rfl rfl rfl (jC rfl) ?_
 refine zG 8 rfl rfl rfl (kZ (j := 1) rfl rfl Try.underlying67 F.ti30 rfl (by decide)) ?_
 refine zG 9 rfl rfl rfl (kK (v := .int .i64 7) rfl F.one30 (fun a w ha => jU (ha.mem_blk (InB.mem (b := b95))) rfl)) ?_
 refine an1 0 rfl ?_
 refine jR (X := Nat × Nat) (vs := [_]) (p := fun _ => True) (val := fun g => .agg [.slice (some ⟨g.1, 0, none⟩) 2 2, .int .i64 1, .slice (some ⟨g.2, 0, none⟩) 3 3].toArray) (rs := fun g => [.blk g.2 (.cells (ints hds).toArray 3 (0, 0)), .blk g.1 (.cells (hfs.flatMap Flt.cells).toArray 49 (0, 0))]) rfl rfl F.ent42 (fun a w ha => (kR 1 w).mono (fun e w' h => by obtain ⟨b5, b7, h1, h2⟩ := h; exact ⟨(b5, b7), trivial, h1, h2⟩)) ?_
 rintro ⟨fp1, dp1⟩ -
 dsimp only [List.cons_append, List.nil_append]
 refine zA (anb (an1 5 rfl ?_))
 refine zW (v := .int .i64 7) (vs := [_, _]) rfl rfl F.ent32 (fun a w ha => ?_) ?_
 ·have h := yU (fA := some ⟨fp1, 0, none⟩) (dA := some ⟨dp1, 0, none⟩) (fc := 2) (dc := 3) (fs := hfs) (days := hds) (kiln := 1) (pA := some ⟨b77, 0, none⟩) (pc := 2) (ms := [(some ⟨b75, 0, none⟩, 2, [0, 2]), (some ⟨b76, 0, none⟩, 2, [3, 0])]) (hv (by decide)) (by show 2 < 1000000; decide) (by intro x hx; simp only [List.mem_cons, List.not_mem_nil, or_false] at hx; rcases hx with rfl | rfl <;> (dsimp only; decide)) w (zM ha (cells := Flt.cells) (size := 4) (b := fp1) (l := hfs) (fun _ => rfl) rfl) (zM ha (cells := ncell) (size := 1) (b := dp1) (l := hds) (fun _ => rfl) rfl) ⟨zM ha (cells := fun m => [zmcell m]) (size := 1) (b := b77) (l := [(some ⟨b75, 0, none⟩, 2, [0, 2]), (some ⟨b76, 0, none⟩, 2, [3, 0])]) (fun _ => rfl) rfl, fun m hm => by
   simp only [List.mem_cons, List.not_mem_nil, or_false] at hm
   rcases hm with rfl | rfl
   ·exact zM ha (cells := zcell) (size := 1) (b := b75) (l := [0, 2]) (fun _ => rfl) rfl
   ·exact zM ha (cells := zcell) (size := 1) (b := b76) (l := [3, 0]) (fun _ => rfl) rfl⟩
  exact h.mono (fun e w' h => ⟨h.1.trans (by rw [show (workE hfs 1 hds (List.map (fun x => x.2.2) ([(some ⟨b75, 0, none⟩, 2, [0, 2]), (some ⟨b76, 0, none⟩, 2, [3, 0])] : List MetaZ))).1 = 7 from zYb]; rfl), h.2⟩)
 refine zA (anb (zG 10 rfl rfl rfl (qC (v := .bool false) rfl rfl (fun w => by rw [jP, decide_eq_false (by decide)])) ?_))
 refine adn (zC (jL rfl (zQ (zO (zC (zB (zF rfl rfl (zI (v := .int .i64 2) rfl rfl rfl (fun w => jO w rfl) ?_))))))))
 refine zE rfl rfl (zA (vX ?_))
 refine zD (zD (zB (zF rfl rfl (zF rfl rfl (jX rfl rfl Try.underlying33 ?_)))))
 refine zI (v := .bool true) rfl rfl rfl (fun w => by rw [kG, decide_eq_true (by decide)]) ?_
 refine zA (zC (jZ rfl (zQ (zC (zD (zV (zD (kJ [] F.follows 11 rfl [false, false, false, false, false, false, false, false, false, false, false] rfl ?_))))))))
 refine zG 1 rfl rfl rfl (jC rfl) ?_
 refine zG 2 rfl rfl rfl (jC rfl) ?_
 refine zG 3 rfl rfl rfl (kZ (j := 2) rfl rfl Try.underlying33 F.ti29 rfl (by decide)) ?_
 refine zG 4 rfl rfl rfl (kK (v := .slice (some ⟨b81, 0, none⟩) 3 3) rfl F.one29 (fun a w ha => jU (ha.mem_blk (InB.mem (b := b94))) rfl)) ?_
 refine zG 6 rfl rfl rfl (jC rfl) ?_
 refine zG 7 rfl rfl rfl (jC rfl) ?_
 refine zG 8 rfl rfl rfl (kZ (j := 2) rfl rfl Try.underlying67 F.ti30 rfl (by decide)) ?_
 refine zG 9 rfl rfl rfl (kK (v := .int .i64 12) rfl F.one30 (fun a w ha => jU (ha.mem_blk (InB.mem (b := b95))) rfl)) ?_
 refine an1 0 rfl ?_
 refine jR (X := Nat × Nat) (vs := [_]) (p := fun _ => True) (val := fun g => .agg [.slice (some ⟨g.1, 0, none⟩) 2 2, .int .i64 1, .slice (some ⟨g.2, 0, none⟩) 3 3].toArray) (rs := fun g => [.blk g.2 (.cells (ints hds).toArray 3 (0, 0)), .blk g.1 (.cells (hfs.flatMap Flt.cells).toArray 49 (0, 0))]) rfl rfl F.ent42 (fun a w ha => (kR 1 w).mono (fun e w' h => by obtain ⟨b5, b7, h1, h2⟩ := h; exact ⟨(b5, b7), trivial, h1, h2⟩)) ?_
 rintro ⟨fp2, dp2⟩ -
 dsimp only [List.cons_append, List.nil_append]
 refine zA (anb (an1 5 rfl ?_))
 refine zW (v := .int .i64 12) (vs := [_, _]) rfl rfl F.ent32 (fun a w ha => ?_) ?_
 ·have h := yU (fA := some ⟨fp2, 0, none⟩) (dA := some ⟨dp2, 0, none⟩) (fc := 2) (dc := 3) (fs := hfs) (days := hds) (kiln := 1) (pA := some ⟨b81, 0, none⟩) (pc := 3) (ms := [(some ⟨b78, 0, none⟩, 2, [0, 2]), (some ⟨b79, 0, none⟩, 2, [0, 2]), (some ⟨b80, 0, none⟩, 2, [0, 0])]) (hv (by decide)) (by show 3 < 1000000; decide) (by intro x hx; simp only [List.mem_cons, List.not_mem_nil, or_false] at hx; rcases hx with rfl | rfl | rfl <;> (dsimp only; decide)) w (zM ha (cells := Flt.cells) (size := 4) (b := fp2) (l := hfs) (fun _ => rfl) rfl) (zM ha (cells := ncell) (size := 1) (b := dp2) (l := hds) (fun _ => rfl) rfl) ⟨zM ha (cells := fun m => [zmcell m]) (size := 1) (b := b81) (l := [(some ⟨b78, 0, none⟩, 2, [0, 2]), (some ⟨b79, 0, none⟩, 2, [0, 2]), (some ⟨b80, 0, none⟩, 2, [0, 0])]) (fun _ => rfl) rfl, fun m hm => by
   simp only [List.mem_cons, List.not_mem_nil, or_false] at hm
   rcases hm with rfl | rfl | rfl
   ·exact zM ha (cells := zcell) (size := 1) (b := b78) (l := [0, 2]) (fun _ => rfl) rfl
   ·exact zM ha (cells := zcell) (size := 1) (b := b79) (l := [0, 2]) (fun _ => rfl) rfl
   ·exact zM ha (cells := zcell) (size := 1) (b := b80) (l := [0, 0]) (fun _ => rfl) rfl⟩
  exact h.mono (fun e w' h => ⟨h.1.trans (by rw [show (workE hfs 1 hds (List.map (fun x => x.2.2) ([(some ⟨b78, 0, none⟩, 2, [0, 2]), (some ⟨b79, 0, none⟩, 2, [0, 2]), (some ⟨b80, 0, none⟩, 2, [0, 0])] : List MetaZ))).1 = 12 from zXk]; rfl), h.2⟩)
 refine zA (anb (zG 10 rfl rfl rfl (qC (v := .bool false) rfl rfl (fun w => by rw [jP, decide_eq_false (by decide)])) ?_))
 refine adn (zC (jL rfl (zQ (zO (zC (zB (zF rfl rfl (zI (v := .int .i64 3) rfl rfl rfl (fun w => jO w rfl) ?_))))))))
 refine zE rfl rfl (zA (vX ?_))
 refine zD (zD (zB (zF rfl rfl (zF rfl rfl (jX rfl rfl Try.underlying33 ?_)))))
 refine zI (v := .bool true) rfl rfl rfl (fun w => by rw [kG, decide_eq_true (by decide)]) ?_
 refine zA (zC (jZ rfl (zQ (zC (zD (zV (zD (kJ [] F.follows 11 rfl [false, false, false, false, false, false, false, false, false, false, false] rfl ?_))))))))
 refine zG 1 rfl rfl rfl (jC rfl) ?_
 refine zG 2 rfl rfl rfl (jC rfl) ?_
 refine zG 3 rfl rfl rfl (kZ (j := 3) rfl rfl Try.underlying33 F.ti29 rfl (by decide)) ?_
 refine zG 4 rfl rfl rfl (kK (v := .slice (some ⟨b85, 0, none⟩) 3 3) rfl F.one29 (fun a w ha => jU (ha.mem_blk (InB.mem (b := b94))) rfl)) ?_
 refine zG 6 rfl rfl rfl (jC rfl) ?_
 refine zG 7 rfl rfl rfl (jC rfl) ?_
 refine zG 8 rfl rfl rfl (kZ (j := 3) rfl rfl Try.underlying67 F.ti30 rfl (by decide)) ?_
 refine zG 9 rfl rfl rfl (kK (v := .int .i64 6) rfl F.one30 (fun a w ha => jU (ha.mem_blk (InB.mem (b := b95))) rfl)) ?_
 refine an1 0 rfl ?_
 refine jR (X := Nat × Nat) (vs := [_]) (p := fun _ => True) (val := fun g => .agg [.slice (some ⟨g.1, 0, none⟩) 2 2, .int .i64 1, .slice (some ⟨g.2, 0, none⟩) 3 3].toArray) (rs := fun g => [.blk g.2 (.cells (ints hds).toArray 3 (0, 0)), .blk g.1 (.cells (hfs.flatMap Flt.cells).toArray 49 (0, 0))]) rfl rfl F.ent42 (fun a w ha => (kR 1 w).mono (fun e w' h => by obtain ⟨b5, b7, h1, h2⟩ := h; exact ⟨(b5, b7), trivial, h1, h2⟩)) ?_
 rintro ⟨fp3, dp3⟩ -
 dsimp only [List.cons_append, List.nil_append]
 refine zA (anb (an1 5 rfl ?_))
 refine zW (v := .int .i64 6) (vs := [_, _]) rfl rfl F.ent32 (fun a w ha => ?_) ?_
 ·have h := yU (fA := some ⟨fp3, 0, none⟩) (dA := some ⟨dp3, 0, none⟩) (fc := 2) (dc := 3) (fs := hfs) (days := hds) (kiln := 1) (pA := some ⟨b85, 0, none⟩) (pc := 3) (ms := [(some ⟨b82, 0, none⟩, 2, [3, 3]), (some ⟨b83, 0, none⟩, 2, [0, 0]), (some ⟨b84, 0, none⟩, 2, [0, 0])]) (hv (by decide)) (by show 3 < 1000000; decide) (by intro x hx; simp only [List.mem_cons, List.not_mem_nil, or_false] at hx; rcases hx with rfl | rfl | rfl <;> (dsimp only; decide)) w (zM ha (cells := Flt.cells) (size := 4) (b := fp3) (l := hfs) (fun _ => rfl) rfl) (zM ha (cells := ncell) (size := 1) (b := dp3) (l := hds) (fun _ => rfl) rfl) ⟨zM ha (cells := fun m => [zmcell m]) (size := 1) (b := b85) (l := [(some ⟨b82, 0, none⟩, 2, [3, 3]), (some ⟨b83, 0, none⟩, 2, [0, 0]), (some ⟨b84, 0, none⟩, 2, [0, 0])]) (fun _ => rfl) rfl, fun m hm => by
   simp only [List.mem_cons, List.not_mem_nil, or_false] at hm
   rcases hm with rfl | rfl | rfl
   ·exact zM ha (cells := zcell) (size := 1) (b := b82) (l := [3, 3]) (fun _ => rfl) rfl
   ·exact zM ha (cells := zcell) (size := 1) (b := b83) (l := [0, 0]) (fun _ => rfl) rfl
   ·exact zM ha (cells := zcell) (size := 1) (b := b84) (l := [0, 0]) (fun _ => rfl) rfl⟩
  exact h.mono (fun e w' h => ⟨h.1.trans (by rw [show (workE hfs 1 hds (List.map (fun x => x.2.2) ([(some ⟨b82, 0, none⟩, 2, [3, 3]), (some ⟨b83, 0, none⟩, 2, [0, 0]), (some ⟨b84, 0, none⟩, 2, [0, 0])] : List MetaZ))).1 = 6 from zX2]; rfl), h.2⟩)
 refine zA (anb (zG 10 rfl rfl rfl (qC (v := .bool false) rfl rfl (fun w => by rw [jP, decide_eq_false (by decide)])) ?_))
 refine adn (zC (jL rfl (zQ (zO (zC (zB (zF rfl rfl (zI (v := .int .i64 4) rfl rfl rfl (fun w => jO w rfl) ?_))))))))
 refine zE rfl rfl (zA (vX ?_))
 refine zD (zD (zB (zF rfl rfl (zF rfl rfl (jX rfl rfl Try.underlying33 ?_)))))
 refine zI (v := .bool true) rfl rfl rfl (fun w => by rw [kG, decide_eq_true (by decide)]) ?_
 refine zA (zC (jZ rfl (zQ (zC (zD (zV (zD (kJ [] F.follows 11 rfl [false, false, false, false, false, false, false, false, false, false, false] rfl ?_))))))))
 refine zG 1 rfl rfl rfl (jC rfl) ?_
 refine zG 2 rfl rfl rfl (jC rfl) ?_
 refine zG 3 rfl rfl rfl (kZ (j := 4) rfl rfl Try.underlying33 F.ti29 rfl (by decide)) ?_
 refine zG 4 rfl rfl rfl (kK (v := .slice (some ⟨b89, 0, none⟩) 3 3) rfl F.one29 (fun a w ha => jU (ha.mem_blk (InB.mem (b := b94))) rfl)) ?_
 refine zG 6 rfl rfl rfl (jC rfl) ?_
 refine zG 7 rfl rfl rfl (jC rfl) ?_
 refine zG 8 rfl rfl rfl (kZ (j := 4) rfl rfl Try.underlying67 F.ti30 rfl (by decide)) ?_
 refine zG 9 rfl rfl rfl (kK (v := .int .i64 9) rfl F.one30 (fun a w ha => jU (ha.mem_blk (InB.mem (b := b95))) rfl)) ?_
 refine an1 0 rfl ?_
 refine jR (X := Nat × Nat) (vs := [_]) (p := fun _ => True) (val := fun g => .agg [.slice (some ⟨g.1, 0, none⟩) 2 2, .int .i64 1, .slice (some ⟨g.2, 0, none⟩) 3 3].toArray) (rs := fun g => [.blk g.2 (.cells (ints hds).toArray 3 (0, 0)), .blk g.1 (.cells (hfs.flatMap Flt.cells).toArray 49 (0, 0))]) rfl rfl F.ent42 (fun a w ha => (kR 1 w).mono (fun e w' h => by obtain ⟨b5, b7, h1, h2⟩ := h; exact ⟨(b5, b7), trivial, h1, h2⟩)) ?_
 rintro ⟨fp4, dp4⟩ -
 dsimp only [List.cons_append, List.nil_append]
 refine zA (anb (an1 5 rfl ?_))
 refine zW (v := .int .i64 9) (vs := [_, _]) rfl rfl F.ent32 (fun a w ha => ?_) ?_
 ·have h := yU (fA := some ⟨fp4, 0, none⟩) (dA := some ⟨dp4, 0, none⟩) (fc := 2) (dc := 3) (fs := hfs) (days := hds) (kiln := 1) (pA := some ⟨b89, 0, none⟩) (pc := 3) (ms := [(some ⟨b86, 0, none⟩, 2, [0, 0]), (some ⟨b87, 0, none⟩, 2, [0, 0]), (some ⟨b88, 0, none⟩, 2, [0, 0])]) (hv (by decide)) (by show 3 < 1000000; decide) (by intro x hx; simp only [List.mem_cons, List.not_mem_nil, or_false] at hx; rcases hx with rfl | rfl | rfl <;> (dsimp only; decide)) w (zM ha (cells := Flt.cells) (size := 4) (b := fp4) (l := hfs) (fun _ => rfl) rfl) (zM ha (cells := ncell) (size := 1) (b := dp4) (l := hds) (fun _ => rfl) rfl) ⟨zM ha (cells := fun m => [zmcell m]) (size := 1) (b := b89) (l := [(some ⟨b86, 0, none⟩, 2, [0, 0]), (some ⟨b87, 0, none⟩, 2, [0, 0]), (some ⟨b88, 0, none⟩, 2, [0, 0])]) (fun _ => rfl) rfl, fun m hm => by
   simp only [List.mem_cons, List.not_mem_nil, or_false] at hm
   rcases hm with rfl | rfl | rfl
   ·exact zM ha (cells := zcell) (size := 1) (b := b86) (l := [0, 0]) (fun _ => rfl) rfl
   ·exact zM ha (cells := zcell) (size := 1) (b := b87) (l := [0, 0]) (fun _ => rfl) rfl
   ·exact zM ha (cells := zcell) (size := 1) (b := b88) (l := [0, 0]) (fun _ => rfl) rfl⟩
  exact h.mono (fun e w' h => ⟨h.1.trans (by rw [show (workE hfs 1 hds (List.map (fun x => x.2.2) ([(some ⟨b86, 0, none⟩, 2, [0, 0]), (some ⟨b87, 0, none⟩, 2, [0, 0]), (some ⟨b88, 0, none⟩, 2, [0, 0])] : List MetaZ))).1 = 9 from zXv]; rfl), h.2⟩)
 refine zA (anb (zG 10 rfl rfl rfl (qC (v := .bool false) rfl rfl (fun w => by rw [jP, decide_eq_false (by decide)])) ?_))
 refine adn (zC (jL rfl (zQ (zO (zC (zB (zF rfl rfl (zI (v := .int .i64 5) rfl rfl rfl (fun w => jO w rfl) ?_))))))))
 refine zE rfl rfl (zA (vX ?_))
 refine zD (zD (zB (zF rfl rfl (zF rfl rfl (jX rfl rfl Try.underlying33 ?_)))))
 refine zI (v := .bool true) rfl rfl rfl (fun w => by rw [kG, decide_eq_true (by decide)]) ?_
 refine zA (zC (jZ rfl (zQ (zC (zD (zV (zD (kJ [] F.follows 11 rfl [false, false, false, false, false, false, false, false, false, false, false] rfl ?_))))))))
 refine zG 1 rfl rfl rfl (jC rfl) ?_
 refine zG 2 rfl rfl rfl (jC rfl) ?_
 refine zG 3 rfl rfl rfl (kZ (j := 5) rfl rfl Try.underlying33 F.ti29 rfl (by decide)) ?_
 refine zG 4 rfl rfl rfl (kK (v := .slice (some ⟨b93, 0, none⟩) 3 3) rfl F.one29 (fun a w ha => jU (ha.mem_blk (InB.mem (b := b94))) rfl)) ?_
 refine zG 6 rfl rfl rfl (jC rfl) ?_
 refine zG 7 rfl rfl rfl (jC rfl) ?_
 refine zG 8 rfl rfl rfl (kZ (j := 5) rfl rfl Try.underlying67 F.ti30 rfl (by decide)) ?_
 refine zG 9 rfl rfl rfl (kK (v := .int .i64 8) rfl F.one30 (fun a w ha => jU (ha.mem_blk (InB.mem (b := b95))) rfl)) ?_
 refine an1 0 rfl ?_
 refine jR (X := Nat × Nat) (vs := [_]) (p := fun _ => True) (val := fun g => .agg [.slice (some ⟨g.1, 0, none⟩) 2 2, .int .i64 1, .slice (some ⟨g.2, 0, none⟩) 3 3].toArray) (rs := fun g => [.blk g.2 (.cells (ints hds).toArray 3 (0, 0)), .blk g.1 (.cells (hfs.flatMap Flt.cells).toArray 49 (0, 0))]) rfl rfl F.ent42 (fun a w ha => (kR 1 w).mono (fun e w' h => by obtain ⟨b5, b7, h1, h2⟩ := h; exact ⟨(b5, b7), trivial, h1, h2⟩)) ?_
 rintro ⟨fp5, dp5⟩ -
 dsimp only [List.cons_append, List.nil_append]
 refine zA (anb (an1 5 rfl ?_))
 refine zW (v := .int .i64 8) (vs := [_, _]) rfl rfl F.ent32 (fun a w ha => ?_) ?_
 ·have h := yU (fA := some ⟨fp5, 0, none⟩) (dA := some ⟨dp5, 0, none⟩) (fc := 2) (dc := 3) (fs := hfs) (days := hds) (kiln := 1) (pA := some ⟨b93, 0, none⟩) (pc := 3) (ms := [(some ⟨b90, 0, none⟩, 2, [0, 4]), (some ⟨b91, 0, none⟩, 2, [0, 0]), (some ⟨b92, 0, none⟩, 2, [0, 0])]) (hv (by decide)) (by show 3 < 1000000; decide) (by intro x hx; simp only [List.mem_cons, List.not_mem_nil, or_false] at hx; rcases hx with rfl | rfl | rfl <;> (dsimp only; decide)) w (zM ha (cells := Flt.cells) (size := 4) (b := fp5) (l := hfs) (fun _ => rfl) rfl) (zM ha (cells := ncell) (size := 1) (b := dp5) (l := hds) (fun _ => rfl) rfl) ⟨zM ha (cells := fun m => [zmcell m]) (size := 1) (b := b93) (l := [(some ⟨b90, 0, none⟩, 2, [0, 4]), (some ⟨b91, 0, none⟩, 2, [0, 0]), (some ⟨b92, 0, none⟩, 2, [0, 0])]) (fun _ => rfl) rfl, fun m hm => by
   simp only [List.mem_cons, List.not_mem_nil, or_false] at hm
   rcases hm with rfl | rfl | rfl
   ·exact zM ha (cells := zcell) (size := 1) (b := b90) (l := [0, 4]) (fun _ => rfl) rfl
   ·exact zM ha (cells := zcell) (size := 1) (b := b91) (l := [0, 0]) (fun _ => rfl) rfl
   ·exact zM ha (cells := zcell) (size := 1) (b := b92) (l := [0, 0]) (fun _ => rfl) rfl⟩
  exact h.mono (fun e w' h => ⟨h.1.trans (by rw [show (workE hfs 1 hds (List.map (fun x => x.2.2) ([(some ⟨b90, 0, none⟩, 2, [0, 4]), (some ⟨b91, 0, none⟩, 2, [0, 0]), (some ⟨b92, 0, none⟩, 2, [0, 0])] : List MetaZ))).1 = 8 from zXh]; rfl), h.2⟩)
 refine zA (anb (zG 10 rfl rfl rfl (qC (v := .bool false) rfl rfl (fun w => by rw [jP, decide_eq_false (by decide)])) ?_))
 refine adn (zC (jL rfl (zQ (zO (zC (zB (zF rfl rfl (zI (v := .int .i64 6) rfl rfl rfl (fun w => jO w rfl) ?_))))))))
 refine zE rfl rfl (zA (vX ?_))
 refine zD (zD (zB (zF rfl rfl (zF rfl rfl (jX rfl rfl Try.underlying33 ?_)))))
 refine zI (v := .bool false) rfl rfl rfl (fun w => by rw [kG, decide_eq_false (by decide)]) ?_
 refine zA (zC (jL rfl (kI (zT (zT (jK (zC (zD (zB (jR (X := Nat × Nat) (vs := []) (p := fun _ => True) (val := fun g => .agg [.slice (some ⟨g.1, 0, none⟩) 2 2, .int .i64 1, .slice (some ⟨g.2, 0, none⟩) 2 2].toArray) (rs := fun g => [.blk g.2 (.cells (ints tds).toArray 3 (0, 0)), .blk g.1 (.cells (tfs.flatMap Flt.cells).toArray 49 (0, 0))]) rfl rfl F.ent45 (fun a w ha => (zDj w).mono (fun e w' h => by obtain ⟨b5, b7, h1, h2⟩ := h; exact ⟨(b5, b7), trivial, h1, h2⟩)) ?_))))))))))
 rintro ⟨fa, da⟩ -
 dsimp only [List.cons_append, List.nil_append]
 refine jR (X := Option Addr × Nat × (Option Addr × Nat) × (Option Addr × Nat)) (vs := [_]) (p := fun _ => True) (val := fun g => .tuple #[.slice g.1 2 g.2.1, .int .i64 0, .int .i64 0]) (rs := fun g => [.row 22 1 g.1 2 g.2.1 [.slice g.2.2.1.1 2 g.2.2.1.2, .slice g.2.2.2.1 2 g.2.2.2.2], .row 3 1 g.2.2.2.1 2 g.2.2.2.2 (ints [0, 0]), .row 3 1 g.2.2.1.1 2 g.2.2.1.2 (ints [0, 0])]) rfl rfl F.ent15 (fun a w ha => ?_) ?_
 ·refine (zGv (fA := some ⟨fa, 0, none⟩) (dA := some ⟨da, 0, none⟩) (fc := 2) (dc := 2) (fs := tfs) (days := tds) (kiln := 1) tv1 w (zM ha (cells := Flt.cells) (size := 4) (b := fa) (l := tfs) (fun _ => rfl) rfl) (zM ha (cells := ncell) (size := 1) (b := da) (l := tds) (fun _ => rfl) rfl)).mono ?_
  rintro e w' ⟨oA, oc, mr, hcase, hg⟩
  rcases hcase with ⟨h1, h2, h3⟩ | ⟨h1, _⟩
  ·rw [zU4] at h2
   obtain ⟨a, b, rfl⟩ := mr2 h2
   rw [zQy] at h3
   exact ⟨(oA, oc, a, b), trivial, h3, hg⟩
  ·rw [zQy] at h1; cases h1
 rintro ⟨AA, cA, ⟨p1, q1⟩, ⟨p2, q2⟩⟩ -
 dsimp only [List.cons_append, List.nil_append]
 refine zF rfl rfl (zL rfl rfl rfl (zL rfl rfl rfl (zL rfl rfl rfl (zE rfl rfl (zE rfl rfl (zE rfl rfl (zA (zC (zD (zB (jR (X := Nat × Nat) (vs := [_]) (p := fun _ => True) (val := fun g => .agg [.slice (some ⟨g.1, 0, none⟩) 2 2, .int .i64 0, .slice (some ⟨g.2, 0, none⟩) 3 3].toArray) (rs := fun g => [.blk g.2 (.cells (ints hds).toArray 3 (0, 0)), .blk g.1 (.cells (hfs.flatMap Flt.cells).toArray 49 (0, 0))]) rfl rfl F.ent42 (fun a w ha => (kR 0 w).mono (fun e w' h => by obtain ⟨b5, b7, h1, h2⟩ := h; exact ⟨(b5, b7), trivial, h1, h2⟩)) ?_)))))))))))
 rintro ⟨fb, db⟩ -
 dsimp only [List.cons_append, List.nil_append]
 refine jR (X := Option Addr) (vs := [_]) (p := fun _ => True) (val := fun g => .tuple #[.slice none 0 0, .int .i64 0, .int .i64 11]) (rs := fun _ => []) rfl rfl F.ent15 (fun a w ha => (zGv (fA := some ⟨fb, 0, none⟩) (dA := some ⟨db, 0, none⟩) (fc := 2) (dc := 3) (fs := hfs) (days := hds) (kiln := 0) (hv (by decide)) w (zM ha (cells := Flt.cells) (size := 4) (b := fb) (l := hfs) (fun _ => rfl) rfl) (zM ha (cells := ncell) (size := 1) (b := db) (l := hds) (fun _ => rfl) rfl)).mono (fun e w' h => ?_)) ?_
 ·obtain ⟨oA, oc, mr, h1, h2⟩ := h
  rcases h1 with ⟨h3, _⟩ | ⟨_, _, h5⟩
  ·rw [zM8] at h3; cases h3
  ·exact ⟨none, trivial, h5, h2.none⟩
 rintro - -
 dsimp only [List.nil_append]
 refine zF rfl rfl (zL rfl rfl rfl (zL rfl rfl rfl (zL rfl rfl rfl (zE rfl rfl (zE rfl rfl (zE rfl rfl (zA (zC (zD (zB (jR (X := Nat × Nat) (vs := [_]) (p := fun _ => True) (val := fun g => .agg [.slice (some ⟨g.1, 0, none⟩) 2 2, .int .i64 1, .slice (some ⟨g.2, 0, none⟩) 3 3].toArray) (rs := fun g => [.blk g.2 (.cells (ints hds).toArray 3 (0, 0)), .blk g.1 (.cells (hfs.flatMap Flt.cells).toArray 49 (0, 0))]) rfl rfl F.ent42 (fun a w ha => (kR 1 w).mono (fun e w' h => by obtain ⟨b5, b7, h1, h2⟩ := h; exact ⟨(b5, b7), trivial, h1, h2⟩)) ?_)))))))))))
 rintro ⟨fe, de⟩ -
 dsimp only [List.cons_append, List.nil_append]
 refine zW (v := .tuple #[.int .i64 0, .int .i64 11]) (vs := [_]) rfl rfl F.ent23 (fun a w ha => (zN2 (fA := some ⟨fe, 0, none⟩) (dA := some ⟨de, 0, none⟩) (fc := 2) (dc := 3) (fs := hfs) (days := hds) (kiln := 1) (hv (by decide)) (by decide) w (hR.later ha.below) (fun _ => ⟨fe, 0, none, _, _, rfl, ha.mem_blk (InB.mem (b := fe)), by decide⟩) (zM ha (cells := Flt.cells) (size := 4) (b := fe) (l := hfs) (fun _ => rfl) rfl) (zM ha (cells := ncell) (size := 1) (b := de) (l := hds) (fun _ => rfl) rfl)).mono (fun e w' h => ⟨zS9 (P := fun d => e = .returned (.tuple #[.int .i64 (d : Int), .int .i64 0])) h.1, h.2⟩)) ?_
 refine zF rfl rfl (zL rfl rfl rfl (zL rfl rfl rfl (zE rfl rfl (zE rfl rfl (zA (zC (zD (zD (zB (zF rfl rfl (zI (v := .bool false) rfl rfl rfl (fun w => by rw [jP, decide_eq_false (by decide)]) ?_)))))))))))
 refine zF rfl rfl (zJ rfl rfl (zF rfl rfl (zJ rfl rfl (zI (v := .bool false) rfl rfl rfl (fun w => by rw [jP, decide_eq_false (by decide)]) ?_))))
 refine zY rfl rfl rfl (zF rfl rfl (zJ rfl rfl (zF rfl rfl (zJ rfl rfl (zI (v := .bool false) rfl rfl rfl (fun w => by rw [jP, decide_eq_false (by decide)]) ?_)))))
 refine zY rfl rfl rfl (zF rfl rfl (zJ rfl rfl (zF rfl rfl (zJ rfl rfl (zI (v := .bool false) rfl rfl rfl (fun w => by rw [jP, decide_eq_false (by decide)]) ?_)))))
 refine zY rfl rfl rfl (zF rfl rfl (zJ rfl rfl (zF rfl rfl (zJ rfl rfl (jW (vs := [(0, _), (1, _)]) rfl rfl Try.underlying22 F.ti3 rfl rfl rfl ?_)))))
 intro b146
 refine zJ rfl rfl (jW (vs := [(0, _), (1, _)]) rfl rfl Try.underlying22 F.ti3 rfl rfl rfl ?_)
 intro b147
 refine zJ rfl rfl (jW (vs := [(0, _), (1, _)]) rfl rfl Try.underlying29 F.ti22 rfl rfl rfl ?_)
 intro b148
 refine zJ rfl rfl ?_
 refine zW (v := .bool true) (vs := [_, _]) rfl rfl F.ent21 (fun a w ha => (zCf (A := AA) (B := some ⟨b148, 0, none⟩) (ca := cA) (cb := 2) (l := [(p1, q1, [0, 0]), (p2, q2, [0, 0])]) (m := [(some ⟨b146, 0, none⟩, 2, [0, 0]), (some ⟨b147, 0, none⟩, 2, [0, 0])]) (by show 2 < 1000000; decide) (by show 2 < 1000000; decide) (by intro x hx; simp only [List.mem_cons, List.not_mem_nil, or_false] at hx; rcases hx with rfl | rfl <;> (dsimp only; decide)) (by intro x hx; simp only [List.mem_cons, List.not_mem_nil, or_false] at hx; rcases hx with rfl | rfl <;> (dsimp only; decide)) w ⟨qD ha (cells := fun m => [zmcell m]) (size := 1) (e := 22) (c := cA) (n := 2) (l := [(p1, q1, [0, 0]), (p2, q2, [0, 0])]) (fun _ => rfl) (InR.mem (A := AA)) rfl, fun m hm => by
   simp only [List.mem_cons, List.not_mem_nil, or_false] at hm
   rcases hm with rfl | rfl
   ·exact qD ha (cells := zcell) (size := 1) (e := 3) (c := q1) (n := 2) (l := [0, 0]) (fun _ => rfl) (InR.mem (A := p1)) rfl
   ·exact qD ha (cells := zcell) (size := 1) (e := 3) (c := q2) (n := 2) (l := [0, 0]) (fun _ => rfl) (InR.mem (A := p2)) rfl⟩ ⟨zM ha (cells := fun m => [zmcell m]) (size := 1) (b := b148) (l := [(some ⟨b146, 0, none⟩, 2, [0, 0]), (some ⟨b147, 0, none⟩, 2, [0, 0])]) (fun _ => rfl) rfl, fun m hm => by
   simp only [List.mem_cons, List.not_mem_nil, or_false] at hm
   rcases hm with rfl | rfl
   ·exact zM ha (cells := zcell) (size := 1) (b := b146) (l := [0, 0]) (fun _ => rfl) rfl
   ·exact zM ha (cells := zcell) (size := 1) (b := b147) (l := [0, 0]) (fun _ => rfl) rfl⟩).mono (fun e w' h => ⟨h.1.trans (by rfl), h.2⟩)) ?_
 refine zJ rfl rfl (kO rfl rfl (zY rfl rfl rfl (zA (zC (jL rfl (zQ (zC (zD (zB (jW (vs := [(0, _), (1, _), (2, _)]) rfl rfl Try.underlying22 F.ti3 rfl rfl rfl ?_))))))))))
 intro b152
 refine jW (vs := [(0, _), (1, _), (2, _)]) rfl rfl Try.underlying22 F.ti3 rfl rfl rfl ?_
 intro b153
 refine zE rfl rfl (zE rfl rfl (zA (zC (zD (zD (zB (zE rfl rfl (zA (zC (zV (zHi 3 ?_)))))))))))
 refine zD (zD (zB (zF rfl rfl (zF rfl rfl (jX rfl rfl Try.underlying22 ?_)))))
 refine zI (v := .bool true) rfl rfl rfl (fun w => by rw [kG, decide_eq_true (by decide)]) ?_
 refine zA (zC (jZ rfl (zQ (zC (zD (zV (zD (zB (jR (X := Nat × Nat) (vs := [_]) (p := fun _ => True) (val := fun g => .agg [.slice (some ⟨g.1, 0, none⟩) 2 2, .int .i64 1, .slice (some ⟨g.2, 0, none⟩) 3 3].toArray) (rs := fun g => [.blk g.2 (.cells (ints hds).toArray 3 (0, 0)), .blk g.1 (.cells (hfs.flatMap Flt.cells).toArray 49 (0, 0))]) rfl rfl F.ent42 (fun a w ha => (kR 1 w).mono (fun e w' h => by obtain ⟨b5, b7, h1, h2⟩ := h; exact ⟨(b5, b7), trivial, h1, h2⟩)) ?_)))))))))
 rintro ⟨fA0, dA0⟩ -
 dsimp only [List.cons_append, List.nil_append]
 refine zF rfl rfl ?_
 refine zW (v := .tuple #[.int .i64 4, .int .i64 0]) (vs := [_, _]) rfl rfl F.ent39 (fun a w ha => (zHf (fA := some ⟨fA0, 0, none⟩) (dA := some ⟨dA0, 0, none⟩) (fc := 2) (dc := 3) (fs := hfs) (days := hds) (day := 0) (kiln := 1) (hv (by decide)) (by decide) (by decide) w (hR.later ha.below) (fun _ => ⟨fA0, 0, none, _, _, rfl, ha.mem_blk (InB.mem (b := fA0)), by decide⟩) (zM ha (cells := Flt.cells) (size := 4) (b := fA0) (l := hfs) (fun _ => rfl) rfl) (zM ha (cells := ncell) (size := 1) (b := dA0) (l := hds) (fun _ => rfl) rfl)).mono (fun e w' h => by
   obtain ⟨⟨n9, e9, h1, h2⟩, h3⟩ := h
   obtain ⟨rfl, rfl⟩ := zAp h1 zXy
   exact ⟨h2, h3⟩)) ?_
 refine zF rfl rfl (zL rfl rfl rfl (zL rfl rfl rfl (zE rfl rfl (zE rfl rfl (zA (zC (zD (zB (jR (X := Nat × Nat) (vs := [_]) (p := fun _ => True) (val := fun g => .agg [.slice (some ⟨g.1, 0, none⟩) 2 2, .int .i64 1, .slice (some ⟨g.2, 0, none⟩) 3 3].toArray) (rs := fun g => [.blk g.2 (.cells (ints hds).toArray 3 (0, 0)), .blk g.1 (.cells (hfs.flatMap Flt.cells).toArray 49 (0, 0))]) rfl rfl F.ent42 (fun a w ha => (kR 1 w).mono (fun e w' h => by obtain ⟨b5, b7, h1, h2⟩ := h; exact ⟨(b5, b7), trivial, h1, h2⟩)) ?_)))))))))
 rintro ⟨fB0, dB0⟩ -
 dsimp only [List.cons_append, List.nil_append]
 refine zF rfl rfl (zW (v := .tuple #[.int .i64 3, .int .i64 0]) (vs := [_, _]) rfl rfl F.ent40 (fun a w ha => (zFi (fA := some ⟨fB0, 0, none⟩) (dA := some ⟨dB0, 0, none⟩) (fc := 2) (dc := 3) (fs := hfs) (days := hds) (kiln := 1) (d := 0) (hv (by decide)) (by decide) w (zM ha (cells := Flt.cells) (size := 4) (b := fB0) (l := hfs) (fun _ => rfl) rfl) (zM ha (cells := ncell) (size := 1) (b := dB0) (l := hds) (fun _ => rfl) rfl)).mono (fun e w' h => ⟨h.1.trans (by rw [zXb]; rfl), h.2⟩)) ?_)
 refine zF rfl rfl (zL rfl rfl rfl (zL rfl rfl rfl (zE rfl rfl (zE rfl rfl (zA (zC (zD (zB (zF rfl rfl (zI (v := .bool false) rfl rfl rfl (fun w => by rw [jP, decide_eq_false (by decide)]) ?_))))))))))
 refine zF rfl rfl (zJ rfl rfl (zF rfl rfl (zJ rfl rfl (zI (v := .bool false) rfl rfl rfl (fun w => by rw [jP, decide_eq_false (by decide)]) ?_))))
 refine zY rfl rfl rfl (zF rfl rfl (zJ rfl rfl (zF rfl rfl (zJ rfl rfl (zF rfl rfl (zJ rfl rfl (zF rfl rfl (zJ rfl rfl (qE (j := 0) rfl rfl rfl Try.underlying22 F.ti3 rfl (by decide) ?_)))))))))
 refine zJ rfl rfl (kQ (v := .int .i64 4) rfl rfl F.one3 (fun a w ha => jU (ha.mem_blk (InB.mem (b := b152))) rfl) ?_)
 refine zJ rfl rfl (zI (v := .bool false) rfl rfl rfl (fun w => by rw [jP, decide_eq_false (by decide)]) ?_)
 refine zY rfl rfl rfl (zF rfl rfl (zJ rfl rfl (zF rfl rfl (zJ rfl rfl (zF rfl rfl (zJ rfl rfl (zF rfl rfl (zJ rfl rfl (qE (j := 0) rfl rfl rfl Try.underlying22 F.ti3 rfl (by decide) ?_)))))))))
 refine zJ rfl rfl (kQ (v := .int .i64 3) rfl rfl F.one3 (fun a w ha => jU (ha.mem_blk (InB.mem (b := b153))) rfl) ?_)
 refine zJ rfl rfl (zI (v := .bool false) rfl rfl rfl (fun w => by rw [jP, decide_eq_false (by decide)]) ?_)
 refine zY rfl rfl rfl (zA (zC (jL rfl (zQ (zO (zC (zB (zF rfl rfl (zI (v := .int .i64 1) rfl rfl rfl (fun w => jO w rfl) ?_)))))))))
 refine zE rfl rfl (zA (vX ?_))
 refine zD (zD (zB (zF rfl rfl (zF rfl rfl (jX rfl rfl Try.underlying22 ?_)))))
 refine zI (v := .bool true) rfl rfl rfl (fun w => by rw [kG, decide_eq_true (by decide)]) ?_
 refine zA (zC (jZ rfl (zQ (zC (zD (zV (zD (zB (jR (X := Nat × Nat) (vs := [_]) (p := fun _ => True) (val := fun g => .agg [.slice (some ⟨g.1, 0, none⟩) 2 2, .int .i64 1, .slice (some ⟨g.2, 0, none⟩) 3 3].toArray) (rs := fun g => [.blk g.2 (.cells (ints hds).toArray 3 (0, 0)), .blk g.1 (.cells (hfs.flatMap Flt.cells).toArray 49 (0, 0))]) rfl rfl F.ent42 (fun a w ha => (kR 1 w).mono (fun e w' h => by obtain ⟨b5, b7, h1, h2⟩ := h; exact ⟨(b5, b7), trivial, h1, h2⟩)) ?_)))))))))
 rintro ⟨fA1, dA1⟩ -
 dsimp only [List.cons_append, List.nil_append]
 refine zF rfl rfl ?_
 refine zW (v := .tuple #[.int .i64 2, .int .i64 0]) (vs := [_, _]) rfl rfl F.ent39 (fun a w ha => (zHf (fA := some ⟨fA1, 0, none⟩) (dA := some ⟨dA1, 0, none⟩) (fc := 2) (dc := 3) (fs := hfs) (days := hds) (day := 1) (kiln := 1) (hv (by decide)) (by decide) (by decide) w (hR.later ha.below) (fun _ => ⟨fA1, 0, none, _, _, rfl, ha.mem_blk (InB.mem (b := fA1)), by decide⟩) (zM ha (cells := Flt.cells) (size := 4) (b := fA1) (l := hfs) (fun _ => rfl) rfl) (zM ha (cells := ncell) (size := 1) (b := dA1) (l := hds) (fun _ => rfl) rfl)).mono (fun e w' h => by
   obtain ⟨⟨n9, e9, h1, h2⟩, h3⟩ := h
   obtain ⟨rfl, rfl⟩ := zAp h1 zYa
   exact ⟨h2, h3⟩)) ?_
 refine zF rfl rfl (zL rfl rfl rfl (zL rfl rfl rfl (zE rfl rfl (zE rfl rfl (zA (zC (zD (zB (jR (X := Nat × Nat) (vs := [_]) (p := fun _ => True) (val := fun g => .agg [.slice (some ⟨g.1, 0, none⟩) 2 2, .int .i64 1, .slice (some ⟨g.2, 0, none⟩) 3 3].toArray) (rs := fun g => [.blk g.2 (.cells (ints hds).toArray 3 (0, 0)), .blk g.1 (.cells (hfs.flatMap Flt.cells).toArray 49 (0, 0))]) rfl rfl F.ent42 (fun a w ha => (kR 1 w).mono (fun e w' h => by obtain ⟨b5, b7, h1, h2⟩ := h; exact ⟨(b5, b7), trivial, h1, h2⟩)) ?_)))))))))
 rintro ⟨fB1, dB1⟩ -
 dsimp only [List.cons_append, List.nil_append]
 refine zF rfl rfl (zW (v := .tuple #[.int .i64 2, .int .i64 0]) (vs := [_, _]) rfl rfl F.ent40 (fun a w ha => (zFi (fA := some ⟨fB1, 0, none⟩) (dA := some ⟨dB1, 0, none⟩) (fc := 2) (dc := 3) (fs := hfs) (days := hds) (kiln := 1) (d := 1) (hv (by decide)) (by decide) w (zM ha (cells := Flt.cells) (size := 4) (b := fB1) (l := hfs) (fun _ => rfl) rfl) (zM ha (cells := ncell) (size := 1) (b := dB1) (l := hds) (fun _ => rfl) rfl)).mono (fun e w' h => ⟨h.1.trans (by rw [zX5]; rfl), h.2⟩)) ?_)
 refine zF rfl rfl (zL rfl rfl rfl (zL rfl rfl rfl (zE rfl rfl (zE rfl rfl (zA (zC (zD (zB (zF rfl rfl (zI (v := .bool false) rfl rfl rfl (fun w => by rw [jP, decide_eq_false (by decide)]) ?_))))))))))
 refine zF rfl rfl (zJ rfl rfl (zF rfl rfl (zJ rfl rfl (zI (v := .bool false) rfl rfl rfl (fun w => by rw [jP, decide_eq_false (by decide)]) ?_))))
 refine zY rfl rfl rfl (zF rfl rfl (zJ rfl rfl (zF rfl rfl (zJ rfl rfl (zF rfl rfl (zJ rfl rfl (zF rfl rfl (zJ rfl rfl (qE (j := 1) rfl rfl rfl Try.underlying22 F.ti3 rfl (by decide) ?_)))))))))
 refine zJ rfl rfl (kQ (v := .int .i64 2) rfl rfl F.one3 (fun a w ha => jU (ha.mem_blk (InB.mem (b := b152))) rfl) ?_)
 refine zJ rfl rfl (zI (v := .bool false) rfl rfl rfl (fun w => by rw [jP, decide_eq_false (by decide)]) ?_)
 refine zY rfl rfl rfl (zF rfl rfl (zJ rfl rfl (zF rfl rfl (zJ rfl rfl (zF rfl rfl (zJ rfl rfl (zF rfl rfl (zJ rfl rfl (qE (j := 1) rfl rfl rfl Try.underlying22 F.ti3 rfl (by decide) ?_)))))))))
 refine zJ rfl rfl (kQ (v := .int .i64 2) rfl rfl F.one3 (fun a w ha => jU (ha.mem_blk (InB.mem (b := b153))) rfl) ?_)
 refine zJ rfl rfl (zI (v := .bool false) rfl rfl rfl (fun w => by rw [jP, decide_eq_false (by decide)]) ?_)
 refine zY rfl rfl rfl (zA (zC (jL rfl (zQ (zO (zC (zB (zF rfl rfl (zI (v := .int .i64 2) rfl rfl rfl (fun w => jO w rfl) ?_)))))))))
 refine zE rfl rfl (zA (vX ?_))
 refine zD (zD (zB (zF rfl rfl (zF rfl rfl (jX rfl rfl Try.underlying22 ?_)))))
 refine zI (v := .bool true) rfl rfl rfl (fun w => by rw [kG, decide_eq_true (by decide)]) ?_
 refine zA (zC (jZ rfl (zQ (zC (zD (zV (zD (zB (jR (X := Nat × Nat) (vs := [_]) (p := fun _ => True) (val := fun g => .agg [.slice (some ⟨g.1, 0, none⟩) 2 2, .int .i64 1, .slice (some ⟨g.2, 0, none⟩) 3 3].toArray) (rs := fun g => [.blk g.2 (.cells (ints hds).toArray 3 (0, 0)), .blk g.1 (.cells (hfs.flatMap Flt.cells).toArray 49 (0, 0))]) rfl rfl F.ent42 (fun a w ha => (kR 1 w).mono (fun e w' h => by obtain ⟨b5, b7, h1, h2⟩ := h; exact ⟨(b5, b7), trivial, h1, h2⟩)) ?_)))))))))
 rintro ⟨fA2, dA2⟩ -
 dsimp only [List.cons_append, List.nil_append]
 refine zF rfl rfl ?_
 refine zW (v := .tuple #[.int .i64 3, .int .i64 0]) (vs := [_, _]) rfl rfl F.ent39 (fun a w ha => (zHf (fA := some ⟨fA2, 0, none⟩) (dA := some ⟨dA2, 0, none⟩) (fc := 2) (dc := 3) (fs := hfs) (days := hds) (day := 2) (kiln := 1) (hv (by decide)) (by decide) (by decide) w (hR.later ha.below) (fun _ => ⟨fA2, 0, none, _, _, rfl, ha.mem_blk (InB.mem (b := fA2)), by decide⟩) (zM ha (cells := Flt.cells) (size := 4) (b := fA2) (l := hfs) (fun _ => rfl) rfl) (zM ha (cells := ncell) (size := 1) (b := dA2) (l := hds) (fun _ => rfl) rfl)).mono (fun e w' h => by
   obtain ⟨⟨n9, e9, h1, h2⟩, h3⟩ := h
   obtain ⟨rfl, rfl⟩ := zAp h1 zXs
   exact ⟨h2, h3⟩)) ?_
 refine zF rfl rfl (zL rfl rfl rfl (zL rfl rfl rfl (zE rfl rfl (zE rfl rfl (zA (zC (zD (zB (jR (X := Nat × Nat) (vs := [_]) (p := fun _ => True) (val := fun g => .agg [.slice (some ⟨g.1, 0, none⟩) 2 2, .int .i64 1, .slice (some ⟨g.2, 0, none⟩) 3 3].toArray) (rs := fun g => [.blk g.2 (.cells (ints hds).toArray 3 (0, 0)), .blk g.1 (.cells (hfs.flatMap Flt.cells).toArray 49 (0, 0))]) rfl rfl F.ent42 (fun a w ha => (kR 1 w).mono (fun e w' h => by obtain ⟨b5, b7, h1, h2⟩ := h; exact ⟨(b5, b7), trivial, h1, h2⟩)) ?_)))))))))
 rintro ⟨fB2, dB2⟩ -
 dsimp only [List.cons_append, List.nil_append]
 refine zF rfl rfl (zW (v := .tuple #[.int .i64 3, .int .i64 0]) (vs := [_, _]) rfl rfl F.ent40 (fun a w ha => (zFi (fA := some ⟨fB2, 0, none⟩) (dA := some ⟨dB2, 0, none⟩) (fc := 2) (dc := 3) (fs := hfs) (days := hds) (kiln := 1) (d := 2) (hv (by decide)) (by decide) w (zM ha (cells := Flt.cells) (size := 4) (b := fB2) (l := hfs) (fun _ => rfl) rfl) (zM ha (cells := ncell) (size := 1) (b := dB2) (l := hds) (fun _ => rfl) rfl)).mono (fun e w' h => ⟨h.1.trans (by rw [zYg]; rfl), h.2⟩)) ?_)
 refine zF rfl rfl (zL rfl rfl rfl (zL rfl rfl rfl (zE rfl rfl (zE rfl rfl (zA (zC (zD (zB (zF rfl rfl (zI (v := .bool false) rfl rfl rfl (fun w => by rw [jP, decide_eq_false (by decide)]) ?_))))))))))
 refine zF rfl rfl (zJ rfl rfl (zF rfl rfl (zJ rfl rfl (zI (v := .bool false) rfl rfl rfl (fun w => by rw [jP, decide_eq_false (by decide)]) ?_))))
 refine zY rfl rfl rfl (zF rfl rfl (zJ rfl rfl (zF rfl rfl (zJ rfl rfl (zF rfl rfl (zJ rfl rfl (zF rfl rfl (zJ rfl rfl (qE (j := 2) rfl rfl rfl Try.underlying22 F.ti3 rfl (by decide) ?_)))))))))
 refine zJ rfl rfl (kQ (v := .int .i64 3) rfl rfl F.one3 (fun a w ha => jU (ha.mem_blk (InB.mem (b := b152))) rfl) ?_)
 refine zJ rfl rfl (zI (v := .bool false) rfl rfl rfl (fun w => by rw [jP, decide_eq_false (by decide)]) ?_)
 refine zY rfl rfl rfl (zF rfl rfl (zJ rfl rfl (zF rfl rfl (zJ rfl rfl (zF rfl rfl (zJ rfl rfl (zF rfl rfl (zJ rfl rfl (qE (j := 2) rfl rfl rfl Try.underlying22 F.ti3 rfl (by decide) ?_)))))))))
 refine zJ rfl rfl (kQ (v := .int .i64 3) rfl rfl F.one3 (fun a w ha => jU (ha.mem_blk (InB.mem (b := b153))) rfl) ?_)
 refine zJ rfl rfl (zI (v := .bool false) rfl rfl rfl (fun w => by rw [jP, decide_eq_false (by decide)]) ?_)
 refine zY rfl rfl rfl (zA (zC (jL rfl (zQ (zO (zC (zB (zF rfl rfl (zI (v := .int .i64 3) rfl rfl rfl (fun w => jO w rfl) ?_)))))))))
 refine zE rfl rfl (zA (vX ?_))
 refine zD (zD (zB (zF rfl rfl (zF rfl rfl (jX rfl rfl Try.underlying22 ?_)))))
 refine zI (v := .bool false) rfl rfl rfl (fun w => by rw [kG, decide_eq_false (by decide)]) ?_
 refine zA (zC (jL rfl (kI (zT (zT (jK (zC (zD (zB (jR (X := Nat × Nat) (vs := [_]) (p := fun _ => True) (val := fun g => .agg [.slice (some ⟨g.1, 0, none⟩) 2 2, .int .i64 0, .slice (some ⟨g.2, 0, none⟩) 3 3].toArray) (rs := fun g => [.blk g.2 (.cells (ints hds).toArray 3 (0, 0)), .blk g.1 (.cells (hfs.flatMap Flt.cells).toArray 49 (0, 0))]) rfl rfl F.ent42 (fun a w ha => (kR 0 w).mono (fun e w' h => by obtain ⟨b5, b7, h1, h2⟩ := h; exact ⟨(b5, b7), trivial, h1, h2⟩)) ?_))))))))))
 rintro ⟨fh, dh⟩ -
 dsimp only [List.cons_append, List.nil_append]
 refine zW (v := .tuple #[.int .i64 1, .int .i64 0]) (vs := [_, _]) rfl rfl F.ent39 (fun a w ha => (zHf (fA := some ⟨fh, 0, none⟩) (dA := some ⟨dh, 0, none⟩) (fc := 2) (dc := 3) (fs := hfs) (days := hds) (day := 2) (kiln := 0) (hv (by decide)) (by decide) (by decide) w (hR.later ha.below) (fun _ => ⟨fh, 0, none, _, _, rfl, ha.mem_blk (InB.mem (b := fh)), by decide⟩) (zM ha (cells := Flt.cells) (size := 4) (b := fh) (l := hfs) (fun _ => rfl) rfl) (zM ha (cells := ncell) (size := 1) (b := dh) (l := hds) (fun _ => rfl) rfl)).mono (fun e w' h => by
   obtain ⟨⟨n9, e9, h1, h2⟩, h3⟩ := h
   obtain ⟨rfl, rfl⟩ := zAp h1 zWz
   exact ⟨h2, h3⟩)) ?_
 refine zF rfl rfl (zL rfl rfl rfl (zL rfl rfl rfl (zE rfl rfl (zE rfl rfl (zA (zC (zD (zB (jR (X := Nat × Nat) (vs := [_]) (p := fun _ => True) (val := fun g => .agg [.slice (some ⟨g.1, 0, none⟩) 2 2, .int .i64 0, .slice (some ⟨g.2, 0, none⟩) 3 3].toArray) (rs := fun g => [.blk g.2 (.cells (ints hds).toArray 3 (0, 0)), .blk g.1 (.cells (hfs.flatMap Flt.cells).toArray 49 (0, 0))]) rfl rfl F.ent42 (fun a w ha => (kR 0 w).mono (fun e w' h => by obtain ⟨b5, b7, h1, h2⟩ := h; exact ⟨(b5, b7), trivial, h1, h2⟩)) ?_)))))))))
 rintro ⟨fi, di⟩ -
 dsimp only [List.cons_append, List.nil_append]
 refine zW (v := .tuple #[.int .i64 1, .int .i64 0]) (vs := [_, _]) rfl rfl F.ent40 (fun a w ha => (zFi (fA := some ⟨fi, 0, none⟩) (dA := some ⟨di, 0, none⟩) (fc := 2) (dc := 3) (fs := hfs) (days := hds) (kiln := 0) (d := 2) (hv (by decide)) (by decide) w (zM ha (cells := Flt.cells) (size := 4) (b := fi) (l := hfs) (fun _ => rfl) rfl) (zM ha (cells := ncell) (size := 1) (b := di) (l := hds) (fun _ => rfl) rfl)).mono (fun e w' h => ⟨h.1.trans (by rw [zWc]; rfl), h.2⟩)) ?_
 refine zF rfl rfl (zL rfl rfl rfl (zL rfl rfl rfl (zE rfl rfl (zE rfl rfl (zA (zC (zD (zB (jR (X := Nat × Nat) (vs := [_]) (p := fun _ => True) (val := fun g => .agg [.slice (some ⟨g.1, 0, none⟩) 2 2, .int .i64 1, .slice (some ⟨g.2, 0, none⟩) 3 3].toArray) (rs := fun g => [.blk g.2 (.cells (ints hds).toArray 3 (0, 0)), .blk g.1 (.cells (hfs.flatMap Flt.cells).toArray 49 (0, 0))]) rfl rfl F.ent42 (fun a w ha => (kR 1 w).mono (fun e w' h => by obtain ⟨b5, b7, h1, h2⟩ := h; exact ⟨(b5, b7), trivial, h1, h2⟩)) ?_)))))))))
 rintro ⟨fj, dj⟩ -
 dsimp only [List.cons_append, List.nil_append]
 refine zW (v := .tuple #[.int .i64 2, .int .i64 0]) (vs := [_]) rfl rfl F.ent37 (fun a w ha => (zPl (fA := some ⟨fj, 0, none⟩) (dA := some ⟨dj, 0, none⟩) (fc := 2) (dc := 3) (fs := hfs) (days := hds) (kiln := 1) (hv (by decide)) (by decide) w (hR.later ha.below) (fun _ => ⟨fj, 0, none, _, _, rfl, ha.mem_blk (InB.mem (b := fj)), by decide⟩) (zM ha (cells := Flt.cells) (size := 4) (b := fj) (l := hfs) (fun _ => rfl) rfl) (zM ha (cells := ncell) (size := 1) (b := dj) (l := hds) (fun _ => rfl) rfl)).mono (fun e w' h => by
   obtain ⟨⟨n9, e9, h1, h2⟩, h3⟩ := h
   obtain ⟨rfl, rfl⟩ := zAp h1 zYq
   exact ⟨h2, h3⟩)) ?_
 refine zF rfl rfl (zL rfl rfl rfl (zL rfl rfl rfl (zE rfl rfl (zE rfl rfl (zA (zC (zD (zB (jR (X := Nat × Nat) (vs := []) (p := fun _ => True) (val := fun g => .agg [.slice (some ⟨g.1, 0, none⟩) 2 2, .int .i64 1, .slice (some ⟨g.2, 0, none⟩) 2 2].toArray) (rs := fun g => [.blk g.2 (.cells (ints tds).toArray 3 (0, 0)), .blk g.1 (.cells (tfs.flatMap Flt.cells).toArray 49 (0, 0))]) rfl rfl F.ent45 (fun a w ha => (zDj w).mono (fun e w' h => by obtain ⟨b5, b7, h1, h2⟩ := h; exact ⟨(b5, b7), trivial, h1, h2⟩)) ?_)))))))))
 rintro ⟨fl, dl⟩ -
 dsimp only [List.cons_append, List.nil_append]
 refine zW (v := .tuple #[.int .i64 3, .int .i64 0]) (vs := [_]) rfl rfl F.ent37 (fun a w ha => (zPl (fA := some ⟨fl, 0, none⟩) (dA := some ⟨dl, 0, none⟩) (fc := 2) (dc := 2) (fs := tfs) (days := tds) (kiln := 1) tv1 (by decide) w (hR.later ha.below) (fun _ => ⟨fl, 0, none, _, _, rfl, ha.mem_blk (InB.mem (b := fl)), by decide⟩) (zM ha (cells := Flt.cells) (size := 4) (b := fl) (l := tfs) (fun _ => rfl) rfl) (zM ha (cells := ncell) (size := 1) (b := dl) (l := tds) (fun _ => rfl) rfl)).mono (fun e w' h => by
   obtain ⟨⟨n9, e9, h1, h2⟩, h3⟩ := h
   obtain ⟨rfl, rfl⟩ := zAp h1 zXz
   exact ⟨h2, h3⟩)) ?_
 refine zF rfl rfl (zL rfl rfl rfl (zL rfl rfl rfl (zE rfl rfl (zE rfl rfl (zA (zC (zD (zD (zB (zF rfl rfl (zI (v := .bool false) rfl rfl rfl (fun w => by rw [jP, decide_eq_false (by decide)]) ?_)))))))))))
 refine zF rfl rfl (zJ rfl rfl (zF rfl rfl (zJ rfl rfl (zI (v := .bool false) rfl rfl rfl (fun w => by rw [jP, decide_eq_false (by decide)]) ?_))))
 refine zY rfl rfl rfl (zF rfl rfl (zJ rfl rfl (zF rfl rfl (zJ rfl rfl (zI (v := .bool false) rfl rfl rfl (fun w => by rw [jP, decide_eq_false (by decide)]) ?_)))))
 refine zY rfl rfl rfl (zF rfl rfl (zJ rfl rfl (zF rfl rfl (zJ rfl rfl (zI (v := .bool false) rfl rfl rfl (fun w => by rw [jP, decide_eq_false (by decide)]) ?_)))))
 refine zY rfl rfl rfl (zF rfl rfl (zJ rfl rfl (zF rfl rfl (zJ rfl rfl (zI (v := .bool false) rfl rfl rfl (fun w => by rw [jP, decide_eq_false (by decide)]) ?_)))))
 refine zY rfl rfl rfl (zF rfl rfl (zJ rfl rfl (zF rfl rfl (zJ rfl rfl (zI (v := .bool false) rfl rfl rfl (fun w => by rw [jP, decide_eq_false (by decide)]) ?_)))))
 refine zY rfl rfl rfl (zF rfl rfl (zJ rfl rfl (zF rfl rfl (zJ rfl rfl (zI (v := .bool false) rfl rfl rfl (fun w => by rw [jP, decide_eq_false (by decide)]) ?_)))))
 refine zY rfl rfl rfl (zF rfl rfl (zJ rfl rfl (zF rfl rfl (zJ rfl rfl (zI (v := .bool false) rfl rfl rfl (fun w => by rw [jP, decide_eq_false (by decide)]) ?_)))))
 refine zY rfl rfl rfl (zA (zC (jL rfl (zQ (zC (zD (zB (jR (X := Nat × Nat) (vs := [_]) (p := fun _ => True) (val := fun g => .agg [.slice (some ⟨g.1, 0, none⟩) 2 2, .int .i64 1, .slice (some ⟨g.2, 0, none⟩) 3 3].toArray) (rs := fun g => [.blk g.2 (.cells (ints hds).toArray 3 (0, 0)), .blk g.1 (.cells (hfs.flatMap Flt.cells).toArray 49 (0, 0))]) rfl rfl F.ent42 (fun a w ha => (kR 1 w).mono (fun e w' h => by obtain ⟨b5, b7, h1, h2⟩ := h; exact ⟨(b5, b7), trivial, h1, h2⟩)) ?_))))))))
 rintro ⟨fm, dm⟩ -
 dsimp only [List.cons_append, List.nil_append]
 refine jR (X := Option Addr × Nat) (vs := [_]) (p := fun _ => True) (val := fun g => .tuple #[.slice g.1 2 g.2, .int .i64 0]) (rs := fun g => [.row 3 1 g.1 2 g.2 (ints [0, 1])]) rfl rfl F.ent34 (fun a w ha => (zGm (fA := some ⟨fm, 0, none⟩) (dA := some ⟨dm, 0, none⟩) (fc := 2) (dc := 3) (fs := hfs) (days := hds) (kiln := 1) (hv (by decide)) (by decide) w (zM ha (cells := Flt.cells) (size := 4) (b := fm) (l := hfs) (fun _ => rfl) rfl) (zM ha (cells := ncell) (size := 1) (b := dm) (l := hds) (fun _ => rfl) rfl)).mono (fun e w' h => ?_)) ?_
 ·obtain ⟨oA, oc, h1, h2⟩ := h
  rw [if_pos zIn, zTk] at h1
  rw [if_pos zIn, if_pos zIn, zTk] at h2
  exact ⟨(oA, oc), trivial, h1, h2⟩
 rintro ⟨N1, M1⟩ -
 dsimp only [List.cons_append, List.nil_append]
 refine zF rfl rfl (zL rfl rfl rfl (zL rfl rfl rfl (zE rfl rfl (zE rfl rfl (zA (zC (zD (zB (jR (X := Nat × Nat) (vs := []) (p := fun _ => True) (val := fun g => .agg [.slice (some ⟨g.1, 0, none⟩) 2 2, .int .i64 1, .slice (some ⟨g.2, 0, none⟩) 2 2].toArray) (rs := fun g => [.blk g.2 (.cells (ints tds).toArray 3 (0, 0)), .blk g.1 (.cells (tfs.flatMap Flt.cells).toArray 49 (0, 0))]) rfl rfl F.ent45 (fun a w ha => (zDj w).mono (fun e w' h => by obtain ⟨b5, b7, h1, h2⟩ := h; exact ⟨(b5, b7), trivial, h1, h2⟩)) ?_)))))))))
 rintro ⟨fo, do_⟩ -
 dsimp only [List.cons_append, List.nil_append]
 refine jR (X := Option Addr × Nat) (vs := [_]) (p := fun _ => True) (val := fun g => .tuple #[.slice g.1 2 g.2, .int .i64 0]) (rs := fun g => [.row 3 1 g.1 2 g.2 (ints [0, 1])]) rfl rfl F.ent34 (fun a w ha => (zGm (fA := some ⟨fo, 0, none⟩) (dA := some ⟨do_, 0, none⟩) (fc := 2) (dc := 2) (fs := tfs) (days := tds) (kiln := 1) tv1 (by decide) w (zM ha (cells := Flt.cells) (size := 4) (b := fo) (l := tfs) (fun _ => rfl) rfl) (zM ha (cells := ncell) (size := 1) (b := do_) (l := tds) (fun _ => rfl) rfl)).mono (fun e w' h => ?_)) ?_
 ·obtain ⟨oA, oc, h1, h2⟩ := h
  rw [if_pos zIt, zTl] at h1
  rw [if_pos zIt, if_pos zIt, zTl] at h2
  exact ⟨(oA, oc), trivial, h1, h2⟩
 rintro ⟨N2, M2⟩ -
 dsimp only [List.cons_append, List.nil_append]
 refine zF rfl rfl (zL rfl rfl rfl (zL rfl rfl rfl (zE rfl rfl (zE rfl rfl (zA (zC (zD (zB (jR (X := Nat × Nat) (vs := [_]) (p := fun _ => True) (val := fun g => .agg [.slice (some ⟨g.1, 0, none⟩) 2 2, .int .i64 0, .slice (some ⟨g.2, 0, none⟩) 3 3].toArray) (rs := fun g => [.blk g.2 (.cells (ints hds).toArray 3 (0, 0)), .blk g.1 (.cells (hfs.flatMap Flt.cells).toArray 49 (0, 0))]) rfl rfl F.ent42 (fun a w ha => (kR 0 w).mono (fun e w' h => by obtain ⟨b5, b7, h1, h2⟩ := h; exact ⟨(b5, b7), trivial, h1, h2⟩)) ?_)))))))))
 rintro ⟨fq, dq⟩ -
 dsimp only [List.cons_append, List.nil_append]
 refine jR (X := Option Addr) (vs := [_]) (p := fun _ => True) (val := fun g => .tuple #[.slice none 0 0, .int .i64 11]) (rs := fun _ => []) rfl rfl F.ent34 (fun a w ha => (zGm (fA := some ⟨fq, 0, none⟩) (dA := some ⟨dq, 0, none⟩) (fc := 2) (dc := 3) (fs := hfs) (days := hds) (kiln := 0) (hv (by decide)) (by decide) w (zM ha (cells := Flt.cells) (size := 4) (b := fq) (l := hfs) (fun _ => rfl) rfl) (zM ha (cells := ncell) (size := 1) (b := dq) (l := hds) (fun _ => rfl) rfl)).mono (fun e w' h => ?_)) ?_
 ·obtain ⟨oA, oc, h1, h2⟩ := h
  rw [if_neg (by rw [zM8]; simp)] at h1
  exact ⟨none, trivial, h1, h2.none⟩
 rintro - -
 dsimp only [List.nil_append]
 refine zF rfl rfl (zL rfl rfl rfl (zL rfl rfl rfl (zE rfl rfl (zA (zC (zD (zD (zB (zF rfl rfl (zI (v := .bool false) rfl rfl rfl (fun w => by rw [jP, decide_eq_false (by decide)]) ?_))))))))))
 refine zF rfl rfl (zJ rfl rfl (zF rfl rfl (zJ rfl rfl (zI (v := .bool false) rfl rfl rfl (fun w => by rw [jP, decide_eq_false (by decide)]) ?_))))
 refine zY rfl rfl rfl (zF rfl rfl (zJ rfl rfl (zF rfl rfl (zJ rfl rfl (zI (v := .bool false) rfl rfl rfl (fun w => by rw [jP, decide_eq_false (by decide)]) ?_)))))
 refine zY rfl rfl rfl (zF rfl rfl (zJ rfl rfl (zF rfl rfl (zJ rfl rfl (jW (vs := [(0, _), (1, _)]) rfl rfl Try.underlying22 F.ti3 rfl rfl rfl ?_)))))
 intro b271
 refine zJ rfl rfl (zW (v := .bool true) (vs := [_, _]) rfl rfl F.ent46 (fun a w ha => (zGw (A := N1) (B := some ⟨b271, 0, none⟩) (ca := M1) (cb := 2) (l := [0, 1]) (m := [0, 1]) (by decide) (by decide) w (qD ha (cells := zcell) (size := 1) (e := 3) (c := M1) (n := 2) (l := [0, 1]) (fun _ => rfl) (InR.mem (A := N1)) rfl) (zM ha (cells := zcell) (size := 1) (b := b271) (l := [0, 1]) (fun _ => rfl) rfl)).mono (fun e w' h => ⟨h.1.trans (by rfl), h.2⟩)) ?_)
 refine zJ rfl rfl (kO rfl rfl (zY rfl rfl rfl (zF rfl rfl (zJ rfl rfl (zF rfl rfl (zJ rfl rfl (jW (vs := [(0, _), (1, _)]) rfl rfl Try.underlying22 F.ti3 rfl rfl rfl ?_)))))))
 intro b277
 refine zJ rfl rfl (zW (v := .bool true) (vs := [_, _]) rfl rfl F.ent46 (fun a w ha => (zGw (A := N2) (B := some ⟨b277, 0, none⟩) (ca := M2) (cb := 2) (l := [0, 1]) (m := [0, 1]) (by decide) (by decide) w (qD ha (cells := zcell) (size := 1) (e := 3) (c := M2) (n := 2) (l := [0, 1]) (fun _ => rfl) (InR.mem (A := N2)) rfl) (zM ha (cells := zcell) (size := 1) (b := b277) (l := [0, 1]) (fun _ => rfl) rfl)).mono (fun e w' h => ⟨h.1.trans (by rfl), h.2⟩)) ?_)
 refine zJ rfl rfl (kO rfl rfl (zY rfl rfl rfl (zA (zC (jL rfl (zQ (zC (zD (zB (jR (X := Nat × Nat) (vs := [_]) (p := fun _ => True) (val := fun g => .agg [.slice (some ⟨g.1, 0, none⟩) 2 2, .int .i64 1, .slice (some ⟨g.2, 0, none⟩) 3 3].toArray) (rs := fun g => [.blk g.2 (.cells (ints hds).toArray 3 (0, 0)), .blk g.1 (.cells (hfs.flatMap Flt.cells).toArray 49 (0, 0))]) rfl rfl F.ent42 (fun a w ha => (kR 1 w).mono (fun e w' h => by obtain ⟨b5, b7, h1, h2⟩ := h; exact ⟨(b5, b7), trivial, h1, h2⟩)) ?_))))))))))
 rintro ⟨fr, dr⟩ -
 dsimp only [List.cons_append, List.nil_append]
 refine zW (v := .tuple #[.int .i64 1, .int .i64 0]) (vs := [_]) rfl rfl F.ent38 (fun a w ha => (zKr (fA := some ⟨fr, 0, none⟩) (dA := some ⟨dr, 0, none⟩) (fc := 2) (dc := 3) (fs := hfs) (days := hds) (kiln := 1) (hv (by decide)) w (zM ha (cells := Flt.cells) (size := 4) (b := fr) (l := hfs) (fun _ => rfl) rfl) (zM ha (cells := ncell) (size := 1) (b := dr) (l := hds) (fun _ => rfl) rfl)).mono (fun e w' h => ⟨h.1.trans (by rw [zTm]; rfl), h.2⟩)) ?_
 refine zF rfl rfl (zL rfl rfl rfl (zL rfl rfl rfl (zE rfl rfl (zE rfl rfl (zA (zC (zD (zB (jR (X := Nat × Nat) (vs := [_]) (p := fun _ => True) (val := fun g => .agg [.slice (some ⟨g.1, 0, none⟩) 2 2, .int .i64 0, .slice (some ⟨g.2, 0, none⟩) 3 3].toArray) (rs := fun g => [.blk g.2 (.cells (ints hds).toArray 3 (0, 0)), .blk g.1 (.cells (hfs.flatMap Flt.cells).toArray 49 (0, 0))]) rfl rfl F.ent42 (fun a w ha => (kR 0 w).mono (fun e w' h => by obtain ⟨b5, b7, h1, h2⟩ := h; exact ⟨(b5, b7), trivial, h1, h2⟩)) ?_)))))))))
 rintro ⟨ft, dt⟩ -
 dsimp only [List.cons_append, List.nil_append]
 refine zW (v := .tuple #[.int .i64 1, .int .i64 0]) (vs := [_]) rfl rfl F.ent38 (fun a w ha => (zKr (fA := some ⟨ft, 0, none⟩) (dA := some ⟨dt, 0, none⟩) (fc := 2) (dc := 3) (fs := hfs) (days := hds) (kiln := 0) (hv (by decide)) w (zM ha (cells := Flt.cells) (size := 4) (b := ft) (l := hfs) (fun _ => rfl) rfl) (zM ha (cells := ncell) (size := 1) (b := dt) (l := hds) (fun _ => rfl) rfl)).mono (fun e w' h => ⟨h.1.trans (by rw [zTm]; rfl), h.2⟩)) ?_
 refine zF rfl rfl (zL rfl rfl rfl (zL rfl rfl rfl (zE rfl rfl (zE rfl rfl (zA (zC (zD (zB (jR (X := Nat × Nat) (vs := []) (p := fun _ => True) (val := fun g => .agg [.slice (some ⟨g.1, 0, none⟩) 2 2, .int .i64 1, .slice (some ⟨g.2, 0, none⟩) 2 2].toArray) (rs := fun g => [.blk g.2 (.cells (ints tds).toArray 3 (0, 0)), .blk g.1 (.cells (tfs.flatMap Flt.cells).toArray 49 (0, 0))]) rfl rfl F.ent45 (fun a w ha => (zDj w).mono (fun e w' h => by obtain ⟨b5, b7, h1, h2⟩ := h; exact ⟨(b5, b7), trivial, h1, h2⟩)) ?_)))))))))
 rintro ⟨fu, du⟩ -
 dsimp only [List.cons_append, List.nil_append]
 refine zW (v := .tuple #[.int .i64 0, .int .i64 0]) (vs := [_]) rfl rfl F.ent38 (fun a w ha => (zKr (fA := some ⟨fu, 0, none⟩) (dA := some ⟨du, 0, none⟩) (fc := 2) (dc := 2) (fs := tfs) (days := tds) (kiln := 1) tv1 w (zM ha (cells := Flt.cells) (size := 4) (b := fu) (l := tfs) (fun _ => rfl) rfl) (zM ha (cells := ncell) (size := 1) (b := du) (l := tds) (fun _ => rfl) rfl)).mono (fun e w' h => ⟨h.1.trans (by rw [zYp]; rfl), h.2⟩)) ?_
 refine zF rfl rfl (zL rfl rfl rfl (zL rfl rfl rfl (zE rfl rfl (zE rfl rfl (zA (zC (zD (zB (jR (X := Nat × Nat) (vs := [_]) (p := fun _ => True) (val := fun g => .agg [.slice (some ⟨g.1, 0, none⟩) 2 2, .int .i64 0, .slice (some ⟨g.2, 0, none⟩) 3 3].toArray) (rs := fun g => [.blk g.2 (.cells (ints hds).toArray 3 (0, 0)), .blk g.1 (.cells (hfs.flatMap Flt.cells).toArray 49 (0, 0))]) rfl rfl F.ent42 (fun a w ha => (kR 0 w).mono (fun e w' h => by obtain ⟨b5, b7, h1, h2⟩ := h; exact ⟨(b5, b7), trivial, h1, h2⟩)) ?_)))))))))
 rintro ⟨fv, dv⟩ -
 dsimp only [List.cons_append, List.nil_append]
 refine kD (vs := [(0, _), (2, _)]) (l' := [_, _, _, _]) rfl rfl F.ti49 F.pl49 (.cons rfl rfl (.cons rfl rfl (.nil _))) rfl ?_
 refine yX (vs := [(0, .agg (Flt.cells ⟨1, 0, 1, false⟩).toArray)]) (ofs1.flatMap Flt.cells) rfl rfl Try.underlying25 F.ti49 rfl rfl rfl (Lit.agg (l1 := Flt.cells ⟨1, 0, 1, false⟩) (l := []) rfl rfl) ?_
 intro o5
 refine zW (v := .tuple #[.int .i64 0, .int .i64 0, .int .i64 11]) (vs := [_, _]) rfl rfl F.ent28 (fun a w ha => (zTj (fA := some ⟨fv, 0, none⟩) (dA := some ⟨dv, 0, none⟩) (fc := 2) (dc := 3) (fs := hfs) (days := hds) (kiln := 0) (oA := some ⟨o5, 0, none⟩) (oc := 1) (os := ofs1) (hv (by decide)) (by decide) (by unfold FltOk; decide) (by decide) (by decide) w (zM ha (cells := Flt.cells) (size := 4) (b := fv) (l := hfs) (fun _ => rfl) rfl) (zM ha (cells := ncell) (size := 1) (b := dv) (l := hds) (fun _ => rfl) rfl) (zM ha (cells := Flt.cells) (size := 4) (b := o5) (l := ofs1) (fun _ => rfl) rfl)).mono (fun e w' h => ⟨h.1.trans (by rw [show ofs1.length = 1 from rfl, zV0]), h.2⟩)) ?_
 refine zF rfl rfl (zL rfl rfl rfl (zL rfl rfl rfl (zL rfl rfl rfl (zE rfl rfl (zA (zC (zD (zB (jR (X := Nat × Nat) (vs := [_]) (p := fun _ => True) (val := fun g => .agg [.slice (some ⟨g.1, 0, none⟩) 2 2, .int .i64 1, .slice (some ⟨g.2, 0, none⟩) 3 3].toArray) (rs := fun g => [.blk g.2 (.cells (ints hds).toArray 3 (0, 0)), .blk g.1 (.cells (hfs.flatMap Flt.cells).toArray 49 (0, 0))]) rfl rfl F.ent42 (fun a w ha => (kR 1 w).mono (fun e w' h => by obtain ⟨b5, b7, h1, h2⟩ := h; exact ⟨(b5, b7), trivial, h1, h2⟩)) ?_)))))))))
 rintro ⟨fx, dx⟩ -
 dsimp only [List.cons_append, List.nil_append]
 refine jR (X := Option Addr) (vs := [_]) (p := fun _ => True) (val := fun g => .tuple #[.slice none 0 0, .int .i64 0, .int .i64 11]) (rs := fun _ => []) rfl rfl F.ent33 (fun a w ha => (zNy (fA := some ⟨fx, 0, none⟩) (dA := some ⟨dx, 0, none⟩) (fc := 2) (dc := 3) (fs := hfs) (days := hds) (kiln := 1) (hv (by decide)) w (zM ha (cells := Flt.cells) (size := 4) (b := fx) (l := hfs) (fun _ => rfl) rfl) (zM ha (cells := ncell) (size := 1) (b := dx) (l := hds) (fun _ => rfl) rfl)).mono (fun e w' h => ?_)) ?_
 ·obtain ⟨oA, oc, mr, h1, h2⟩ := h
  rcases h1 with ⟨h3, _⟩ | ⟨_, _, h5⟩
  ·rw [zSo] at h3; cases h3
  ·exact ⟨none, trivial, h5, h2.none⟩
 rintro - -
 dsimp only [List.nil_append]
 refine zF rfl rfl (zL rfl rfl rfl (zL rfl rfl rfl (zL rfl rfl rfl (zE rfl rfl (zE rfl rfl (zE rfl rfl (zA (zC (zD (zB (jR (X := Nat × Nat) (vs := [_]) (p := fun _ => True) (val := fun g => .agg [.slice (some ⟨g.1, 0, none⟩) 2 2, .int .i64 1, .slice (some ⟨g.2, 0, none⟩) 3 3].toArray) (rs := fun g => [.blk g.2 (.cells (ints hds).toArray 3 (0, 0)), .blk g.1 (.cells (hfs.flatMap Flt.cells).toArray 49 (0, 0))]) rfl rfl F.ent42 (fun a w ha => (kR 1 w).mono (fun e w' h => by obtain ⟨b5, b7, h1, h2⟩ := h; exact ⟨(b5, b7), trivial, h1, h2⟩)) ?_)))))))))))
 rintro ⟨fy, dy⟩ -
 dsimp only [List.cons_append, List.nil_append]
 refine zW (v := .tuple #[.int .i64 2, .int .i64 0]) (vs := [_, _, _]) rfl rfl F.ent19 (fun a w ha => (zE4 (fA := some ⟨fy, 0, none⟩) (dA := some ⟨dy, 0, none⟩) (fc := 2) (dc := 3) (fs := hfs) (days := hds) (kiln := 1) (f := 1) (day := 0) (hv (by decide)) (by decide) (by decide) w (zM ha (cells := Flt.cells) (size := 4) (b := fy) (l := hfs) (fun _ => rfl) rfl) (zM ha (cells := ncell) (size := 1) (b := dy) (l := hds) (fun _ => rfl) rfl)).mono (fun e w' h => ⟨h.1.trans (by rw [zX8]; rfl), h.2⟩)) ?_
 refine zF rfl rfl (zL rfl rfl rfl (zL rfl rfl rfl (zE rfl rfl (zE rfl rfl (zA (zC (zD (zB (jR (X := Nat × Nat) (vs := [_]) (p := fun _ => True) (val := fun g => .agg [.slice (some ⟨g.1, 0, none⟩) 2 2, .int .i64 0, .slice (some ⟨g.2, 0, none⟩) 3 3].toArray) (rs := fun g => [.blk g.2 (.cells (ints hds).toArray 3 (0, 0)), .blk g.1 (.cells (hfs.flatMap Flt.cells).toArray 49 (0, 0))]) rfl rfl F.ent42 (fun a w ha => (kR 0 w).mono (fun e w' h => by obtain ⟨b5, b7, h1, h2⟩ := h; exact ⟨(b5, b7), trivial, h1, h2⟩)) ?_)))))))))
 rintro ⟨fz, dz⟩ -
 dsimp only [List.cons_append, List.nil_append]
 refine zW (v := .tuple #[.int .i64 0, .int .i64 11]) (vs := [_, _, _]) rfl rfl F.ent19 (fun a w ha => (zE4 (fA := some ⟨fz, 0, none⟩) (dA := some ⟨dz, 0, none⟩) (fc := 2) (dc := 3) (fs := hfs) (days := hds) (kiln := 0) (f := 0) (day := 1) (hv (by decide)) (by decide) (by decide) w (zM ha (cells := Flt.cells) (size := 4) (b := fz) (l := hfs) (fun _ => rfl) rfl) (zM ha (cells := ncell) (size := 1) (b := dz) (l := hds) (fun _ => rfl) rfl)).mono (fun e w' h => ⟨h.1.trans (by rw [zXc]; rfl), h.2⟩)) ?_
 refine zF rfl rfl (zL rfl rfl rfl (zL rfl rfl rfl (zE rfl rfl (zE rfl rfl (zA (zC (zD (zB (zF rfl rfl (zI (v := .bool true) rfl rfl rfl (fun w => by rw [kC, decide_eq_true (by decide)]) ?_))))))))))
 refine zF rfl rfl (zJ rfl rfl (zF rfl rfl (zJ rfl rfl (zI (v := .bool true) rfl rfl rfl (fun w => by rw [kC, decide_eq_true (by decide)]) ?_))))
 refine jD rfl rfl rfl (zF rfl rfl (zJ rfl rfl (zF rfl rfl (zJ rfl rfl (zI (v := .bool true) rfl rfl rfl (fun w => by rw [kC, decide_eq_true (by decide)]) ?_)))))
 refine jD rfl rfl rfl (zF rfl rfl (zJ rfl rfl (zF rfl rfl (zJ rfl rfl (zI (v := .bool true) rfl rfl rfl (fun w => by rw [kC, decide_eq_true (by decide)]) ?_)))))
 refine jD rfl rfl rfl (zF rfl rfl (zJ rfl rfl (zF rfl rfl (zJ rfl rfl (zI (v := .bool true) rfl rfl rfl (fun w => by rw [kC, decide_eq_true (by decide)]) ?_)))))
 refine jD rfl rfl rfl (zF rfl rfl (zJ rfl rfl (zF rfl rfl (zJ rfl rfl (zI (v := .bool true) rfl rfl rfl (fun w => by rw [kC, decide_eq_true (by decide)]) ?_)))))
 refine jD rfl rfl rfl (zF rfl rfl (zJ rfl rfl (zF rfl rfl (zJ rfl rfl (zI (v := .bool true) rfl rfl rfl (fun w => by rw [kC, decide_eq_true (by decide)]) ?_)))))
 refine jD rfl rfl rfl (zF rfl rfl (zJ rfl rfl (zF rfl rfl (zJ rfl rfl (zI (v := .bool true) rfl rfl rfl (fun w => by rw [kC, decide_eq_true (by decide)]) ?_)))))
 refine jD rfl rfl rfl (zF rfl rfl (zJ rfl rfl (zF rfl rfl (zJ rfl rfl (zI (v := .bool true) rfl rfl rfl (fun w => by rw [kC, decide_eq_true (by decide)]) ?_)))))
 refine jD rfl rfl rfl (zF rfl rfl (zJ rfl rfl (zF rfl rfl (zJ rfl rfl (zI (v := .bool true) rfl rfl rfl (fun w => by rw [kC, decide_eq_true (by decide)]) ?_)))))
 refine jD rfl rfl rfl (zF rfl rfl (zJ rfl rfl (zF rfl rfl (zJ rfl rfl (zI (v := .bool true) rfl rfl rfl (fun w => by rw [kC, decide_eq_true (by decide)]) ?_)))))
 refine jD rfl rfl rfl (zE rfl rfl (zA (zC (zZ ?_))))
 exact jI rfl (fun a w ha => jY rfl rfl ha) (fun a w ha => ⟨rfl, ha.grown nsl⟩)

end Go.Proofs.Yteppiphdbondeaa.N
namespace Go.Proofs.Yteppiphdbondeaa.N
open Go Go.RowKit Go.Conc
set_option linter.unusedSectionVars false

def seenZ (W : World) : World := { seenW W with output := gout [0] }
theorem zPm (W : World) : Hid (Viewed W) (fun _ => False) W (seenZ W) := by
 have h := zQb W
 exact ⟨h.1, h.2, h.3, h.4, h.5, h.6, h.7, h.8, h.9, h.10⟩
section
variable {P : Program} {W : World} {f : FuncId} {args : Array Value} {Post : Value -> World -> Prop}
theorem zM2 {F : Nat -> Prop} {w w' v' : World} (hk : Kept F (fun _ => False) w w') (hv : Hid F (fun _ => False) w' v') (hb : Bas W (Viewed W) (fun i => i = 0) (fun _ => F) w) (hv0 : Below (seenZ W).heap.size (seenZ W) v') : Below W.heap.size W w' := by
 refine ⟨hk.os.trans hb.os, hk.tape.trans hb.tape, hk.output.trans hb.output, Nat.le_trans hb.size hk.size, fun b hlt => ?_⟩
 by_cases hF : F b
 ·rw [hk.block b (Nat.lt_of_lt_of_le hlt hb.size) (.inl hF)]
  exact (hb.held b (hb.new b hlt hF)).2.1
 ·rw [<- hv.same b hF (fun x => x), hv0.block b (by simpa [seenZ, seenW] using hlt)]
  show (seenW W).heap[b]? = _
  rw [zBs]
  cases h : W.heap[b]? with
  | none => rfl
  | some o =>
   cases o with
   | view p t => exact absurd ((hb.held b ⟨p, t, h⟩).2.2 0 rfl) hF
   | _ => rfl
def sig0 : Cst := ⟨0, 0, 0, [], 0, false, false, false, 0, 0, .rest, [], [], fun _ => none, []⟩
theorem zPb : sig0.blank := ⟨fun _ => rfl, rfl, rfl, rfl, rfl, rfl, rfl, rfl, rfl⟩
theorem zTu (low : Nat) : Cok low sig0 := by
 refine ⟨List.nodup_nil, rfl, fun j => ?_, fun j p h => (by cases h), fun b hb => (by cases hb), fun h => (by cases h), fun h => (by cases h), fun h => (by cases h), by decide, rfl, .nil, zPb⟩
 constructor
 ·intro h; cases h
 ·rintro ⟨p, h⟩; cases h
theorem zT8 {low : Nat} {tW : TypeId} {msg : Nat -> Value} {σ : Cst} (hok : Cok low σ) (h : σ.gh 0 = some [0]) : Alone (Cp low tW msg) σ ∧ σ.lent = [] ∧ ∀ c, ¬ (Cst.ts σ).Ca c := by
 rw [zAc] at h
 have hp := hok.phase
 cases hm : σ.mn <;> rw [hm] at h <;> simp [Mn.enc] at h
 unfold Cst.phase at hp
 rw [hm] at hp
 obtain ⟨h1, h2, h3, h4, h5, h6, h7, h8, h9⟩ := hp
 refine ⟨?_, h9, fun c hc => ?_⟩
 ·refine ⟨fun j hj => zAd hj h1, ?_⟩
  show (Cst.ts σ).D 0 = 0
  simp [Cst.ts, hm, Mn.deaf]
 ·rcases hc with ⟨h, _⟩ | ⟨h, _⟩ <;> omega
theorem zIj {low : Nat} {tW : TypeId} {msg : Nat -> Value} (hK : low = W.heap.size) (noInit : P.inits.idxOf? f = none)
  (h : @Calls P (zSys P (Cp low tW msg)) f args (seenZ W) fun e v' => ∃ x, e = .returned x ∧ Below (seenZ W).heap.size (seenZ W) v' ∧ ∀ W', Below W.heap.size W W' -> Post x W') :
  ∃ N last o w' t', runNT P (N + 1) (solo (G (Frame.enter P f args .normal) []) W) #[] = (.ended o w', t') ∧ runN P N (solo (G (Frame.enter P f args .normal) []) W) = .next last ∧ step P last = .ended o w' ∧ Go.Conc.Good P Post last o w' t' := by
 refine zWl (K := Cp low tW msg) (σ := sig0) (γ := [0]) zT0 hK (zPm W) rfl (zTu low) rfl (fun j hj => zAa hj rfl) (fun b hb => (by cases hb)) rfl rfl (@Gs.mono P (zSys P (Cp low tW msg)) _ _ _ _ (h []) fun g v' hs => ?_)
 obtain ⟨e, fr, v₀, ⟨x, rfl, hb, hp⟩, hr, rfl, hfn, hm, hd, hkd, fn, hf, ht, hres⟩ := hs
 have hb' : Below (seenZ W).heap.size (seenZ W) v' := hb.trans (hr.mono hb.size)
 refine ⟨rfl, ⟨[0], hb'.output, fun σ hok hg => zT8 hok hg⟩, fun F w hv hbas => ?_⟩
 obtain ⟨w', h1, h2, h3, h4, h5⟩ := ht.ok (hres v' (Rl.refl v')) hv
 have hno : P.inits.idxOf? fr.fn = none := by rw [hfn]; exact noInit
 refine ⟨x, w', seen P fr.fn ((results fn fr.tmps).events P v' #[]), ?_, ?_, hp w' (zM2 h4 h3 hbas hb')⟩
 ·rw [<- h2]
  simp [G, stepG, unwind, doReturn, hm, hd, hkd, hf, h1, hno, GStep.after]
 ·rw [<- hv.size]
  exact fun e he => h5 e (Go.Conc.mem_seen he)
end
theorem zAf {H : Type} {enc : TypeId × Value -> H} {a : Assume} {C : Checked} {os : Os} {f : FuncId} {fn : Func} {s : ChangeSpec} {conds : List PathCond} {apart fresh handsOn again : Bool} (tW : TypeId) (msg : Nat -> Value)
  (own : ownKnob C.prog.godebug = none) (started : os.Started) (noInit : C.prog.inits.idxOf? f = none) (hfn : C.prog.funcs[f]? = some fn)
  (witness : ∃ (w : World) (tape : Tape) (i : Input), w.os = os ∧ (w.forCall tape i).Shaped C.prog ∧ i.vars = [] ∧ Input.okWide C.prog (w.forCall tape i) .any w.heap.size f i ∧
   s.pre6 enc C.prog fn conds apart (w.forCall tape i).memory i.args ∧ a.holds C.prog (lone (Frame.enter C.prog f i.args .normal) [] (w.forCall tape i)))
  (contract : ∀ (W : World) (base : Nat) (args : Array Value) (ds gs : List (DataW H)) (before : List MemPlace),
   (∀ (j : Nat) t v, fn.params[j]? = some t -> args[j]? = some v -> Value.okWide C.prog W .any base t v) ->
   DataW.Whole enc C.prog fn.params.toList s.vars apart W args.toList ds gs before ->
   conds.all (PathCond.test C.prog ⟨fn.params.toList, ds, s.plain.varTypes C.prog, gs⟩) = true ->
   (DataW.weightsEach C.prog (fn.params.toList ++ s.plain.varTypes C.prog) (ds ++ gs)).all (· <= reachBytes) = true ->
   a.holds C.prog (lone (Frame.enter C.prog f args .normal) [] W) ->
   @Calls C.prog (zSys C.prog (Cp W.heap.size tW msg)) f args (seenZ W) fun e v' => ∃ x, e = .returned x ∧ Below (seenZ W).heap.size (seenZ W) v' ∧ ∀ W', Below W.heap.size W W' -> s.post enc C.prog fn apart fresh handsOn again W args x W') :
  ReturnsInLeavingWide a C os f .any (s.pre6 enc C.prog fn conds apart) (s.post enc C.prog fn apart fresh handsOn again) := by
 refine returnsInLeavingWide_of_good own started witness ?_
 intro w tape i _ _ _ hok hpre hholds
 obtain ⟨_, _, _, fn', hfn', _, _, _, _, hval⟩ := hok
 have e : fn' = fn := Option.some.inj (hfn'.symm.trans hfn)
 subst e
 obtain ⟨⟨ds, gs, before, hw, hc⟩, hz⟩ := hpre
 have hw' := DataW.Whole.of_heap (w' := w.forCall tape i) (by rfl) hw
 have hcalls := contract (w.forCall tape i) w.heap.size i.args ds gs before hval hw' hc (hz.weights hw) hholds
 obtain ⟨M, last, o, w', t', h1, h2, h3, h4⟩ := zIj rfl noInit hcalls
 exact ⟨M, last, o, w', t', h1, h2, h3, h4.mono fun v hp => ChangeSpec.post_blind hp⟩
end Go.Proofs.Yteppiphdbondeaa.N
/- What rows of laws about char share: the program's closed facts, and the law from its call in company. -/
namespace Go.Proofs.Yteppiphdbondeaa.N
open Go Go.ChangeShapes Go.WideShapes Go.ChangeAt Go.RowKit Go.Proofs Go.Proofs.Yteppiphdbondeaa Go.Proofs.Yteppiphdbondeaa.Rows
set_option linter.unusedSectionVars false
theorem own_ : ownKnob Try.prog.godebug = Option.none := by kernel_rfl
theorem zRn : laidOutB Try.prog = true := by kernel_rfl
theorem zXl : Try.prog.underlying 4 = some .bool := by kernel_rfl
abbrev ZS (W : World) : Sys := zSys Try.prog (Cp W.heap.size 131 msgM)
def orderN : List Nat := [104, 97, 114, 110, 101, 115, 115, 32, 55, 101, 48, 57, 54, 53, 99, 53, 56, 54, 50, 48, 53, 101, 50, 57, 53, 97, 99, 57, 53, 56, 98, 100, 52, 101, 101, 55, 102, 54, 99, 102, 55, 100, 53, 102, 53, 50, 97, 49, 57, 102, 99, 99, 102, 52, 99, 49, 50, 48, 99, 54, 56, 48, 48, 100, 102, 98, 98, 53, 99, 54, 49, 48, 32, 99, 117, 116, 32, 97, 116, 32, 109, 117, 115, 99, 111, 118, 97, 100, 111, 47, 109, 117, 115, 99, 111, 118, 97, 100, 111, 108, 97, 119, 48, 52, 46, 67, 104, 97, 114, 70, 101, 119, 101, 115, 116, 32, 109, 117, 115, 99, 111, 118, 97, 100, 111, 47, 109, 117, 115, 99, 111, 118, 97, 100, 111, 108, 97, 119, 48, 52, 46, 67, 104, 97, 114, 70, 105, 114, 115, 116, 32, 109, 117, 115, 99, 111, 118, 97, 100, 111, 47, 109, 117, 115, 99, 111, 118, 97, 100, 111, 108, 97, 119, 48, 52, 46, 67, 104, 97, 114, 66, 117, 121, 32, 109, 117, 115, 99, 111, 118, 97, 100, 111, 47, 109, 117, 115, 99, 111, 118, 97, 100, 111, 108, 97, 119, 48, 52, 46, 67, 104, 97, 114, 83, 116, 114, 111, 110, 103, 101, 114, 32, 109, 117, 115, 99, 111, 118, 97, 100, 111, 47, 109, 117, 115, 99, 111, 118, 97, 100, 111, 108, 97, 119, 48, 52, 46, 67, 104, 97, 114, 67, 108, 101, 97, 114, 101, 100, 32, 109, 117, 115, 99, 111, 118, 97, 100, 111, 47, 109, 117, 115, 99, 111, 118, 97, 100, 111, 108, 97, 119, 48, 52, 46, 67, 104, 97, 114, 65, 103, 97, 105, 110, 32, 109, 117, 115, 99, 111, 118, 97, 100, 111, 47, 109, 117, 115, 99, 111, 118, 97, 100, 111, 108, 97, 119, 48, 52, 46, 67, 104, 97, 114, 78, 101, 101, 100, 101, 100, 32, 109, 117, 115, 99, 111, 118, 97, 100, 111, 47, 109, 117, 115, 99, 111, 118, 97, 100, 111, 108, 97, 119, 48, 52, 46, 67, 104, 97, 114, 76, 101, 102, 116, 32, 109, 117, 115, 99, 111, 118, 97, 100, 111, 47, 109, 117, 115, 99, 111, 118, 97, 100, 111, 108, 97, 119, 48, 52, 46, 67, 104, 97, 114, 77, 111, 115, 116, 32, 109, 117, 115, 99, 111, 118, 97, 100, 111, 47, 109, 117, 115, 99, 111, 118, 97, 100, 111, 108, 97, 119, 48, 52, 46, 67, 104, 97, 114, 75, 110, 111, 119, 110]
def wordsN : List (List Nat) := [[104, 97, 114, 110, 101, 115, 115], [55, 101, 48, 57, 54, 53, 99, 53, 56, 54, 50, 48, 53, 101, 50, 57, 53, 97, 99, 57, 53, 56, 98, 100, 52, 101, 101, 55, 102, 54, 99, 102, 55, 100, 53, 102, 53, 50, 97, 49, 57, 102, 99, 99, 102, 52, 99, 49, 50, 48, 99, 54, 56, 48, 48, 100, 102, 98, 98, 53, 99, 54, 49, 48], [99, 117, 116], [97, 116], [109, 117, 115, 99, 111, 118, 97, 100, 111, 47, 109, 117, 115, 99, 111, 118, 97, 100, 111, 108, 97, 119, 48, 52, 46, 67, 104, 97, 114, 70, 101, 119, 101, 115, 116], [109, 117, 115, 99, 111, 118, 97, 100, 111, 47, 109, 117, 115, 99, 111, 118, 97, 100, 111, 108, 97, 119, 48, 52, 46, 67, 104, 97, 114, 70, 105, 114, 115, 116], [109, 117, 115, 99, 111, 118, 97, 100, 111, 47, 109, 117, 115, 99, 111, 118, 97, 100, 111, 108, 97, 119, 48, 52, 46, 67, 104, 97, 114, 66, 117, 121], [109, 117, 115, 99, 111, 118, 97, 100, 111, 47, 109, 117, 115, 99, 111, 118, 97, 100, 111, 108, 97, 119, 48, 52, 46, 67, 104, 97, 114, 83, 116, 114, 111, 110, 103, 101, 114], [109, 117, 115, 99, 111, 118, 97, 100, 111, 47, 109, 117, 115, 99, 111, 118, 97, 100, 111, 108, 97, 119, 48, 52, 46, 67, 104, 97, 114, 67, 108, 101, 97, 114, 101, 100], [109, 117, 115, 99, 111, 118, 97, 100, 111, 47, 109, 117, 115, 99, 111, 118, 97, 100, 111, 108, 97, 119, 48, 52, 46, 67, 104, 97, 114, 65, 103, 97, 105, 110], [109, 117, 115, 99, 111, 118, 97, 100, 111, 47, 109, 117, 115, 99, 111, 118, 97, 100, 111, 108, 97, 119, 48, 52, 46, 67, 104, 97, 114, 78, 101, 101, 100, 101, 100], [109, 117, 115, 99, 111, 118, 97, 100, 111, 47, 109, 117, 115, 99, 111, 118, 97, 100, 111, 108, 97, 119, 48, 52, 46, 67, 104, 97, 114, 76, 101, 102, 116], [109, 117, 115, 99, 111, 118, 97, 100, 111, 47, 109, 117, 115, 99, 111, 118, 97, 100, 111, 108, 97, 119, 48, 52, 46, 67, 104, 97, 114, 77, 111, 115, 116], [109, 117, 115, 99, 111, 118, 97, 100, 111, 47, 109, 117, 115, 99, 111, 118, 97, 100, 111, 108, 97, 119, 48, 52, 46, 67, 104, 97, 114, 75, 110, 111, 119, 110]]
set_option maxRecDepth 100000 in
theorem zV5 : Try.prog.initOrder = String.ofList (orderN.map Char.ofNat) := by kernel_rfl
theorem zVa : Try.prog.initOrder.toList = orderN.map Char.ofNat := by rw [zV5, String.toList_ofList]
def wordN (k : Nat) : List Char := (wordsN.getD k []).map Char.ofNat
def wordR : List (List Char) := (wordsN.drop 3).map (·.map Char.ofNat)
set_option maxRecDepth 100000 in
theorem zUg : wordsSigns Try.prog.initOrder.toList = wordN 0 :: wordN 1 :: wordN 2 :: wordR := by
 rw [zVa]
 kernel_rfl
theorem zP9 {a b : List Char} {r : List (List Char)} (h1 : (a == "harness".toList || a == "ownmain".toList) = true) (h2 : isSumSigns b = true) : behindMainWord (a :: b :: r) = r := by
 unfold behindMainWord
 dsimp only
 rw [h1, h2]
 rfl
theorem zKt : behindMainWord (wordsSigns Try.prog.initOrder.toList) = wordN 2 :: wordR := by
 rw [zUg]
 exact zP9 kr kr
theorem zTr {P : Program} {c : List Char} {rest : List (List Char)} (h : behindMainWord (wordsSigns P.initOrder.toList) = c :: rest) (h1 : (c == "gc".toList || c == "spec".toList) = false) (h2 : (c == "cut".toList) = true) : P.make = some .cut := by
 unfold Program.make
 rw [h]
 dsimp only
 rw [h1, h2]
 rfl
theorem zVx {P : Program} {c : List Char} {rest : List (List Char)} (h : behindMainWord (wordsSigns P.initOrder.toList) = c :: rest) (h1 : (stripLifts liftWords (c :: rest)).1 = []) (h2 : ((stripLifts liftWords (c :: rest)).2.head? == some "cut".toList) = true) (h3 : P.laysLater = false) (h4 : P.bearsReflect = false) (h5 : P.doorFits [] = true) : P.mayEnter = true := by
 unfold Program.mayEnter
 rw [h]
 dsimp only
 rw [h1, h2, h3, h4, h5]
 simp
theorem zRv {P : Program} {c : List Char} {rest : List (List Char)} (h : behindMainWord (wordsSigns P.initOrder.toList) = c :: rest) (h1 : (stripLifts liftWords (c :: rest)).1 = []) (h2 : (c == "carried".toList) = false) : P.liftsFinal = false := by
 have e : (some c == some "carried".toList) = false := h2
 unfold Program.liftsFinal Program.headLifts
 dsimp only
 rw [h, h1, List.head?_cons, e]
 simp
theorem zHo : (stripLifts liftWords (wordN 2 :: wordR)).1 = [] := by kernel_rfl
set_option maxRecDepth 100000 in
theorem zXm : Try.prog.make = some .cut := zTr zKt (by kernel_rfl) (by kernel_rfl)
set_option maxRecDepth 100000 in
theorem zWu : Try.prog.liftsFinal = false := zRv zKt zHo (by kernel_rfl)
set_option maxRecDepth 100000 in
theorem zOf : Try.prog.laysLater = false := by kernel_rfl
set_option maxRecDepth 100000 in
theorem zJz : Try.prog.bearsReflect = false := by kernel_rfl
set_option maxRecDepth 100000 in
theorem zXq : Try.prog.doorFits [] = true := by kernel_rfl
set_option maxRecDepth 100000 in
theorem may_ : Try.prog.mayEnter = true := zVx zKt zHo (by kernel_rfl) zOf zJz zXq
set_option maxRecDepth 100000 in
theorem zOr : mapsRowed Try.prog = true := by kernel_rfl
set_option maxRecDepth 100000 in
theorem zO0 : Try.prog.plainKeys = false := by kernel_rfl
set_option maxRecDepth 100000 in
theorem zMe : Try.prog.stopsHeard = true := by kernel_rfl
end Go.Proofs.Yteppiphdbondeaa.N
namespace Go.Proofs.Yteppiphdbondeaa.N
open Go Go.RowKit Go.Proofs
set_option linter.unusedSectionVars false
theorem zSa (W : World) : @RdC (ZS W) (reaC_main W.heap.size) (seenZ W) := ⟨by show W.heap.size <= (seenZ W).heap.size; simp [seenZ, seenW], rfl⟩
end Go.Proofs.Yteppiphdbondeaa.N
namespace Go.Proofs.Yteppiphdbondeaa.N
open Go Go.ChangeShapes Go.WideShapes Go.ChangeAt Go.RowKit Go.Proofs
set_option linter.unusedSectionVars false
theorem zIs {H : Type} {enc : TypeId × Value -> H} {f : FuncId} {fn : Func} {s : ChangeSpec} (hp : fn.params = #[]) (hr : fn.resultTypes = #[4]) (hs : s.vars = []) (hfn : s.fn H [] = { results := [.lit (.bool true)], args := [] })
  (W : World) (law : @Calls Try.prog (ZS W) f #[] (seenZ W) fun e w' => e = .returned (.bool true) ∧ Grew (seenZ W) w' [])
  (base : Nat) (args : Array Value) (ds gs : List (DataW H)) (before : List MemPlace)
  (_hval : ∀ (j : Nat) t v, fn.params[j]? = some t -> args[j]? = some v -> Value.okWide Try.prog W .any base t v)
  (hW : DataW.Whole enc Try.prog fn.params.toList s.vars false W args.toList ds gs before) :
  @Calls Try.prog (ZS W) f args (seenZ W) fun e v' => ∃ x, e = .returned x ∧ Below (seenZ W).heap.size (seenZ W) v' ∧ ∀ W', Below W.heap.size W W' -> s.post enc Try.prog fn false true false false W args x W' := by
 have hW' := hW
 obtain ⟨p, q, hA, hV, rfl, _, _⟩ := hW
 rw [hs] at hV
 rw [hp] at hA
 obtain ⟨rfl, rfl, rfl⟩ := trodAll_none hA
 obtain ⟨rfl, rfl⟩ := trodVars_none hV
 simp only [List.append_nil] at hW'
 refine @Calls.mono _ (ZS W) _ _ _ _ _ law fun e v' ⟨he, hg⟩ => ⟨_, he, hg.1, fun W' hb => ?_⟩
 refine ⟨_, _, _, [], [], [], hW', ?_, ?_, ?_, hb.frame _, fun h => Bool.noConfusion h⟩
 ·rw [show s.fn H ([] ++ []) = _ from hfn, hr]; exact trodAll_mk1 (shut_bool zXl true)
 ·rw [show s.fn H ([] ++ []) = _ from hfn, hp]; exact trodAll_mk0
 ·rw [show s.fn H ([] ++ []) = _ from hfn, hs]; rfl
end Go.Proofs.Yteppiphdbondeaa.N
