/- Parts of the walk of the law CharNeeded: T28, ChA, ChG, T29, T30, ChU, ChY, T31, T34, ChAB, ChAC, ChAD, T37, ChAE, T38, ChAF, T39, ChRow, RowC, RowC2. -/
import Derived.Test.YteppiphdbondeaaSCharNeeded09
import Derived.Test.YteppiphdbondeaaProg
import Derived.Test.YteppiphdbondeaaSCharNeeded08
import Derived.Test.YteppiphdbondeaaSCharNeeded05
import Derived.DeepKeys3
import Derived.ArgAppend
import Derived.Deep.Upon
import Derived.Test.YteppiphdbondeaaSCharNeeded03
import Derived.Test.YteppiphdbondeaaRows
import Derived.ChangeSame
import Derived.ChangeVars
import Derived.JoinedOf
import Derived.RowKit
import Derived.RowKitTokens
import Derived.WitnessAt
import Derived.Stop.Joined
import Derived.ProofKit
import Derived.SizedLaws
import Derived.OpenShut
import Derived.Conc.Holds
namespace Go.Proofs.Yteppiphdbondeaa.N
open Go Go.RowKit Go.Proofs
set_option linter.unusedSectionVars false
variable [I : Sys]
theorem F.ent14 : Enters Try.prog 14 := jC Try.func14 rfl (by kernel_rfl)
theorem F.ent27 : Enters Try.prog 27 := jC Try.func27 rfl (by kernel_rfl)
theorem zPb {C : Ctx} {fr : List (Nat × Value)} {T : List Res} {a : Act} {w : World} (hC : C.P = Try.prog) {hb tk st nc : Nat} {nA : Option Addr} {nums : List Int} (hB : C.w0.heap.size = C.B) (hN : RdL icell 1 C.w0 nA nums) (htk : tk <= 900000) (hst : st < 18446744073709551616) (ha : At C fr (.blk hb (hatO nA nums.length nc (tk) (st)) :: T) a w) : Calls C.P 27 #[.pointer (some ⟨hb, 0, none⟩)] w fun e w' => ∃ (tk' st' : Nat) (f : Flt), tk' <= tk + 10 ∧ st' < 18446744073709551616 ∧ FltOk f ∧ e = .returned (.agg [.int .i64 (f.power : Int), .int .i64 (f.gain : Int), .int .i64 (f.now : Int), .bool f.washed].toArray) ∧ At C fr (.blk hb (hatO nA nums.length nc (tk') (st')) :: T) a w' := by
 obtain ⟨P, B, w0, N0, ds⟩ := C
 obtain rfl : P = Try.prog := hC
 (try dsimp only at hB)
 (try dsimp only at hN)
 refine vN (N := 30) [(0, .pointer (some ⟨hb, 0, none⟩))] ha Try.func27 rfl Try.ntmps27 rfl rfl ?_
 refine zD (zB (zU rfl F.ti49 ?_))
 intro b2
 refine zA (zC (zD (zB (zF rfl rfl (kD (vs := [(0, _), (1, _), (2, _), (3, _), (4, _), (5, _)]) rfl rfl Try.underlying22 F.ti3 rfl rfl rfl ?_)))))
 intro b5
 refine vL [1, 2, 2, 3, 3, 4] rfl rfl rfl hB hN hst om (by simp) (by simp) (InB.mem (b := b5)) ?_
 rintro s1 pw hs1 hpw
 simp only [List.mem_cons, List.not_mem_nil, or_false] at hpw
 refine jT (vs := [(0, _)]) (l' := [_, _, _, _]) rfl rfl F.ti49 F.pl49 (.cons rfl rfl (.nil _)) rfl ?_
 refine zU rfl F.ti49 ?_
 intro b3
 refine zI rfl rfl F.ti49 rfl ?_
 refine zA (zC (zD (xW (G := Nat × Nat) (fun g => g.1 < 18446744073709551616 ∧ g.2 <= pw) (fun g => [(0, .pointer (some ⟨hb, 0, none⟩)), (2, .pointer (some ⟨b2, 0, none⟩)), (3, .pointer (some ⟨b3, 0, none⟩))]) (fun g => .blk hb (hatO nA nums.length nc (tk + 1 + 1 + 1) (g.1)) :: .blk b3 (.cells [.int .i64 (pw : Int), .int .i64 (g.2 : Int), .int .i64 (pw : Int), .bool false].toArray 49 (0, 0)) :: .blk b2 (.cells [.int .i64 0, .int .i64 0, .int .i64 0, .bool false].toArray 49 (0, 0)) :: T) ?_ ?_)))
 ·refine kF [.b b3, .b hb] F.follows 13 rfl [false, false, false, false, false, false, false, false, false, false, false, false, false] rfl ?_
  refine zG 0 rfl rfl rfl (jG rfl) ?_
  refine zG 1 rfl rfl rfl (jG rfl) ?_
  refine zG 2 rfl rfl rfl (zY rfl F.fi49_0 F.ti3) ?_
  refine zG 7 rfl rfl rfl (zY rfl F.fi49_0 F.ti3) ?_
  refine qF 3 8 kr rfl rfl rfl rfl ?_ ?_
  ·refine zP rfl rfl F.one3 ?_
   refine zA (anb (qF 4 8 kr rfl rfl rfl rfl ?_ ?_))
   ·refine yB rfl rfl rfl hB hN hs1 om om ?_
    rintro s2 g1 hs2 hg1
    refine zA (anb (qF 5 8 kr rfl rfl rfl rfl ?_ ?_))
    ·refine kD (vs := [(0, _), (1, _), (2, _), (3, _)]) rfl rfl Try.underlying22 F.ti3 rfl rfl rfl ?_
     intro b13
     refine zA (anb (qF 6 8 kr rfl rfl rfl rfl ?_ ?_))
     ·refine vL [0, 1, 1, g1] rfl rfl rfl hB hN hs2 om (by simp) (by simp) (InB.mem (b := b13)) ?_
      rintro s3 gn hs3 hgn
      simp only [List.mem_cons, List.not_mem_nil, or_false] at hgn
      refine zA (anb (an1 8 rfl ?_))
      refine zP rfl rfl F.one3 ?_
      refine zA (anb (zG 9 rfl rfl rfl (zY rfl F.fi49_1 F.ti3) ?_))
      refine an1 10 rfl ?_
      refine zI rfl rfl F.ti3 rfl ?_
      refine zA (anb (zG 11 rfl rfl rfl (zY rfl F.fi49_2 F.ti3) ?_))
      refine an1 12 rfl ?_
      refine zI rfl rfl F.ti3 rfl ?_
      refine zA (anb (adn ?_))
      exact kA (s3, gn) ⟨hs3, by dsimp only; omega⟩ sbn pkk
     ·refine zP rfl rfl F.one3 ?_
      refine zA (anb (an1 6 rfl ?_))
      refine vL [0, 1, 1, g1] rfl rfl rfl hB hN hs2 om (by simp) (by simp) (InB.mem (b := b13)) ?_
      rintro s3 gn hs3 hgn
      simp only [List.mem_cons, List.not_mem_nil, or_false] at hgn
      refine zA (anb (zG 9 rfl rfl rfl (zY rfl F.fi49_1 F.ti3) ?_))
      refine an1 10 rfl ?_
      refine zI rfl rfl F.ti3 rfl ?_
      refine zA (anb (zG 11 rfl rfl rfl (zY rfl F.fi49_2 F.ti3) ?_))
      refine an1 12 rfl ?_
      refine zI rfl rfl F.ti3 rfl ?_
      refine zA (anb (adn ?_))
      exact kA (s3, gn) ⟨hs3, by dsimp only; omega⟩ sbn pkk
    ·refine zP rfl rfl F.one3 ?_
     refine zA (anb (an1 5 rfl ?_))
     refine kD (vs := [(0, _), (1, _), (2, _), (3, _)]) rfl rfl Try.underlying22 F.ti3 rfl rfl rfl ?_
     intro b13
     refine zA (anb (an1 6 rfl ?_))
     refine vL [0, 1, 1, g1] rfl rfl rfl hB hN hs2 om (by simp) (by simp) (InB.mem (b := b13)) ?_
     rintro s3 gn hs3 hgn
     simp only [List.mem_cons, List.not_mem_nil, or_false] at hgn
     refine zA (anb (zG 9 rfl rfl rfl (zY rfl F.fi49_1 F.ti3) ?_))
     refine an1 10 rfl ?_
     refine zI rfl rfl F.ti3 rfl ?_
     refine zA (anb (zG 11 rfl rfl rfl (zY rfl F.fi49_2 F.ti3) ?_))
     refine an1 12 rfl ?_
     refine zI rfl rfl F.ti3 rfl ?_
     refine zA (anb (adn ?_))
     exact kA (s3, gn) ⟨hs3, by dsimp only; omega⟩ sbn pkk
   ·refine zP rfl rfl F.one3 ?_
    refine zA (anb (an1 4 rfl ?_))
    refine yB rfl rfl rfl hB hN hs1 om om ?_
    rintro s2 g1 hs2 hg1
    refine zA (anb (an1 5 rfl ?_))
    refine kD (vs := [(0, _), (1, _), (2, _), (3, _)]) rfl rfl Try.underlying22 F.ti3 rfl rfl rfl ?_
    intro b13
    refine zA (anb (an1 6 rfl ?_))
    refine vL [0, 1, 1, g1] rfl rfl rfl hB hN hs2 om (by simp) (by simp) (InB.mem (b := b13)) ?_
    rintro s3 gn hs3 hgn
    simp only [List.mem_cons, List.not_mem_nil, or_false] at hgn
    refine zA (anb (zG 9 rfl rfl rfl (zY rfl F.fi49_1 F.ti3) ?_))
    refine an1 10 rfl ?_
    refine zI rfl rfl F.ti3 rfl ?_
    refine zA (anb (zG 11 rfl rfl rfl (zY rfl F.fi49_2 F.ti3) ?_))
    refine an1 12 rfl ?_
    refine zI rfl rfl F.ti3 rfl ?_
    refine zA (anb (adn ?_))
    exact kA (s3, gn) ⟨hs3, by dsimp only; omega⟩ sbn pkk
  ·refine zP rfl rfl F.one3 ?_
   refine zA (anb (an1 3 rfl ?_))
   refine zP rfl rfl F.one3 ?_
   refine zA (anb (an1 4 rfl ?_))
   refine yB rfl rfl rfl hB hN hs1 om om ?_
   rintro s2 g1 hs2 hg1
   refine zA (anb (an1 5 rfl ?_))
   refine kD (vs := [(0, _), (1, _), (2, _), (3, _)]) rfl rfl Try.underlying22 F.ti3 rfl rfl rfl ?_
   intro b13
   refine zA (anb (an1 6 rfl ?_))
   refine vL [0, 1, 1, g1] rfl rfl rfl hB hN hs2 om (by simp) (by simp) (InB.mem (b := b13)) ?_
   rintro s3 gn hs3 hgn
   simp only [List.mem_cons, List.not_mem_nil, or_false] at hgn
   refine zA (anb (zG 9 rfl rfl rfl (zY rfl F.fi49_1 F.ti3) ?_))
   refine an1 10 rfl ?_
   refine zI rfl rfl F.ti3 rfl ?_
   refine zA (anb (zG 11 rfl rfl rfl (zY rfl F.fi49_2 F.ti3) ?_))
   refine an1 12 rfl ?_
   refine zI rfl rfl F.ti3 rfl ?_
   refine zA (anb (adn ?_))
   exact kA (s3, gn) ⟨hs3, by dsimp only; omega⟩ sbn pkk
 ·rintro ⟨s3, gn⟩ ⟨hs3, hgn⟩
  dsimp only at hs3 hgn ⊢
  refine zC (zD (zD (zB (zF rfl rfl (zBv rfl rfl rfl hB hN hs3 om om om ?_)))))
  rintro s4 sb hs4
  refine zA (zC (kO rfl (fun hc0 => ?_) (fun hc0 => ?_)))
  ·refine zB (zF rfl rfl (zL rfl rfl F.fi49_0 F.ti3 ?_))
   refine zP rfl rfl F.one3 ?_
   refine yB rfl rfl rfl hB hN hs4 om om ?_
   rintro s5 nw hs5 hnw
   refine zL rfl rfl F.fi49_2 F.ti3 ?_
   refine zI rfl rfl F.ti3 rfl ?_
   refine zA (zC (zD (zB (zF rfl rfl (zBv rfl rfl rfl hB hN hs5 om om om ?_)))))
   rintro s6 wb hs6
   refine zL rfl rfl F.fi49_3 F.ti4 ?_
   refine zI rfl rfl F.ti4 rfl ?_
   refine zA (zC (zD (zB (jB rfl rfl F.agg49 F.ti49 ?_))))
   refine zI rfl rfl F.ti49 rfl ?_
   refine zA (zC (zV ?_))
   exact jE rfl (fun a w ha => by exact qN (ha := ha) rfl rfl F.agg49 F.ti49 rfl) (fun _ _ ha' => ⟨tk + 1 + 1 + 1 + 1 + 1 + 1, s6, ⟨pw, gn, nw, wb⟩, by omega, hs6, ⟨by show 1 <= pw; omega, by show pw <= 4; omega, by show gn <= pw; omega, by show nw <= pw; omega⟩, rfl, ha.back (ha'.pck pkk)⟩)
  ·refine zR (zC (zD (zB (zF rfl rfl (zBv rfl rfl rfl hB hN hs4 om om om ?_)))))
   rintro s6 wb hs6
   refine zL rfl rfl F.fi49_3 F.ti4 ?_
   refine zI rfl rfl F.ti4 rfl ?_
   refine zA (zC (zD (zB (jB rfl rfl F.agg49 F.ti49 ?_))))
   refine zI rfl rfl F.ti49 rfl ?_
   refine zA (zC (zV ?_))
   exact jE rfl (fun a w ha => by exact qN (ha := ha) rfl rfl F.agg49 F.ti49 rfl) (fun _ _ ha' => ⟨tk + 1 + 1 + 1 + 1 + 1, s6, ⟨pw, gn, pw, wb⟩, by omega, hs6, ⟨by show 1 <= pw; omega, by show pw <= 4; omega, by show gn <= pw; omega, by show pw <= pw; omega⟩, rfl, ha.back (ha'.pck pkk)⟩)

theorem zK8 {C : Ctx} {fr : List (Nat × Value)} {T : List Res} {a : Act} {w : World} (hC : C.P = Try.prog) {hb tk st nc : Nat} {nA : Option Addr} {nums : List Int} (hB : C.w0.heap.size = C.B) (hN : RdL icell 1 C.w0 nA nums) (htk : tk <= 800000) (hst : st < 18446744073709551616) {nf ny : Nat} (hf1 : 1 <= nf) (hf3 : nf <= 3) (hy1 : 1 <= ny) (hy4 : ny <= 4) (ha : At C fr (.blk hb (hatO nA nums.length nc (tk) (st)) :: T) a w) : Calls C.P 14 #[.pointer (some ⟨hb, 0, none⟩), .int .i64 (nf : Int), .int .i64 (ny : Int)] w fun e w' => ∃ (tk' st' kiln : Nat) (fs : List Flt) (days : List Nat) (A D : Option Addr) (c dc : Nat), tk' <= tk + 100 ∧ st' < 18446744073709551616 ∧ fs.length <= nf ∧ days.length <= ny ∧ ChV fs kiln days ∧ e = .returned (.agg [.slice A fs.length c, .int .i64 (kiln : Int), .slice D days.length dc].toArray) ∧ At C fr (.row 49 4 A fs.length c (fs.flatMap Flt.cells) :: .row 3 1 D days.length dc (ints days) :: .blk hb (hatO nA nums.length nc (tk') (st')) :: T) a w' := by
 obtain ⟨P, B, w0, N0, ds⟩ := C
 obtain rfl : P = Try.prog := hC
 (try dsimp only at hB)
 (try dsimp only at hN)
 refine vN (N := 59) [(0, .pointer (some ⟨hb, 0, none⟩)), (1, .int .i64 (nf : Int)), (2, .int .i64 (ny : Int))] ha Try.func14 rfl Try.ntmps14 rfl rfl ?_
 refine zD (zB (zU rfl F.ti27 ?_))
 intro b6
 refine zA (zC (zD (zB (zF rfl rfl (kD (vs := [(0, _), (1, _), (2, _), (3, _)]) rfl rfl Try.underlying22 F.ti3 rfl rfl rfl ?_)))))
 intro b13
 refine vL [0, 1, 1, 2] rfl rfl rfl hB hN hst om (by simp) (by simp) (InB.mem (b := b13)) ?_
 rintro s0 kiln hs0 hkiln
 simp only [List.mem_cons, List.not_mem_nil, or_false] at hkiln
 refine jT (vs := [(1, _)]) (l' := [_, _, _]) rfl rfl F.ti27 F.pl27 (.cons rfl rfl (.nil _)) rfl ?_
 refine zU rfl F.ti27 ?_
 intro b7
 refine zI rfl rfl F.ti27 rfl ?_
 refine zA (zC (zD (zB (zE rfl rfl (zA (zC (zD (zD (zB (zF rfl rfl (zF rfl rfl (zLt (lo := 1) (hi := nf) rfl rfl rfl hB hN hs0 om om om ?_))))))))))))
 rintro s1 n0 hs1 hn0a hn0b
 refine zE rfl rfl (zA (zC (zZ (zFn 49 4 ?_))))
 refine vJ (G := Nat × Nat × Nat × Option Addr × Nat × List Flt × Nat) (fun g => g.1 + g.2.2.2.2.2.1.length = n0 ∧ (∀ x ∈ g.2.2.2.2.2.1, FltOk x) ∧ g.2.1 <= tk + 2 + 10 * g.2.2.2.2.2.1.length ∧ g.2.2.1 < 18446744073709551616 ∧ g.2.2.2.2.2.2 <= 4 * g.2.2.2.2.2.1.length) (fun g => g.1) (fun g => [(0, .pointer (some ⟨hb, 0, none⟩)), (1, .int .i64 (nf : Int)), (2, .int .i64 (ny : Int)), (6, .pointer (some ⟨b6, 0, none⟩)), (7, .pointer (some ⟨b7, 0, none⟩)), (8, .int .i64 (g.2.2.2.2.2.2 : Int)), (9, .int .i64 (g.1 : Int))]) (fun g => .row 49 4 g.2.2.2.1 g.2.2.2.2.2.1.length g.2.2.2.2.1 (g.2.2.2.2.2.1.flatMap Flt.cells) :: .blk b7 (.cells [.slice g.2.2.2.1 g.2.2.2.2.2.1.length g.2.2.2.2.1, .int .i64 (kiln : Int), .slice none 0 0].toArray 27 (0, 0)) :: .blk b6 (.cells [.slice none 0 0, .int .i64 0, .slice none 0 0].toArray 27 (0, 0)) :: .blk hb (hatO nA nums.length nc (g.2.1) (g.2.2.1)) :: T) (n0, tk + 1 + 1, s1, none, 0, [], 0) ⟨by simp, by simp, by simp, hs1, by simp⟩ sbn pkk ?_
 rintro ⟨i, t1, s2, A1, c1, fs, sm⟩ ⟨hil, hlo, ht1, hs2, hsm⟩
 (try dsimp only at hil hlo ht1 hs2 hsm ⊢)
 refine zD (zD (zB (zF rfl rfl (zJ rfl rfl rfl yX ?_))))
 refine zA (zC (zO rfl (fun hc0 => ?_) (fun hc0 => ?_)))
 ·obtain ⟨i, rfl⟩ : ∃ i', i = i' + 1 := ⟨i - 1, by omega⟩
  refine zR (zC (zD (zZ (zD (zB (zF rfl rfl (wB (X := Nat × Nat × Flt) (vs := [_]) hb (fun y => hatO nA nums.length nc (y.1) (y.2.1)) (fun y => y.1 <= t1 + 10 ∧ y.2.1 < 18446744073709551616 ∧ FltOk y.2.2) (fun y => .agg [.int .i64 (y.2.2.power : Int), .int .i64 (y.2.2.gain : Int), .int .i64 (y.2.2.now : Int), .bool y.2.2.washed].toArray) rfl rfl F.ent27 (fun a w ha => (zPb (C := ⟨Try.prog, B, w0, _, _⟩) rfl hB hN (tk := t1) (st := s2) om hs2 ha).mono (fun e w' h => by obtain ⟨t', s', x, h1, h2, h3, h4, h5⟩ := h; exact ⟨(t', s', x), ⟨h1, h2, h3⟩, h4, h5⟩)) ?_)))))))
  rintro ⟨t2, s3, ⟨pw, gn, nw, wd⟩⟩ ⟨ht2, hs3, hfo⟩
  dsimp only at ht2 hs3 hfo ⊢
  refine zU rfl F.ti49 ?_
  intro b10
  refine zI rfl rfl F.ti49 rfl ?_
  refine zA (zC (xW (G := Option Addr × Nat) (fun _ => True) (fun x => [(0, .pointer (some ⟨hb, 0, none⟩)), (1, .int .i64 (nf : Int)), (2, .int .i64 (ny : Int)), (6, .pointer (some ⟨b6, 0, none⟩)), (7, .pointer (some ⟨b7, 0, none⟩)), (8, .int .i64 ((sm + pw : Nat) : Int)), (9, .int .i64 ((i + 1 : Nat) : Int))]) (fun x => .row 49 4 x.1 (fs.length + 1) x.2 (fs.flatMap Flt.cells ++ [.int .i64 (pw : Int), .int .i64 (gn : Int), .int .i64 (nw : Int), .bool wd]) :: .blk b7 (.cells [.slice x.1 (fs.length + 1) x.2, .int .i64 (kiln : Int), .slice none 0 0].toArray 27 (0, 0)) :: .blk b6 (.cells [.slice none 0 0, .int .i64 0, .slice none 0 0].toArray 27 (0, 0)) :: .blk hb (hatO nA nums.length nc (t2) (s3)) :: T) ?_ ?_))
  ·refine kF [.b b7, .r A1] F.follows 12 rfl [false, false, false, false, false, false, false, false, false, false, false, false] rfl ?_
   have hpw4 : pw <= 4 := hfo.2.1
   refine zG 0 rfl rfl rfl (zY rfl F.fi27_0 F.ti25) ?_
   refine zG 2 rfl rfl rfl (qJ rfl F.agg49 F.ti49) ?_
   refine zG 5 rfl rfl rfl (jG rfl) ?_
   refine zG 6 rfl rfl rfl (zY rfl F.fi49_0 F.ti3) ?_
   refine zG 7 rfl rfl rfl (kC rfl F.one3) ?_
   refine zG 8 rfl rfl rfl (qP (v := .int .i64 ((sm + pw : Nat) : Int)) rfl rfl (fun w => jM w (zX _ om om))) ?_
   refine qF 1 3 kr rfl rfl rfl rfl ?_ ?_
   ·refine zP rfl rfl F.one25 ?_
    refine zA (anb (an1 3 rfl ?_))
    refine yC (vs := [(0, .agg ([.int .i64 (pw : Int), .int .i64 (gn : Int), .int .i64 (nw : Int), .bool wd] : List Value).toArray)]) [.int .i64 (pw : Int), .int .i64 (gn : Int), .int .i64 (nw : Int), .bool wd] rfl rfl Try.underlying25 F.ti49 rfl rfl rfl (Lit.agg (l1 := [.int .i64 (pw : Int), .int .i64 (gn : Int), .int .i64 (nw : Int), .bool wd]) (l := []) rfl rfl) ?_
    intro b28
    refine zA (anb (an1 4 rfl ?_))
    refine kS rfl rfl rfl Try.underlying25 F.ti49 rfl rfl rfl (by unfold maxLen; omega) om ?_
    intro A2 c2
    refine zA (anb (zG 9 rfl rfl rfl (zY rfl F.fi27_0 F.ti25) ?_))
    refine an1 10 rfl ?_
    refine zI rfl rfl F.ti25 rfl ?_
    refine zA (anb (zG 11 rfl rfl rfl (kY rfl) ?_))
    refine adn ?_
    exact kA (A2, c2) trivial sbn pkk
   ·refine yC (vs := [(0, .agg ([.int .i64 (pw : Int), .int .i64 (gn : Int), .int .i64 (nw : Int), .bool wd] : List Value).toArray)]) [.int .i64 (pw : Int), .int .i64 (gn : Int), .int .i64 (nw : Int), .bool wd] rfl rfl Try.underlying25 F.ti49 rfl rfl rfl (Lit.agg (l1 := [.int .i64 (pw : Int), .int .i64 (gn : Int), .int .i64 (nw : Int), .bool wd]) (l := []) rfl rfl) ?_
    intro b28
    refine zA (anb (an1 1 rfl ?_))
    refine zP rfl rfl F.one25 ?_
    refine zA (anb (an1 4 rfl ?_))
    refine kS rfl rfl rfl Try.underlying25 F.ti49 rfl rfl rfl (by unfold maxLen; omega) om ?_
    intro A2 c2
    refine zA (anb (zG 9 rfl rfl rfl (zY rfl F.fi27_0 F.ti25) ?_))
    refine an1 10 rfl ?_
    refine zI rfl rfl F.ti25 rfl ?_
    refine zA (anb (zG 11 rfl rfl rfl (kY rfl) ?_))
    refine adn ?_
    exact kA (A2, c2) trivial sbn pkk
  ·rintro ⟨A2, c2⟩ -
   have hpw4 : pw <= 4 := hfo.2.1
   (try dsimp only)
   refine zN (zC (zB (zF rfl rfl (zJ rfl rfl rfl (fun w => xV w (show IntKind.i64.wrap (((i + 1 : Nat) : Int) - 1) = (i : Int) from by rw [zX _ om om]; omega)) ?_))))
   refine zE rfl rfl (zA (qH (i, t2, s3, A2, c2, fs ++ [⟨pw, gn, nw, wd⟩], sm + pw) ⟨by simp; omega, fun y hy => ?_, by simp; omega, hs3, by simp; omega⟩ tdo (by dsimp only; (try rw [List.length_append, List.length_singleton]); repeat (first | exact Sub.nil _ | refine Sub.cons rfl ?_)) (by dsimp only; rw [List.length_append, List.length_singleton]; rw [List.flatMap_append, List.flatMap_singleton]; repeat (first | exact Pck.nil _ | exact Pck.refl _ | (apply Pck.cons; focus ((repeat (first | exact Rem.here _ | apply Rem.there)); done)) | refine Pck.skip _ ?_))))
   rcases List.mem_append.1 hy with h | h
   ·exact hlo y h
   ·simp at h; subst h; exact hfo
 ·obtain rfl : i = 0 := by omega
  have hn0 : fs.length = n0 := by omega
  have hfl1 : 1 <= fs.length := by omega
  have hfl2 : fs.length <= nf := by omega
  refine kB (zT (zT (jI (zC (zD (zD (zB (zF rfl rfl (zF rfl rfl (zLt (lo := 1) (hi := ny) rfl rfl rfl hB hN hs2 om om om ?_))))))))))
  rintro s4 m0 hs4 hm0a hm0b
  refine zE rfl rfl (zA (zC (zZ (zFn 3 1 ?_))))
  refine vJ (G := Nat × Nat × Nat × Option Addr × Nat × List Nat) (fun g => g.1 + g.2.2.2.2.2.length = m0 ∧ (∀ x ∈ g.2.2.2.2.2, x <= 12) ∧ g.2.1 <= t1 + 1 + 3 * g.2.2.2.2.2.length ∧ g.2.2.1 < 18446744073709551616) (fun g => g.1) (fun g => [(0, .pointer (some ⟨hb, 0, none⟩)), (1, .int .i64 (nf : Int)), (2, .int .i64 (ny : Int)), (6, .pointer (some ⟨b6, 0, none⟩)), (7, .pointer (some ⟨b7, 0, none⟩)), (8, .int .i64 (sm : Int)), (11, .int .i64 (g.1 : Int))]) (fun g => .row 3 1 g.2.2.2.1 g.2.2.2.2.2.length g.2.2.2.2.1 (ints g.2.2.2.2.2) :: .row 49 4 A1 fs.length c1 (fs.flatMap Flt.cells) :: .blk b7 (.cells [.slice A1 fs.length c1, .int .i64 (kiln : Int), .slice g.2.2.2.1 g.2.2.2.2.2.length g.2.2.2.2.1].toArray 27 (0, 0)) :: .blk b6 (.cells [.slice none 0 0, .int .i64 0, .slice none 0 0].toArray 27 (0, 0)) :: .blk hb (hatO nA nums.length nc (g.2.1) (g.2.2.1)) :: T) (m0, t1 + 1, s4, none, 0, []) ⟨by simp, by simp, by simp, hs4⟩ sbn pkk ?_
  rintro ⟨i, t3, s5, A3, c3, ds⟩ ⟨hjl, hdo, ht3, hs5⟩
  (try dsimp only at hjl hdo ht3 hs5 ⊢)
  refine zD (zD (zB (zF rfl rfl (zJ rfl rfl rfl yX ?_))))
  refine zA (zC (zO rfl (fun hc1 => ?_) (fun hc1 => ?_)))
  ·obtain ⟨i, rfl⟩ : ∃ i', i = i' + 1 := ⟨i - 1, by omega⟩
   refine zR (zC (zD (zZ (xW (G := Option Addr × Nat × Nat × Nat) (fun x => x.2.2.1 < 18446744073709551616 ∧ x.2.2.2 <= 12) (fun x => [(0, .pointer (some ⟨hb, 0, none⟩)), (1, .int .i64 (nf : Int)), (2, .int .i64 (ny : Int)), (6, .pointer (some ⟨b6, 0, none⟩)), (7, .pointer (some ⟨b7, 0, none⟩)), (8, .int .i64 (sm : Int)), (11, .int .i64 ((i + 1 : Nat) : Int))]) (fun x => .row 3 1 x.1 (ds.length + 1) x.2.1 (ints ds ++ [.int .i64 (x.2.2.2 : Int)]) :: .row 49 4 A1 fs.length c1 (fs.flatMap Flt.cells) :: .blk b7 (.cells [.slice A1 fs.length c1, .int .i64 (kiln : Int), .slice x.1 (ds.length + 1) x.2.1].toArray 27 (0, 0)) :: .blk b6 (.cells [.slice none 0 0, .int .i64 0, .slice none 0 0].toArray 27 (0, 0)) :: .blk hb (hatO nA nums.length nc (t3 + 1 + 1 + 1) (x.2.2.1)) :: T) ?_ ?_))))
   ·refine kF [.b b7, .b hb, .r A3] F.follows 17 rfl [false, false, false, false, false, false, false, false, false, false, false, false, false, false, false, false, false] rfl ?_
    refine zG 0 rfl rfl rfl (zY rfl F.fi27_2 F.ti22) ?_
    refine zG 2 rfl rfl rfl (jG rfl) ?_
    refine zG 3 rfl rfl rfl (jG rfl) ?_
    refine zG 4 rfl rfl rfl (jG rfl) ?_
    refine zG 5 rfl rfl rfl (qP (v := .int .i64 ((sm / 2 : Nat) : Int)) rfl rfl (fun w => zT4 w om (by rw [show ((sm : Int).tdiv 2) = ((sm / 2 : Nat) : Int) from (Int.ofNat_tdiv sm 2).symm]; exact zX _ om om))) ?_
    refine zG 8 rfl rfl rfl (jG rfl) ?_
    refine zG 9 rfl rfl rfl (jG rfl) ?_
    refine qF 1 6 kr rfl rfl rfl rfl ?_ ?_
    ·refine zP rfl rfl F.one22 ?_
     refine zA (anb (an1 6 rfl ?_))
     refine zNy rfl rfl rfl ?_
     rw [show (if (1 : Int) < ((sm / 2 : Nat) : Int) then ((sm / 2 : Nat) : Int) else 1) = ((max 1 (sm / 2) : Nat) : Int) from by split <;> omega]
     refine zA (anb (an1 7 rfl ?_))
     refine yB rfl rfl rfl hB hN hs5 om om ?_
     rintro s6 y1 hs6 hy1
     refine zA (anb (an1 10 rfl ?_))
     refine yB rfl rfl rfl hB hN hs6 om om ?_
     rintro s7 y2 hs7 hy2
     refine zA (anb (an1 11 rfl ?_))
     refine kD (vs := [(0, _), (1, _), (2, _), (3, _), (4, _)]) rfl rfl Try.underlying22 F.ti3 rfl rfl rfl ?_
     intro b53
     refine zA (anb (an1 12 rfl ?_))
     refine vL [0, 1, 2, y1, y2] rfl rfl rfl hB hN hs7 om (by simp) (by simp) (InB.mem (b := b53)) ?_
     rintro s8 d1 hs8 hd1
     simp only [List.mem_cons, List.not_mem_nil, or_false] at hd1
     have hd12 : d1 <= 12 := by omega
     refine zA (anb (an1 13 rfl ?_))
     refine kD (vs := [(0, _)]) rfl rfl Try.underlying22 F.ti3 rfl rfl rfl ?_
     intro b55
     refine zA (anb (an1 14 rfl ?_))
     refine kS rfl rfl rfl Try.underlying22 F.ti3 rfl rfl rfl (by unfold maxLen; omega) om ?_
     intro A4 c4
     refine zA (anb (zG 15 rfl rfl rfl (zY rfl F.fi27_2 F.ti22) ?_))
     refine an1 16 rfl ?_
     refine zI rfl rfl F.ti22 rfl ?_
     refine zA (anb (adn ?_))
     exact kA (A4, c4, s8, d1) ⟨hs8, hd12⟩ sbn pkk
    ·refine zNy rfl rfl rfl ?_
     rw [show (if (1 : Int) < ((sm / 2 : Nat) : Int) then ((sm / 2 : Nat) : Int) else 1) = ((max 1 (sm / 2) : Nat) : Int) from by split <;> omega]
     refine zA (anb (qF 1 7 kr rfl rfl rfl rfl ?_ ?_))
     ·refine zP rfl rfl F.one22 ?_
      refine zA (anb (an1 7 rfl ?_))
      refine yB rfl rfl rfl hB hN hs5 om om ?_
      rintro s6 y1 hs6 hy1
      refine zA (anb (an1 10 rfl ?_))
      refine yB rfl rfl rfl hB hN hs6 om om ?_
      rintro s7 y2 hs7 hy2
      refine zA (anb (an1 11 rfl ?_))
      refine kD (vs := [(0, _), (1, _), (2, _), (3, _), (4, _)]) rfl rfl Try.underlying22 F.ti3 rfl rfl rfl ?_
      intro b53
      refine zA (anb (an1 12 rfl ?_))
      refine vL [0, 1, 2, y1, y2] rfl rfl rfl hB hN hs7 om (by simp) (by simp) (InB.mem (b := b53)) ?_
      rintro s8 d1 hs8 hd1
      simp only [List.mem_cons, List.not_mem_nil, or_false] at hd1
      have hd12 : d1 <= 12 := by omega
      refine zA (anb (an1 13 rfl ?_))
      refine kD (vs := [(0, _)]) rfl rfl Try.underlying22 F.ti3 rfl rfl rfl ?_
      intro b55
      refine zA (anb (an1 14 rfl ?_))
      refine kS rfl rfl rfl Try.underlying22 F.ti3 rfl rfl rfl (by unfold maxLen; omega) om ?_
      intro A4 c4
      refine zA (anb (zG 15 rfl rfl rfl (zY rfl F.fi27_2 F.ti22) ?_))
      refine an1 16 rfl ?_
      refine zI rfl rfl F.ti22 rfl ?_
      refine zA (anb (adn ?_))
      exact kA (A4, c4, s8, d1) ⟨hs8, hd12⟩ sbn pkk
     ·refine yB rfl rfl rfl hB hN hs5 om om ?_
      rintro s6 y1 hs6 hy1
      refine zA (anb (qF 1 10 kr rfl rfl rfl rfl ?_ ?_))
      ·refine zP rfl rfl F.one22 ?_
       refine zA (anb (an1 10 rfl ?_))
       refine yB rfl rfl rfl hB hN hs6 om om ?_
       rintro s7 y2 hs7 hy2
       refine zA (anb (an1 11 rfl ?_))
       refine kD (vs := [(0, _), (1, _), (2, _), (3, _), (4, _)]) rfl rfl Try.underlying22 F.ti3 rfl rfl rfl ?_
       intro b53
       refine zA (anb (an1 12 rfl ?_))
       refine vL [0, 1, 2, y1, y2] rfl rfl rfl hB hN hs7 om (by simp) (by simp) (InB.mem (b := b53)) ?_
       rintro s8 d1 hs8 hd1
       simp only [List.mem_cons, List.not_mem_nil, or_false] at hd1
       have hd12 : d1 <= 12 := by omega
       refine zA (anb (an1 13 rfl ?_))
       refine kD (vs := [(0, _)]) rfl rfl Try.underlying22 F.ti3 rfl rfl rfl ?_
       intro b55
       refine zA (anb (an1 14 rfl ?_))
       refine kS rfl rfl rfl Try.underlying22 F.ti3 rfl rfl rfl (by unfold maxLen; omega) om ?_
       intro A4 c4
       refine zA (anb (zG 15 rfl rfl rfl (zY rfl F.fi27_2 F.ti22) ?_))
       refine an1 16 rfl ?_
       refine zI rfl rfl F.ti22 rfl ?_
       refine zA (anb (adn ?_))
       exact kA (A4, c4, s8, d1) ⟨hs8, hd12⟩ sbn pkk
      ·refine yB rfl rfl rfl hB hN hs6 om om ?_
       rintro s7 y2 hs7 hy2
       refine zA (anb (qF 1 11 kr rfl rfl rfl rfl ?_ ?_))
       ·refine zP rfl rfl F.one22 ?_
        refine zA (anb (an1 11 rfl ?_))
        refine kD (vs := [(0, _), (1, _), (2, _), (3, _), (4, _)]) rfl rfl Try.underlying22 F.ti3 rfl rfl rfl ?_
        intro b53
        refine zA (anb (an1 12 rfl ?_))
        refine vL [0, 1, 2, y1, y2] rfl rfl rfl hB hN hs7 om (by simp) (by simp) (InB.mem (b := b53)) ?_
        rintro s8 d1 hs8 hd1
        simp only [List.mem_cons, List.not_mem_nil, or_false] at hd1
        have hd12 : d1 <= 12 := by omega
        refine zA (anb (an1 13 rfl ?_))
        refine kD (vs := [(0, _)]) rfl rfl Try.underlying22 F.ti3 rfl rfl rfl ?_
        intro b55
        refine zA (anb (an1 14 rfl ?_))
        refine kS rfl rfl rfl Try.underlying22 F.ti3 rfl rfl rfl (by unfold maxLen; omega) om ?_
        intro A4 c4
        refine zA (anb (zG 15 rfl rfl rfl (zY rfl F.fi27_2 F.ti22) ?_))
        refine an1 16 rfl ?_
        refine zI rfl rfl F.ti22 rfl ?_
        refine zA (anb (adn ?_))
        exact kA (A4, c4, s8, d1) ⟨hs8, hd12⟩ sbn pkk
       ·refine kD (vs := [(0, _), (1, _), (2, _), (3, _), (4, _)]) rfl rfl Try.underlying22 F.ti3 rfl rfl rfl ?_
        intro b53
        refine zA (anb (qF 1 12 kr rfl rfl rfl rfl ?_ ?_))
        ·refine zP rfl rfl F.one22 ?_
         refine zA (anb (an1 12 rfl ?_))
         refine vL [0, 1, 2, y1, y2] rfl rfl rfl hB hN hs7 om (by simp) (by simp) (InB.mem (b := b53)) ?_
         rintro s8 d1 hs8 hd1
         simp only [List.mem_cons, List.not_mem_nil, or_false] at hd1
         have hd12 : d1 <= 12 := by omega
         refine zA (anb (an1 13 rfl ?_))
         refine kD (vs := [(0, _)]) rfl rfl Try.underlying22 F.ti3 rfl rfl rfl ?_
         intro b55
         refine zA (anb (an1 14 rfl ?_))
         refine kS rfl rfl rfl Try.underlying22 F.ti3 rfl rfl rfl (by unfold maxLen; omega) om ?_
         intro A4 c4
         refine zA (anb (zG 15 rfl rfl rfl (zY rfl F.fi27_2 F.ti22) ?_))
         refine an1 16 rfl ?_
         refine zI rfl rfl F.ti22 rfl ?_
         refine zA (anb (adn ?_))
         exact kA (A4, c4, s8, d1) ⟨hs8, hd12⟩ sbn pkk
        ·refine vL [0, 1, 2, y1, y2] rfl rfl rfl hB hN hs7 om (by simp) (by simp) (InB.mem (b := b53)) ?_
         rintro s8 d1 hs8 hd1
         simp only [List.mem_cons, List.not_mem_nil, or_false] at hd1
         have hd12 : d1 <= 12 := by omega
         refine zA (anb (qF 1 13 kr rfl rfl rfl rfl ?_ ?_))
         ·refine zP rfl rfl F.one22 ?_
          refine zA (anb (an1 13 rfl ?_))
          refine kD (vs := [(0, _)]) rfl rfl Try.underlying22 F.ti3 rfl rfl rfl ?_
          intro b55
          refine zA (anb (an1 14 rfl ?_))
          refine kS rfl rfl rfl Try.underlying22 F.ti3 rfl rfl rfl (by unfold maxLen; omega) om ?_
          intro A4 c4
          refine zA (anb (zG 15 rfl rfl rfl (zY rfl F.fi27_2 F.ti22) ?_))
          refine an1 16 rfl ?_
          refine zI rfl rfl F.ti22 rfl ?_
          refine zA (anb (adn ?_))
          exact kA (A4, c4, s8, d1) ⟨hs8, hd12⟩ sbn pkk
         ·refine kD (vs := [(0, _)]) rfl rfl Try.underlying22 F.ti3 rfl rfl rfl ?_
          intro b55
          refine zA (anb (an1 1 rfl ?_))
          refine zP rfl rfl F.one22 ?_
          refine zA (anb (an1 14 rfl ?_))
          refine kS rfl rfl rfl Try.underlying22 F.ti3 rfl rfl rfl (by unfold maxLen; omega) om ?_
          intro A4 c4
          refine zA (anb (zG 15 rfl rfl rfl (zY rfl F.fi27_2 F.ti22) ?_))
          refine an1 16 rfl ?_
          refine zI rfl rfl F.ti22 rfl ?_
          refine zA (anb (adn ?_))
          exact kA (A4, c4, s8, d1) ⟨hs8, hd12⟩ sbn pkk
   ·rintro ⟨A4, c4, s8, d1⟩ ⟨hs8, hd12⟩
    dsimp only at hs8 hd12 ⊢
    refine zN (zC (zB (zF rfl rfl (zJ rfl rfl rfl (fun w => xV w (show IntKind.i64.wrap (((i + 1 : Nat) : Int) - 1) = (i : Int) from by rw [zX _ om om]; omega)) ?_))))
    refine zE rfl rfl (zA (qH (i, t3 + 1 + 1 + 1, s8, A4, c4, ds ++ [d1]) ⟨by simp; omega, fun y hy => ?_, by simp; omega, hs8⟩ tdo (by dsimp only; (try rw [List.length_append, List.length_singleton]); repeat (first | exact Sub.nil _ | refine Sub.cons rfl ?_)) (by dsimp only; rw [List.length_append, List.length_singleton]; rw [zE0]; repeat (first | exact Pck.nil _ | exact Pck.refl _ | (apply Pck.cons; focus ((repeat (first | exact Rem.here _ | apply Rem.there)); done)) | refine Pck.skip _ ?_))))
    rcases List.mem_append.1 hy with h | h
    ·exact hdo y h
    ·simp at h; subst h; exact hd12
  ·obtain rfl : i = 0 := by omega
   refine kB (zT (zT (jI (zC (zD (zB (jB rfl rfl F.agg27 F.ti27 ?_)))))))
   refine zI rfl rfl F.ti27 rfl ?_
   refine zA (zC (zV ?_))
   exact jE rfl (fun a w ha => by exact qN (ha := ha) rfl rfl F.agg27 F.ti27 rfl) (fun _ _ ha' => ⟨t3, s5, kiln, fs, ds, A1, A3, c1, c3, by omega, hs5, hfl2, by omega, ⟨hfl1, by omega, hlo, by omega, by omega, by omega, hdo⟩, rfl, ha.back (ha'.pck pkk)⟩)

theorem zVy {C : Ctx} {fr : List (Nat × Value)} {T : List Res} {a : Act} {w : World} (hC : C.P = Try.prog) {hb tk st nc : Nat} {nA : Option Addr} {nums : List Int} (hB : C.w0.heap.size = C.B) (hN : RdL icell 1 C.w0 nA nums) (htk : tk <= 700000) (hst : st < 18446744073709551616) (ha : At C fr (.blk hb (hatO nA nums.length nc (tk) (st)) :: T) a w) : Calls C.P 22 #[.pointer (some ⟨hb, 0, none⟩)] w fun e w' => ∃ (tk' st' kiln : Nat) (fs : List Flt) (days : List Nat) (A D : Option Addr) (c dc : Nat), tk' <= tk + 101 ∧ st' < 18446744073709551616 ∧ ChV fs kiln days ∧ e = .returned (.agg [.slice A fs.length c, .int .i64 (kiln : Int), .slice D days.length dc].toArray) ∧ At C fr (.row 49 4 A fs.length c (fs.flatMap Flt.cells) :: .row 3 1 D days.length dc (ints days) :: .blk hb (hatO nA nums.length nc (tk') (st')) :: T) a w' := by
 obtain ⟨P, B, w0, N0, ds⟩ := C
 obtain rfl : P = Try.prog := hC
 (try dsimp only at hB)
 (try dsimp only at hN)
 refine vN (N := 9) [(0, .pointer (some ⟨hb, 0, none⟩))] ha Try.func22 rfl Try.ntmps22 rfl rfl ?_
 refine zD (zB (zU rfl F.ti27 ?_))
 intro b2
 refine zA (zC (zD (zD (zB (zF rfl rfl (zBv rfl rfl rfl hB hN hst om om om ?_))))))
 rintro s1 sb hs1
 refine zA (zC (kO rfl (fun hc0 => ?_) (fun hc0 => ?_)))
 ·refine zD (zB (zF rfl rfl (zEc (X := Nat × Nat × Nat × List Flt × List Nat × Option Addr × Option Addr × Nat × Nat) (vs := [_, _, _]) hb (fun y => hatO nA nums.length nc y.1 y.2.1) (fun y => [.row 49 4 y.2.2.2.2.2.1 y.2.2.2.1.length y.2.2.2.2.2.2.2.1 (y.2.2.2.1.flatMap Flt.cells), .row 3 1 y.2.2.2.2.2.2.1 y.2.2.2.2.1.length y.2.2.2.2.2.2.2.2 (ints y.2.2.2.2.1)]) (fun y => y.1 <= (tk + 1) + 100 ∧ y.2.1 < 18446744073709551616 ∧ y.2.2.2.1.length <= 3 ∧ y.2.2.2.2.1.length <= 2 ∧ ChV y.2.2.2.1 y.2.2.1 y.2.2.2.2.1) (fun y => .agg [.slice y.2.2.2.2.2.1 y.2.2.2.1.length y.2.2.2.2.2.2.2.1, .int .i64 (y.2.2.1 : Int), .slice y.2.2.2.2.2.2.1 y.2.2.2.2.1.length y.2.2.2.2.2.2.2.2].toArray) rfl rfl F.ent14 (fun a w ha => (zK8 (C := ⟨Try.prog, B, w0, _, _⟩) rfl hB hN (tk := (tk + 1)) (st := s1) (nf := 3) (ny := 2) om hs1 om om om om ha).mono (fun e w' h => by obtain ⟨t', s', k', f', d', A', D', c', dc', h1, h2, h3, h4, h5, h6, h7⟩ := h; exact ⟨(t', s', k', f', d', A', D', c', dc'), ⟨h1, h2, h3, h4, h5⟩, h6, h7⟩)) ?_)))
  rintro ⟨t2, s2, kiln, fs, days, A, D, c, dc⟩ ⟨ht2, hs2, hfsl, hdaysl, hfsv⟩
  dsimp only [List.cons_append, List.nil_append] at ht2 hs2 hfsl hdaysl hfsv ⊢
  refine zI rfl rfl F.ti27 rfl ?_
  refine zA (zC (zV (zW ?_)))
  exact jE rfl (fun a w ha => by exact qN (ha := ha) rfl rfl F.agg27 F.ti27 rfl) (fun _ _ ha' => ⟨t2, s2, kiln, fs, days, A, D, c, dc, by omega, hs2, hfsv, rfl, ha.back (ha'.pck pkk)⟩)
 ·refine zR (zC (zD (zB (zF rfl rfl (zEc (X := Nat × Nat × Nat × List Flt × List Nat × Option Addr × Option Addr × Nat × Nat) (vs := [_, _, _]) hb (fun y => hatO nA nums.length nc y.1 y.2.1) (fun y => [.row 49 4 y.2.2.2.2.2.1 y.2.2.2.1.length y.2.2.2.2.2.2.2.1 (y.2.2.2.1.flatMap Flt.cells), .row 3 1 y.2.2.2.2.2.2.1 y.2.2.2.2.1.length y.2.2.2.2.2.2.2.2 (ints y.2.2.2.2.1)]) (fun y => y.1 <= (tk + 1) + 100 ∧ y.2.1 < 18446744073709551616 ∧ y.2.2.2.1.length <= 2 ∧ y.2.2.2.2.1.length <= 4 ∧ ChV y.2.2.2.1 y.2.2.1 y.2.2.2.2.1) (fun y => .agg [.slice y.2.2.2.2.2.1 y.2.2.2.1.length y.2.2.2.2.2.2.2.1, .int .i64 (y.2.2.1 : Int), .slice y.2.2.2.2.2.2.1 y.2.2.2.2.1.length y.2.2.2.2.2.2.2.2].toArray) rfl rfl F.ent14 (fun a w ha => (zK8 (C := ⟨Try.prog, B, w0, _, _⟩) rfl hB hN (tk := (tk + 1)) (st := s1) (nf := 2) (ny := 4) om hs1 om om om om ha).mono (fun e w' h => by obtain ⟨t', s', k', f', d', A', D', c', dc', h1, h2, h3, h4, h5, h6, h7⟩ := h; exact ⟨(t', s', k', f', d', A', D', c', dc'), ⟨h1, h2, h3, h4, h5⟩, h6, h7⟩)) ?_)))))
  rintro ⟨t2, s2, kiln, fs, days, A, D, c, dc⟩ ⟨ht2, hs2, hfsl, hdaysl, hfsv⟩
  dsimp only [List.cons_append, List.nil_append] at ht2 hs2 hfsl hdaysl hfsv ⊢
  refine zI rfl rfl F.ti27 rfl ?_
  refine zA (zC (zV ?_))
  exact jE rfl (fun a w ha => by exact qN (ha := ha) rfl rfl F.agg27 F.ti27 rfl) (fun _ _ ha' => ⟨t2, s2, kiln, fs, days, A, D, c, dc, by omega, hs2, hfsv, rfl, ha.back (ha'.pck pkk)⟩)

end Go.Proofs.Yteppiphdbondeaa.N
namespace Go.Proofs.Yteppiphdbondeaa.N
open Go Go.RowKit Go.Proofs
set_option linter.unusedSectionVars false
theorem zVc (o x : Oc) : (lst2 o x).is = (o.is || x.is) := by
 unfold lst2 oless
 cases ho : o.is <;> cases hx : x.is <;> simp [ho, hx] <;> split <;> simp_all
theorem zNj (g : List Nat -> Oc) : ∀ (ls : List (List Nat)) (o : Oc), (ls.foldl (fun o l => lst2 o (g l)) o).is = (o.is || ls.any fun l => (g l).is)
 | [], o => by simp
 | l :: ls, o => by rw [List.foldl_cons, zNj g ls, zVc, List.any_cons, Bool.or_assoc]
section
variable {alw : Nat -> List Nat -> Bool} {las : Mor -> Bool} {fs : List Flt} {kiln : Nat} {days : List Nat}
theorem zRn {n : Nat} (h : n + 1 <= days.length) : days.drop (days.length - (n + 1)) = days.getD (days.length - (n + 1)) 0 :: days.drop (days.length - n) := by
 rw [List.drop_eq_getElem_cons om, List.getD_eq_getElem?_getD, List.getElem?_eq_getElem om, show days.length - (n + 1) + 1 = days.length - n from by omega]
 rfl
end
theorem Grew.less {w w' : World} {rs : List Res} (h : Grew w w' rs) : Grew w w' [] := ⟨h.1, fun _ h => by simp at h, by simp⟩
def oF (o : Oc) : Nat := if o.is then o.f else 0
def oE (o : Oc) : Nat := if o.is then 0 else 11
section
variable [I : Sys] {C : Ctx} {fr : List (Nat × Value)} {hp : List Res} {a : Act} {w : World}
theorem zVn (ha : At C fr hp a w) {A : Option Addr} {e size n c : Nat} {xs : List Value} [hr : InR A e size n c xs hp] : n <= c := by
 rcases (ha.own _ hr.mem).2 with ⟨h1, h2⟩ | ⟨g, cap, cur, hv, h1, h2, h3, _, h5, _⟩
 ·omega
 ·injection hv with _ _ e3
  omega
theorem zD5 (ha : At C fr hp a w) {A : Option Addr} {c n : Nat} {l : List Nat} [hr : InR A 3 1 n c (ints l) hp] (hn : n = l.length) : RdL ncell 1 w A l :=
 qW ha (cells := ncell) (size := 1) (e := 3) (c := c) (n := n) (l := l) (fun _ => rfl) (by rw [<- zQd]; exact hr.mem) hn
theorem zDr (ha : At C fr hp a w) {A : Option Addr} {c n : Nat} {l : List Flt} [hr : InR A 49 4 n c (l.flatMap Flt.cells) hp] (hn : n = l.length) : RdL Flt.cells 4 w A l :=
 qW ha (cells := Flt.cells) (size := 4) (e := 49) (c := c) (n := n) (l := l) (fun _ => rfl) hr.mem hn
theorem zS6 {l : List Oper} {ops : Array Oper} {Q : Exit -> Act -> World -> Prop} (A : Option Addr) {e size n c : Nat} {xs : List Value} [hr : InR A e size n c xs hp] (k : n <= c -> Lst C ops Q l fr hp) : Lst C ops Q l fr hp := fun a w ha => k (zVn (A := A) ha) a w ha
theorem zJb {fA dA : Option Addr} {fc dc kiln : Nat} {fs : List Flt} {days : List Nat} (hc : ChV fs kiln days) (w : World) (hF : RdL Flt.cells 4 w fA fs) (hD : RdL ncell 1 w dA days) :
  Calls Try.prog 15 #[.agg (CA fA fs.length fc kiln dA days.length dc).toArray] w fun e w' => ∃ (oA : Option Addr) (on oc : Nat), e = .returned (.tuple #[.slice oA on oc, .int .i64 ((oF (bstA fs kiln days) : Nat) : Int), .int .i64 ((oE (bstA fs kiln days) : Nat) : Int)]) ∧ Grew w w' [] := by
 refine (zLk hc w hF hD).mono ?_
 rintro e w' ⟨oA, oc, mr, hcase, hg⟩
 rcases hcase with ⟨h1, _, h3⟩ | ⟨h1, _, h3⟩
 ·exact ⟨oA, mr.length, oc, by rw [h3]; simp [oF, oE, h1], hg.less⟩
 ·exact ⟨none, 0, 0, by rw [h3]; simp [oF, oE, h1], hg.less⟩
end
end Go.Proofs.Yteppiphdbondeaa.N
namespace Go.Proofs.Yteppiphdbondeaa.N
open Go Go.RowKit Go.Proofs
set_option linter.unusedSectionVars false
variable [I : Sys]
theorem zTw {fA dA : Option Addr} {fc dc kiln : Nat} {fs : List Flt} {days : List Nat} (hc : ChV fs kiln days) (w : World) (hF : RdL Flt.cells 4 w fA fs) (hD : RdL ncell 1 w dA days) : Calls Try.prog 25 #[.agg (CA fA fs.length fc kiln dA days.length dc).toArray] w fun e w' => e = .returned (.tuple #[.bool (bstA fs kiln days).is, .bool true]) ∧ Grew w w' [] := by
 refine enter (N := 21) [(0, .agg (CA fA fs.length fc kiln dA days.length dc).toArray)] Try.func25 rfl Try.ntmps25 rfl rfl ?_
 refine zD (zB (jS rfl rfl ?_))
 intro b1
 refine zE rfl rfl (zE rfl rfl (zA (zC (zD ?_))))
 rcases his : (bstA fs kiln days).is with _ | _
 ·refine zB (jB rfl rfl F.agg27 F.ti27 ?_)
  refine qB (X := Option Addr × Nat × Nat) (vs := [_]) (p := fun _ => True) (val := fun g => .tuple #[.slice g.1 g.2.1 g.2.2, .int .i64 ((oF (bstA fs kiln days) : Nat) : Int), .int .i64 ((oE (bstA fs kiln days) : Nat) : Int)]) (rs := fun g => []) rfl rfl F.ent15 (fun a w ha => (zJb hc w (hF.later ha.below) (hD.later ha.below)).mono (fun e w' h => by obtain ⟨oA, on, oc, h1, h2⟩ := h; exact ⟨(oA, on, oc), trivial, h1, h2⟩)) ?_
  rintro ⟨oA, on, oc⟩ -
  dsimp only [List.nil_append]
  rw [show oE (bstA fs kiln days) = 11 from by simp [oE, his]]
  refine zF rfl rfl (zS rfl rfl rfl (zS rfl rfl rfl (zS rfl rfl rfl (zE rfl rfl (zE rfl rfl (zE rfl rfl (zA (zC (zD (zB (zF rfl rfl (zJ rfl rfl rfl jV ?_))))))))))))
  refine zF rfl rfl (zJ rfl rfl rfl jV ?_)
  refine zF rfl rfl (zM rfl rfl (zF rfl rfl (zM rfl rfl (zJ rfl rfl rfl jV ?_))))
  refine jN rfl rfl rfl (zE rfl rfl (zE rfl rfl (zA (zC (zV ?_)))))
  exact jE rfl (fun a w ha => xN rfl rfl rfl ha) (fun a w ha => ⟨by rfl, ha.grown nsl⟩)
 ·refine zB (jB rfl rfl F.agg27 F.ti27 ?_)
  refine qB (X := Option Addr × Nat × Nat) (vs := [_]) (p := fun _ => True) (val := fun g => .tuple #[.slice g.1 g.2.1 g.2.2, .int .i64 ((oF (bstA fs kiln days) : Nat) : Int), .int .i64 ((oE (bstA fs kiln days) : Nat) : Int)]) (rs := fun g => []) rfl rfl F.ent15 (fun a w ha => (zJb hc w (hF.later ha.below) (hD.later ha.below)).mono (fun e w' h => by obtain ⟨oA, on, oc, h1, h2⟩ := h; exact ⟨(oA, on, oc), trivial, h1, h2⟩)) ?_
  rintro ⟨oA, on, oc⟩ -
  dsimp only [List.nil_append]
  rw [show oE (bstA fs kiln days) = 0 from by simp [oE, his]]
  refine zF rfl rfl (zS rfl rfl rfl (zS rfl rfl rfl (zS rfl rfl rfl (zE rfl rfl (zE rfl rfl (zE rfl rfl (zA (zC (zD (zB (zF rfl rfl (zJ rfl rfl rfl jV ?_))))))))))))
  refine zF rfl rfl (zJ rfl rfl rfl jV ?_)
  refine zF rfl rfl (jD rfl rfl rfl (jD rfl rfl rfl (jH rfl rfl rfl (zE rfl rfl (zE rfl rfl (zA (zC (zV ?_))))))))
  exact jE rfl (fun a w ha => xN rfl rfl rfl ha) (fun a w ha => ⟨by rfl, ha.grown nsl⟩)

theorem F.ent13 : Enters Try.prog 13 := jC Try.func13 rfl (by kernel_rfl)
theorem F.ent20 : Enters Try.prog 20 := jC Try.func20 rfl (by kernel_rfl)
theorem F.ent22 : Enters Try.prog 22 := jC Try.func22 rfl (by kernel_rfl)
theorem F.ent25 : Enters Try.prog 25 := jC Try.func25 rfl (by kernel_rfl)
end Go.Proofs.Yteppiphdbondeaa.N
namespace Go.Proofs.Yteppiphdbondeaa.N
open Go Go.RowKit Go.Proofs
set_option linter.unusedSectionVars false
section
variable [I : Sys] {C : Ctx} {fr : List (Nat × Value)} {hp hp' : List Res} {a : Act} {w : World} {ops : Array Oper} {Q : Exit -> Act -> World -> Prop} {rest : List Oper} {d : Nat} {ty : TypeId} {pos : String} {after : Array Edge}
theorem zVv {l : List Oper} (A : Option Addr) {e size n c : Nat} {xs : List Value} [hr : InR A e size n c xs hp] (hn : 0 < n) (k : ∀ g, A = some ⟨g, 0, none⟩ -> Lst C ops Q l fr hp) : Lst C ops Q l fr hp := fun a w ha => by
 obtain ⟨g, hg⟩ := zCc (ha.own _ hr.mem) hn
 exact k g hg a w ha
end
theorem zRf : exts [] 0 = [[]] := rfl
theorem zS5 (kiln : Nat) (m : Mor) (d : Nat) : dayE [] kiln m [] d = if d = 0 then (0, m) else (9, m) := by
 unfold dayE barred firesN dRun
 simp
 by_cases h : d = 0
 ·simp [h]
 ·rw [if_pos om, if_neg h]
theorem zNw {kiln : Nat} {days : List Nat} {las : Mor -> Bool} : ∀ (n : Nat), n <= days.length -> ∀ m, las m = true -> (bstO (fun _ _ => true) las [] kiln days n m).is = (days.drop (days.length - n)).all (· == 0)
 | 0, _, m, hl => by simp [bstO, hl]
 | n + 1, hn, m, hl => by
  have ih := zNw (las := las) (kiln := kiln) (days := days) n om m hl
  rw [zRn (days := days) hn, List.all_cons, <- ih]
  show ((exts [] 0).foldl (fun o l => lst2 o (stpO (fun _ _ => true) [] kiln days (bstO (fun _ _ => true) las [] kiln days n) (days.length - (n + 1)) m l)) noOc).is = _
  rw [zRf, zNj]
  simp only [List.any_cons, List.any_nil, Bool.or_false, noOc, Bool.false_or]
  unfold stpO
  rw [if_neg (by simp), zS5]
  by_cases h : days.getD (days.length - (n + 1)) 0 = 0
  ·rw [if_pos h, if_neg (by simp), h]; simp
  ·rw [if_neg h, if_pos (by simp)]
   have : (days.getD (days.length - (n + 1)) 0 == 0) = false := by simpa using h
   rw [this]; rfl
theorem zGq {kiln : Nat} {days : List Nat} : (bstA [] kiln days).is = days.all (· == 0) := by
 have h := zNw (kiln := kiln) (las := fun _ => true) (days := days) days.length (Nat.le_refl _) (start []) rfl
 rw [Nat.sub_self, List.drop_zero] at h
 exact h
structure ChW (fs : List Flt) (kiln : Nat) (days : List Nat) : Prop where
 f3 : fs.length <= 3
 ff : ∀ f ∈ fs, FltOk f
 k3 : kiln <= 3
 d1 : 1 <= days.length
 d4 : days.length <= 4
 dd : ∀ n ∈ days, n <= 12
theorem ChV.w {fs : List Flt} {kiln : Nat} {days : List Nat} (h : ChV fs kiln days) : ChW fs kiln days := ⟨h.f3, h.ff, h.k3, h.d1, h.d4, h.dd⟩
theorem ChW.v {fs : List Flt} {kiln : Nat} {days : List Nat} (h : ChW fs kiln days) (h1 : 1 <= fs.length) : ChV fs kiln days := ⟨h1, h.f3, h.ff, h.k3, h.d1, h.d4, h.dd⟩
end Go.Proofs.Yteppiphdbondeaa.N
namespace Go.Proofs.Yteppiphdbondeaa.N
open Go Go.RowKit Go.Proofs
set_option linter.unusedSectionVars false
variable [I : Sys]

theorem zVr {fA dA : Option Addr} {fc dc kiln : Nat} {fs : List Flt} {days : List Nat} (h : ChW fs kiln days) : (anyS fA dA fc dc kiln fs days).Ok := ⟨h.f3, h.ff, Nat.le_succ_of_le h.d4, h.dd, jC Try.func66 rfl (by kernel_rfl), jC Try.func67 rfl (by kernel_rfl)⟩

set_option maxRecDepth 4000 in
theorem zHx {fA dA : Option Addr} {fc dc kiln : Nat} {fs : List Flt} {days : List Nat} (hc : ChW fs kiln days) (w : World) (hF : RdL Flt.cells 4 w fA fs) (hD : RdL ncell 1 w dA days) : Calls Try.prog 62 #[.agg (CA fA fs.length fc kiln dA days.length dc).toArray] w fun e w' => e = .returned (.bool (bstA fs kiln days).is) ∧ Grew w w' [] := by
 refine enter (N := 32) [(0, .agg (CA fA fs.length fc kiln dA days.length dc).toArray)] Try.func62 rfl Try.ntmps62 rfl rfl ?_
 refine zD (zB (jS rfl rfl ?_))
 intro b1
 refine zE rfl rfl (zA (zC (zD (zD (zB (zL rfl rfl F.fi27_0 F.ti25 ?_))))))
 refine zP rfl rfl F.one25 ?_
 refine jU rfl rfl Try.underlying25 ?_
 refine zJ rfl rfl rfl jV ?_
 refine zA (zC (zO rfl (fun hc0 => ?_) (fun hc0 => ?_)))
 ·have hf0 : fs = [] := List.length_eq_zero_iff.1 om
  subst hf0
  refine zD (zD (zB (zL rfl rfl F.fi27_2 F.ti22 ?_)))
  refine zP rfl rfl F.one22 ?_
  refine jU rfl rfl Try.underlying22 ?_
  refine zF rfl rfl (zA (zC (zZ (vJ (G := Nat) (fun k => k <= days.length ∧ ∀ x ∈ days.take k, x = 0) (fun k => days.length - k) (fun k => [(11, .slice dA days.length dc), (12, .int .i64 (days.length : Int)), (13, .int .i64 (k : Int))]) (fun k => []) 0 ⟨Nat.zero_le _, by simp⟩ sbn pkk ?_))))
  rintro k ⟨hk1, hk2⟩
  refine zD (zB (zJ rfl rfl rfl kJ ?_))
  refine zA (zC (zD (zO rfl (fun hc1 => ?_) (fun hc1 => ?_))))
  ·have hk : k < days.length := by omega
   have hd4 := hc.d4
   obtain ⟨bd, bo, hdA, hbd, hcd⟩ := hD om
   obtain ⟨x, hx⟩ : ∃ x, days[k]? = some x := ⟨_, List.getElem?_eq_getElem hk⟩
   refine zR (zC (zD (zZ (zD (zB (qS (j := k) rfl (show _ = some (Value.slice (some ⟨bd, bo, none⟩) days.length dc) from by rw [<- hdA]; rfl) rfl Try.underlying22 F.ti3 rfl hk ?_))))))
   refine kT (v := .int .i64 (x : Int)) rfl rfl F.one3 (fun a w ha => ha.old (hcd k x hx 0 _ rfl) hbd) ?_
   refine zE rfl rfl (zA (zC (zD (zB (zF rfl rfl (zJ rfl rfl rfl yX ?_))))))
   refine zA (zC (zO rfl (fun hc2 => ?_) (fun hc2 => ?_)))
   ·refine zD (zB (zE rfl rfl (zA (zC (zV (jP (zW (zW (jP (zW (zW ?_)))))))))))
    exact jE rfl (fun a w ha => jO rfl rfl ha) (fun a w ha => ⟨by rw [zGq, List.all_eq_false.2 ⟨x, List.mem_of_getElem? hx, by simp; omega⟩], ha.grown nsl⟩)
   ·refine zR (zN (zC (zB (zJ rfl rfl rfl (fun w => jM w (zX _ om om)) ?_))))
    refine zF rfl rfl (zA (qH (k + 1) ⟨by omega, fun y hy => ?_⟩ tdo sbn pkk))
    rw [List.take_add_one, hx] at hy
    rcases List.mem_append.1 hy with h | h
    ·exact hk2 y h
    ·simp at h; omega
  ·have hkl : k = days.length := by omega
   subst hkl
   rw [List.take_length] at hk2
   refine kB (zT (zT (jI (zC (zD (zB (zE rfl rfl (zA (zC (zV (zW ?_)))))))))))
   exact jE rfl (fun a w ha => jO rfl rfl ha) (fun a w ha => ⟨by rw [zGq, List.all_eq_true.2 (fun x hx => by simpa using hk2 x hx)], ha.grown nsl⟩)
 ·have hm0 : MOk (start fs) := vX hc.f3 hc.ff _ (Nat.le_refl _)
  obtain ⟨x0, x1, x2, xw, hx, hx0, hx1, hx2, hxw⟩ := hm0.form
  refine zR (zC (zD (zB (jB rfl rfl F.agg27 F.ti27 ?_))))
  refine jT (vs := [(0, _)]) (l' := [_, _, _]) rfl rfl F.ti77 F.pl77 (.cons rfl rfl (.nil _)) rfl ?_
  refine qB (X := Nat × Nat) (vs := [_]) (p := fun _ => True) (val := fun g => .pointer (some ⟨g.1, 0, none⟩)) (rs := fun g => [.blk g.1 (.cells [.slice fA fs.length fc, .int .i64 (kiln : Int), .slice dA days.length dc, .func (.func 66) [].toArray [].toArray, .func (.func 67) [].toArray [].toArray, .map (some g.2)].toArray 101 (0, 0)), .blk g.2 (KS.obj [])]) rfl rfl F.ent48 (fun a w ha => (zDo fA dA fc days.length dc kiln fs w).mono (fun e w' h => by obtain ⟨b, km, h1, h2⟩ := h; exact ⟨(b, km), trivial, h1, h2⟩)) ?_
  rintro ⟨sb, km⟩ -
  dsimp only [List.cons_append, List.nil_append]
  refine zE rfl rfl (zA (zC (zD (zB (zF rfl rfl (zF rfl rfl (qG rfl rfl (vU rfl rfl F.fi101_0 F.ti77 ?_))))))))
  refine jB (o := 0) (l := (CA fA fs.length fc kiln dA days.length dc)) rfl rfl F.agg77 F.ti77 ?_
  refine jJ (v := .agg (V4 x0 x1 x2 xw).toArray) (vs := [_]) rfl rfl F.ent60 (fun a w ha => (zBw fA dA fc days.length dc kiln fs hc.f3 hc.ff w (hF.later ha.below)).mono (fun e w' h => ⟨h.1.trans (by rw [hx]; rfl), h.2⟩)) ?_
  refine jT (vs := [(0, _), (1, _)]) (l' := [_, _, _, _, _]) rfl rfl F.ti107 F.pl107 (.cons rfl rfl (.cons rfl rfl (.nil _))) rfl ?_
  refine qO (X := List (Spot × Value)) (first := []) (cap := []) (vs := [_, _]) (p := fun _ => True) (val := fun _ => .agg [.int .i64 ((bstA fs kiln days).f : Int), .int .i64 ((bstA fs kiln days).w : Int), .bool (bstA fs kiln days).is].toArray) (rs := fun kn' => [.blk km (KS.obj kn'), .blk sb (.cells [.slice fA fs.length fc, .int .i64 (kiln : Int), .slice dA days.length dc, .func (.func 66) [].toArray [].toArray, .func (.func 67) [].toArray [].toArray, .map (some km)].toArray 101 (0, 0))]) rfl rfl rfl F.ent68 (fun a w ha => ?_) ?_
  ·refine (zDk (s := (anyS fA dA fc dc kiln fs days)) (zVr hc) days.length _ _ [] _ _ _ _ _ [] km sb 0 x0 x1 x2 xw (by show 0 + days.length = days.length; omega) ⟨rfl, by simp; omega, hxw⟩ (KnOk.nil _) (zE8 hF hD) (ha.pck pkk)).mono ?_
   rintro e w' ⟨kn', h1, h2, h3⟩
   exact ⟨kn', trivial, h2.trans (by unfold bstA; rw [hx]; rfl), h3.pck pkk⟩
  rintro kn1 -
  dsimp only
  generalize bstA fs kiln days = o0
  refine zH7 rfl rfl (zHs rfl F.fi111_1 F.one4 rfl) ?_
  refine zE rfl rfl (zA (zC (zV ?_)))
  exact jE rfl (fun a w ha => jO rfl rfl ha) (fun a w ha => ⟨rfl, ha.grown nsl⟩)

theorem F.ent62 : Enters Try.prog 62 := jC Try.func62 rfl (by kernel_rfl)
end Go.Proofs.Yteppiphdbondeaa.N
namespace Go.Proofs.Yteppiphdbondeaa.N
open Go Go.RowKit Go.Proofs
set_option linter.unusedSectionVars false
theorem zK1 {P : Program} {t : TypeId} (ht : P.underlying t = some .bool) (u v : Bool) (x y : Operand) (w : World) : (do eqGuard .neq t x y (.bool u) (.bool v); binOp .neq t (.bool u) (.bool v) : Sem Value).run P w = .ok (.bool (u != v)) w := by
 have hg : (eqGuard .neq t x y (.bool u) (.bool v)).run P w = .ok () w := by simp [eqGuard]
 have hb : (binOp .neq t (.bool u) (.bool v)).run P w = .ok (.bool (u != v)) w := by
  show (do pure (.bool (!(<- Op.equal t (.bool u) (.bool v)))) : Sem Value).run P w = _
  have he : (Op.equal t (.bool u) (.bool v)).run P w = .ok (u == v) w := by
   show (Op.equalIn (9999 + 1) t (.bool u) (.bool v)).run P w = _
   unfold Op.equalIn
   simp only [Sem.run_bind, run_underlying ht, Result.andThen_ok]
   simp
  simp only [Sem.run_bind, he, Result.andThen_ok, Sem.run_pure]
  rfl
 simp only [Sem.run_bind, hg, Result.andThen_ok, hb]
theorem zRu [I : Sys] {C : Ctx} {fr : List (Nat × Value)} {hp : List Res} {dst : Option Tmp} {ty : TypeId} {pos : String} {after : Array Edge} {x : Operand} {p : Prop} [Decidable p] {t : TypeId} (hx : ev fr x = some (.bool (decide p))) : Yld C ⟨dst, .unOp .not t x, ty, pos, after, none⟩ fr hp (.bool (decide (¬ p))) := by
 rw [decide_not]
 exact zFk hx
section
variable [I : Sys] {C : Ctx} {fr : List (Nat × Value)} {hp hp' : List Res} {a : Act} {w : World} {ops : Array Oper} {Q : Exit -> Act -> World -> Prop} {rest : List Oper} {d : Nat} {dst : Option Nat} {ty : TypeId} {pos : String} {after : Array Edge}
theorem zFx {x y : Operand} {t e : TypeId} {A : Option Addr} {l len cap n m : Nat} {kd : IntKind} {i : Int} {z : Value} (hx : ev fr x = some (.slice A len cap)) (hy : ev fr y = some (.int kd i))
  (ht : C.P.underlying t = some (.slice e)) (he : TI C.P e z n m) (hi : i = (l : Int)) (hc : l <= len) : Yld C ⟨dst, .slice t x (some y) none none, ty, pos, after, none⟩ fr hp (.slice (if cap = l then A else A.map (·.add (l * n))) (len - l) (cap - l)) := by
 obtain ⟨i', hi', _, hs, _⟩ := he
 subst hi
 have hu := ht
 rw [<- zM7 ht] at hu
 refine ⟨rfl, fun a w ha => ⟨zBo .., ?_⟩⟩
 have h1 := run_slice_l (P := C.P) w t A len cap hu kd (l : Int) om om
 have h2 : (Instr.sliceAt t (.slice A len cap) (some (.int kd (l : Int))) none none).run C.P w = .ok (.slice (if cap = l then A else A.map (·.add (l * n))) (len - l) (cap - l)) w := by
  rw [run_sliceAt_slice _ _ _ _ _ _ hu, h1]
  have : (sizeOf (C.P.elem t)).run C.P w = .ok n w := by
   rw [zM7 ht]
   simp [sizeOf, typeInfo, hi', hs]
  rw [this]
  simp only [Result.andThen_ok, sliced, Int.toNat_natCast]
 simp only [execOp, ha.eval hx, Option.map, ha.eval hy, Sem.run_bind, h2, Result.andThen_ok, Sem.run_pure]
theorem zGt {x y : Operand} {t e : TypeId} {p q : Addr} {n m cb size bytes : Nat} {olds news : List Value} {z : Value} (hd : Nat.blt d C.N = true)
  (hx : ev fr x = some (.slice (some p) n n)) (hy : ev fr y = some (.slice (some q) m cb)) (ht : C.P.underlying t = some (.slice e)) (hi : TI C.P e z size bytes) (hzs : z.cells.size = size) (hs0 : Nat.blt 0 size = true)
  (hl : news.length = m * size) (hm : 0 < m) (hlo : olds.length = n * size) (hold : ∀ a w, At C fr hp a w -> ∀ j u, olds[j]? = some u -> w.cell? (p.add j) = some u) (hnew : ∀ a w, At C fr hp a w -> ∀ j u, news[j]? = some u -> w.cell? (q.add j) = some u)
  (h63 : n + m <= maxLen) (hbytes : (n + m) * bytes <= 140737488355328)
  (k : ∀ A' c', Lst C ops Q rest ((d, .slice A' (n + m) c') :: fr) (.row e size A' (n + m) c' (olds ++ news) :: hp)) :
  Lst C ops Q (⟨some d, .call { callee := .builtin .append, args := #[x, y], argTypes := #[t, t] }, ty, pos, after, none⟩ :: rest) fr hp := by
 refine xC rfl fun a w ha => ?_
 obtain ⟨i, hi1, hi2, hi3, hi4⟩ := hi
 subst hi3; subst hi4
 obtain ⟨v', w', hrun, hown', hg⟩ := run_append_arg_grows (P := C.P) w t ty e i z i.size i.bytes ht hi1 hi2 rfl rfl hzs (jX hs0) p n n olds hlo (hold a w ha) q m cb news hl (hnew a w ha) om h63 hbytes
 obtain ⟨A', c', rfl⟩ := wT hown'
 refine ⟨xP fun cs => by simp only [List.map_toArray, List.map_cons, List.map_nil, ha.eval hx, ha.eval hy]; exact wN ht, ?_⟩
 have hr' : (execOp a.eval ⟨some d, .call { callee := .builtin .append, args := #[x, y], argTypes := #[t, t] }, ty, pos, after, none⟩).run C.P w = .ok (.value (.slice A' (n + m) c')) w' := by
  simp only [execOp, resolve, invoke, builtin, Sem.run_bind, Sem.run_pure, Result.andThen_ok, List.map_toArray, List.map_cons, List.map_nil, ha.eval hx, ha.eval hy, hrun]
 rw [hr']
 have hbel : Below w.heap.size w w' := ⟨hg.os, hg.tape, hg.output, hg.size, fun k hk => hg.block k hk (by simp)⟩
 have hres : (Res.row e i.size A' (n + m) c' (olds ++ news)).ok w.heap.size w' := hown'
 have := ha.grew hbel (rs := [.row e i.size A' (n + m) c' (olds ++ news)]) (fun r hr => by rw [List.mem_singleton.1 hr]; exact hres) (by
  cases h : Res.id (.row e i.size A' (n + m) c' (olds ++ news)) <;> simp [h])
 exact k A' c' _ _ (this.put (jX hd) _)
theorem zHc {x y : Operand} {t e : TypeId} {A : Option Addr} {q : Addr} {n c cb size bytes : Nat} {z : Value} (hd : Nat.blt d C.N = true)
  (hx : ev fr x = some (.slice A n c)) (hy : ev fr y = some (.slice (some q) 0 cb)) (ht : C.P.underlying t = some (.slice e)) (hi : TI C.P e z size bytes) (hle : n <= c)
  (k : Lst C ops Q rest ((d, .slice A n c) :: fr) hp) :
  Lst C ops Q (⟨some d, .call { callee := .builtin .append, args := #[x, y], argTypes := #[t, t] }, ty, pos, after, none⟩ :: rest) fr hp := by
 refine xC rfl fun a w ha => ?_
 obtain ⟨i, hi1, hi2, hi3, hi4⟩ := hi
 have hrun := run_append_nothing (P := C.P) w t t ty e i ht hi1 A n c hle (.slice (some q) 0 cb) (Src.ofSlice w ht q 0 cb [] (by simp) (fun j u h => by simp at h) (fun u h => by cases h))
 refine ⟨xP fun cs => by simp only [List.map_toArray, List.map_cons, List.map_nil, ha.eval hx, ha.eval hy]; exact wN ht, ?_⟩
 have hr' : (execOp a.eval ⟨some d, .call { callee := .builtin .append, args := #[x, y], argTypes := #[t, t] }, ty, pos, after, none⟩).run C.P w = .ok (.value (.slice A n c)) w := by
  simp only [execOp, resolve, invoke, builtin, Sem.run_bind, Sem.run_pure, Result.andThen_ok, List.map_toArray, List.map_cons, List.map_nil, ha.eval hx, ha.eval hy, hrun]
 rw [hr']
 exact k _ _ (ha.put (jX hd) _)
end
def nedL (fs : List Flt) (kiln : Nat) (days : List Nat) (k : Nat) : List Nat := (List.range k).filter fun i => !(bstA (fs.eraseIdx i) kiln days).is
theorem zC2 {fs : List Flt} {kiln : Nat} {days : List Nat} {k : Nat} (h : (bstA (fs.eraseIdx k) kiln days).is = false) : nedL fs kiln days (k + 1) = nedL fs kiln days k ++ [k] := by
 unfold nedL
 rw [List.range_succ, List.filter_append]
 simp [h]
theorem zHo {fs : List Flt} {kiln : Nat} {days : List Nat} {k : Nat} (h : (bstA (fs.eraseIdx k) kiln days).is = true) : nedL fs kiln days (k + 1) = nedL fs kiln days k := by
 unfold nedL
 rw [List.range_succ, List.filter_append]
 simp [h]
theorem zNz {fs : List Flt} {kiln : Nat} {days : List Nat} : ∀ (j k : Nat), ∃ r, nedL fs kiln days (k + j) = nedL fs kiln days k ++ r
 | 0, k => ⟨[], by simp⟩
 | j + 1, k => by
  obtain ⟨r, hr⟩ := zNz (fs := fs) (kiln := kiln) (days := days) j k
  cases h : (bstA (fs.eraseIdx (k + j)) kiln days).is with
  | true => exact ⟨r, by rw [<- Nat.add_assoc, zHo h, hr]⟩
  | false => exact ⟨r ++ [k + j], by rw [<- Nat.add_assoc, zC2 h, hr, List.append_assoc]⟩
theorem zRa {fs : List Flt} {kiln : Nat} {days : List Nat} {k n : Nat} (hk : k < n) (h : (bstA (fs.eraseIdx k) kiln days).is = false) : (nedL fs kiln days n)[(nedL fs kiln days k).length]? = some k := by
 obtain ⟨r, hr⟩ := zNz (fs := fs) (kiln := kiln) (days := days) (n - (k + 1)) (k + 1)
 rw [show k + 1 + (n - (k + 1)) = n from by omega, zC2 h] at hr
 rw [hr, List.append_assoc, List.getElem?_append_right (Nat.le_refl _)]
 simp
theorem zNt {fs : List Flt} {kiln : Nat} {days : List Nat} (k : Nat) : (nedL fs kiln days k).length <= k := by
 unfold nedL
 have := List.length_filter_le (fun i => !(bstA (fs.eraseIdx i) kiln days).is) (List.range k)
 simpa using this
theorem zWd {fs : List Flt} {kiln : Nat} {days : List Nat} {k n : Nat} (hk : k < n) (h : (bstA (fs.eraseIdx k) kiln days).is = false) : (nedL fs kiln days k).length < (nedL fs kiln days n).length := (List.getElem?_eq_some_iff.1 (zRa hk h)).1
theorem zF5 {α : Type} (l : List α) (i : Nat) : l.eraseIdx i = l.take i ++ l.drop (i + 1) := List.eraseIdx_eq_take_drop_succ l i
theorem ChV.without {fs : List Flt} {kiln i : Nat} {days : List Nat} (h : ChV fs kiln days) : ChW (fs.eraseIdx i) kiln days :=
 ⟨Nat.le_trans (List.length_eraseIdx_le ..) h.f3, fun f hf => h.ff f (List.mem_of_mem_eraseIdx hf), h.k3, h.d1, h.d4, h.dd⟩
theorem zOw {α : Type} {l : List α} {i j : Nat} {x : α} (hx : l[j]? = some x) : (l.take (j + 1)).eraseIdx i = if j = i then (l.take j).eraseIdx i else (l.take j).eraseIdx i ++ [x] := by
 have hj : j < l.length := (List.getElem?_eq_some_iff.1 hx).1
 have hl : (l.take j).length = j := by rw [List.length_take]; omega
 rw [List.take_add_one, hx, Option.toList_some]
 by_cases h : j = i
 ·subst h
  rw [if_pos rfl, List.eraseIdx_append_of_length_le om, hl, Nat.sub_self, List.eraseIdx_of_length_le (l := l.take j) om]
  simp
 ·rw [if_neg h]
  rcases Nat.lt_or_ge i j with h1 | h1
  ·rw [List.eraseIdx_append_of_lt_length om]
  ·rw [List.eraseIdx_append_of_length_le om, hl, List.eraseIdx_of_length_le (l := l.take j) om, List.eraseIdx_of_length_le (by simp; omega)]
end Go.Proofs.Yteppiphdbondeaa.N
namespace Go.Proofs.Yteppiphdbondeaa.N
open Go Go.RowKit Go.Proofs
set_option linter.unusedSectionVars false
variable [I : Sys]

theorem zMb {l : List Nat} {n : Nat} (h : l.sum <= n) (k : Nat) : (l.take k).sum <= n := by
 have h1 := List.sum_append (l₁ := l.take k) (l₂ := l.drop k)
 rw [List.take_append_drop] at h1
 omega

theorem zVw {A : Option Addr} {c : Nat} {l : List Nat} (hl : l.sum <= 1000000) (hll : l.length <= 1000) (w : World) (hA : RdL ncell 1 w A l) : Calls Try.prog 35 #[.slice A l.length c] w fun e w' => e = .returned (.int .i64 ((l.sum : Nat) : Int)) ∧ Grew w w' [] := by
 refine enter (N := 18) [(0, .slice A l.length c)] Try.func35 rfl Try.ntmps35 rfl rfl ?_
 refine zD (zB (zE rfl rfl (zA (zC (zD (zB (zE rfl rfl (zA (zC (zD (zD (zB (zE rfl rfl (zA (zC (zZ (vJ (G := Nat) (fun k => k <= l.length) (fun k => l.length - k) (fun k => [(0, .slice A l.length c), (3, .int .i64 (((l.take k).sum : Nat) : Int)), (4, .int .i64 (k : Int))]) (fun k => []) 0 (Nat.zero_le _) sbn pkk ?_)))))))))))))))))
 intro k hk
 (try dsimp only at hk ⊢)
 refine zD (zD (zB (zF rfl rfl (zF rfl rfl (jU rfl rfl Try.underlying22 ?_)))))
 refine zJ rfl rfl rfl kJ ?_
 refine zA (zC (zO rfl (fun hc0 => ?_) (fun hc0 => ?_)))
 ·have hk2 : k < l.length := by omega
  obtain ⟨bd, bo, hdA, hbd, hcd⟩ := hA om
  obtain ⟨x, hx⟩ : ∃ x, l[k]? = some x := ⟨_, List.getElem?_eq_getElem hk2⟩
  have hs1 : (l.take (k + 1)).sum = (l.take k).sum + x := by rw [List.take_add_one, hx, List.sum_append]; simp
  have hs2 := zMb hl (k + 1)
  refine zR (zC (zD (zZ (zB (zF rfl rfl (zF rfl rfl (zF rfl rfl (qS (j := k) rfl (show _ = some (Value.slice (some ⟨bd, bo, none⟩) l.length c) from by rw [<- hdA]; rfl) rfl Try.underlying22 F.ti3 rfl hk2 ?_))))))))
  refine kT (v := .int .i64 (x : Int)) rfl rfl F.one3 (fun a w ha => ha.old (hcd k x hx 0 _ rfl) hbd) ?_
  refine zJ (v := .int .i64 (((l.take (k + 1)).sum : Nat) : Int)) rfl rfl rfl (fun w => jM w (by rw [hs1]; rw [zX _ om om]; omega)) ?_
  refine zE rfl rfl (zA (zN (zC (zB (zF rfl rfl (zJ rfl rfl rfl (fun w => jM w (zX _ om om)) ?_))))))
  refine zE rfl rfl (zA (qH (k + 1) om tdo sbn pkk))
 ·obtain rfl : k = l.length := by omega
  rw [List.take_length]
  refine kB (zT (zT (jI (zC (zD (zB (zF rfl rfl (zE rfl rfl (zA (zC (zV ?_)))))))))))
  exact jE rfl (fun a w ha => jO rfl rfl ha) (fun a w ha => ⟨rfl, ha.grown nsl⟩)

theorem zQi {fA dA : Option Addr} {fc dc kiln i : Nat} {fs : List Flt} {days : List Nat} (hfl : fs.length <= 1000) (hi : i < 1000) (w : World) (hF : RdL Flt.cells 4 w fA fs) : Calls Try.prog 36 #[.agg (CA fA fs.length fc kiln dA days.length dc).toArray, .int .i64 (i : Int)] w fun e w' => ∃ A' c', e = .returned (.agg [.slice A' (fs.eraseIdx i).length c', .int .i64 (kiln : Int), .slice dA days.length dc].toArray) ∧ Grew w w' [.row 49 4 A' (fs.eraseIdx i).length c' ((fs.eraseIdx i).flatMap Flt.cells)] := by
 refine enter (N := 28) [(0, .agg (CA fA fs.length fc kiln dA days.length dc).toArray), (1, .int .i64 (i : Int))] Try.func36 rfl Try.ntmps36 rfl rfl ?_
 refine zD (zB (jS rfl rfl ?_))
 intro b2
 refine zU rfl F.ti27 ?_
 intro b4
 refine zA (zC (zD (zB (zE rfl rfl (zA (zC (zD (zD (zB (zE rfl rfl (zA (zC (zZ (zFn 49 4 ?_))))))))))))))
 refine vJ (G := Nat × Option Addr × Nat) (fun g => g.1 <= fs.length) (fun g => fs.length - g.1) (fun g => [(1, .int .i64 (i : Int)), (2, .pointer (some ⟨b2, 0, none⟩)), (4, .pointer (some ⟨b4, 0, none⟩)), (5, .slice g.2.1 ((fs.take g.1).eraseIdx i).length g.2.2), (6, .int .i64 (g.1 : Int))]) (fun g => [.row 49 4 g.2.1 ((fs.take g.1).eraseIdx i).length g.2.2 (((fs.take g.1).eraseIdx i).flatMap Flt.cells), .blk b2 (.cells (CA fA fs.length fc kiln dA days.length dc).toArray 27 (0, 0)), .blk b4 (.cells [.slice none 0 0, .int .i64 0, .slice none 0 0].toArray 27 (0, 0))]) (0, none, 0) (Nat.zero_le _) sbn pkk ?_
 rintro ⟨j, A1, c1⟩ hj
 dsimp only at hj ⊢
 refine zD (zD (zB (zF rfl rfl (zL rfl rfl F.fi27_0 F.ti25 ?_))))
 refine zP rfl rfl F.one25 ?_
 refine jU rfl rfl Try.underlying25 ?_
 refine zJ rfl rfl rfl kJ ?_
 refine zA (zC (zO rfl (fun hc0 => ?_) (fun hc0 => ?_)))
 ·have hj2 : j < fs.length := by omega
  obtain ⟨bf, bo, hfA, hbf, hcf⟩ := hF om
  obtain ⟨f, hx⟩ : ∃ x, fs[j]? = some x := ⟨_, List.getElem?_eq_getElem hj2⟩
  have hte := zOw (i := i) hx
  obtain ⟨pw, gn, nw, wd⟩ := f
  have hle1 : ((fs.take j).eraseIdx i).length <= j := Nat.le_trans (List.length_eraseIdx_le ..) (by rw [List.length_take]; omega)
  refine zR (zC (zD (zZ (zD (zB (zF rfl rfl (zF rfl rfl (zJ rfl rfl rfl qX ?_))))))))
  refine zA (zC (zO rfl (fun hc1 => ?_) (fun hc1 => ?_)))
  ·rw [if_neg (show ¬ j = i from by omega)] at hte
   refine zB (zF rfl rfl (zL rfl rfl F.fi27_0 F.ti25 ?_))
   refine zP rfl rfl F.one25 ?_
   refine zF rfl rfl (qS (j := j) rfl (show _ = some (Value.slice (some ⟨bf, bo, none⟩) fs.length fc) from by rw [<- hfA]; rfl) rfl Try.underlying25 F.ti49 rfl hj2 ?_)
   refine qR (l := [.int .i64 (pw : Int), .int .i64 (gn : Int), .int .i64 (nw : Int), .bool wd]) rfl rfl F.agg49 F.ti49 rfl (fun a w ha j u hu => ha.old (hcf _ _ hx j u hu) hbf) ?_
   refine yC (vs := [(0, .agg ([.int .i64 (pw : Int), .int .i64 (gn : Int), .int .i64 (nw : Int), .bool wd] : List Value).toArray)]) [.int .i64 (pw : Int), .int .i64 (gn : Int), .int .i64 (nw : Int), .bool wd] rfl rfl Try.underlying25 F.ti49 rfl rfl rfl (Lit.agg (l1 := [.int .i64 (pw : Int), .int .i64 (gn : Int), .int .i64 (nw : Int), .bool wd]) (l := []) rfl rfl) ?_
   intro b23
   refine kS rfl rfl rfl Try.underlying25 F.ti49 rfl rfl rfl (by unfold maxLen; omega) om ?_
   intro A2 c2
   refine zE rfl rfl (zA (zN (zC (zB (zF rfl rfl (zJ rfl rfl rfl (fun w => jM w (zX _ om om)) ?_))))))
   refine zE rfl rfl (zA (qH (j + 1, A2, c2) tdo tdo (by dsimp only; rw [hte, List.length_append, List.length_singleton]; repeat (first | exact Sub.nil _ | refine Sub.cons rfl ?_)) (by dsimp only; rw [hte, List.length_append, List.length_singleton, List.flatMap_append, List.flatMap_singleton]; repeat (first | exact Pck.nil _ | exact Pck.refl _ | (apply Pck.cons; focus ((repeat (first | exact Rem.here _ | apply Rem.there)); done)) | refine Pck.skip _ ?_))))
  ·rw [if_pos (show j = i from by omega)] at hte
   refine zR (zN (zC (zB (zF rfl rfl (zJ rfl rfl rfl (fun w => jM w (zX _ om om)) ?_)))))
   refine zE rfl rfl (zA (qH (j + 1, A1, c1) tdo tdo (by dsimp only; rw [hte]; repeat (first | exact Sub.nil _ | refine Sub.cons rfl ?_)) (by dsimp only; rw [hte]; repeat (first | exact Pck.nil _ | exact Pck.refl _ | (apply Pck.cons; focus ((repeat (first | exact Rem.here _ | apply Rem.there)); done)) | refine Pck.skip _ ?_))))
 ·obtain rfl : j = fs.length := by omega
  rw [List.take_length]
  refine kB (zT (zT (jI (zC (zD (zB (zF rfl rfl (zL rfl rfl F.fi27_0 F.ti25 ?_))))))))
  refine zI rfl rfl F.ti25 rfl ?_
  refine zA (zC (zD (zB (jB rfl rfl F.agg27 F.ti27 ?_))))
  refine zI rfl rfl F.ti27 rfl ?_
  refine zA (zC (zV ?_))
  exact jE rfl (fun a w ha => by exact qN (ha := ha) rfl rfl F.agg27 F.ti27 rfl) (fun a w ha => ⟨A1, c1, rfl, (ha.pck pkk).grown (List.Sublist.refl _)⟩)

end Go.Proofs.Yteppiphdbondeaa.N
namespace Go.Proofs.Yteppiphdbondeaa.N
open Go Go.RowKit Go.Proofs
set_option linter.unusedSectionVars false
theorem zUq [I : Sys] {w : World} {fb fo : Nat} {fs : List Flt} (h : RdL Flt.cells 4 w (some ⟨fb, fo, none⟩) fs) (k : Nat) : ∀ j u, ((fs.drop k).flatMap Flt.cells)[j]? = some u -> w.cell? (((⟨fb, fo, none⟩ : Addr).add (k * 4)).add j) = some u := fun j u hu => by
 have hk : k <= fs.length := by
  rcases Nat.lt_or_ge fs.length k with h1 | h1
  ·rw [List.drop_eq_nil_of_le om] at hu; simp at hu
  ·exact h1
 have hl : ((fs.take k).flatMap Flt.cells).length = k * 4 := by rw [zAg, List.length_take, Nat.min_eq_left hk]
 have h2 := zIg h (k * 4 + j) u (by
  rw [<- List.take_append_drop k fs, List.flatMap_append, List.getElem?_append_right (by rw [hl]; omega), hl]
  rw [show k * 4 + j - k * 4 = j from by omega]
  simpa using hu)
 rw [qV] at h2
 rw [qV, qV, Nat.add_assoc]
 exact h2
end Go.Proofs.Yteppiphdbondeaa.N
namespace Go.Proofs.Yteppiphdbondeaa.N
open Go Go.RowKit Go.Proofs
set_option linter.unusedSectionVars false
variable [I : Sys]

theorem zRx {fA dA : Option Addr} {fc dc kiln : Nat} {fs : List Flt} {days : List Nat} (hc : ChV fs kiln days) (hcapf : fs.length <= fc) (w : World) (hF : RdL Flt.cells 4 w fA fs) (hD : RdL ncell 1 w dA days) : Calls Try.prog 34 #[.agg (CA fA fs.length fc kiln dA days.length dc).toArray] w fun e w' => ∃ oA oc, e = .returned (if (bstA fs kiln days).is = true then .tuple #[.slice oA (nedL fs kiln days fs.length).length oc, .int .i64 0] else .tuple #[.slice none 0 0, .int .i64 11]) ∧ Grew w w' [.row 3 1 oA (if (bstA fs kiln days).is = true then (nedL fs kiln days fs.length).length else 0) oc (ints (if (bstA fs kiln days).is = true then (nedL fs kiln days fs.length) else []))] := by
 refine enter (N := 42) [(0, .agg (CA fA fs.length fc kiln dA days.length dc).toArray)] Try.func34 rfl Try.ntmps34 rfl rfl ?_
 refine zD (zB (jS rfl rfl ?_))
 intro b1
 refine zE rfl rfl (zE rfl rfl (zA (zC (zD (zD (zB (jB rfl rfl F.agg27 F.ti27 ?_)))))))
 refine jJ (v := .int .i64 0) (vs := [_]) rfl rfl F.ent43 (fun a w ha => by
  have h := zAq (fA := fA) (dA := dA) (fc := fc) (dc := dc) (fs := fs.map Flt.toZ) (kiln := (kiln : Int)) (days := toZs days) (by have := hc.f3; simp; omega) (by have := hc.d4; simp [toZs]; omega) w (RdL.mapped Flt.toZ (hF.later ha.below) (fun _ => rfl)) (RdL.mapped (fun (n : Nat) => (n : Int)) (hD.later ha.below) (fun _ => rfl))
  rw [chk0 hc] at h
  simpa [toZs] using h) ?_
 refine zE rfl rfl (zA (zC (zD (zB (zF rfl rfl (zJ rfl rfl rfl qX ?_))))))
 refine zA (zC (zO rfl (fun hc0 => ?_) (fun hc0 => ?_)))
 ·exact absurd rfl hc0
  done
 ·refine zR (zC (zD (zD ?_)))
  rcases his0 : (bstA fs kiln days).is with _ | _
  ·refine zB (jB rfl rfl F.agg27 F.ti27 ?_)
   refine jJ (v := .bool (bstA fs kiln days).is) (vs := [_]) rfl rfl F.ent62 (fun a w ha => zHx (fc := fc) (dc := dc) hc.w w (hF.later ha.below) (hD.later ha.below)) ?_
   rw [his0]
   refine kN rfl rfl (zA (zC (kW rfl (zD (zB (zE rfl rfl (zE rfl rfl (zA (zC (zV (zW ?_)))))))))))
   exact jE rfl (fun a w ha => xN rfl rfl rfl ha) (fun a w ha => ⟨none, 0, rfl, (ha.add_nil 3 1).grown (.cons_cons _ nsl)⟩)
  ·refine zB (jB rfl rfl F.agg27 F.ti27 ?_)
   refine jJ (v := .bool (bstA fs kiln days).is) (vs := [_]) rfl rfl F.ent62 (fun a w ha => zHx (fc := fc) (dc := dc) hc.w w (hF.later ha.below) (hD.later ha.below)) ?_
   rw [his0]
   refine kN rfl rfl (zA (zC (kI rfl (zR (zC (zD (zB (zE rfl rfl (zA (zC (zD (zB (zL rfl rfl F.fi27_0 F.ti25 ?_)))))))))))))
   refine zP rfl rfl F.one25 ?_
   refine zE rfl rfl (zA (zC (zD (zD (zB (zF rfl rfl (jU rfl rfl Try.underlying25 ?_)))))))
   refine zF rfl rfl (zA (zC (zZ (zFn 3 1 ?_))))
   have hf1 := hc.f1
   have hf3 := hc.f3
   obtain ⟨fb, fo, rfl, _, _⟩ := hF om
   refine vJ (G := Nat × Option Addr × Nat × Option Addr × Nat × Nat) (fun g => g.1 <= fs.length) (fun g => fs.length - g.1) (fun g => [(1, .pointer (some ⟨b1, 0, none⟩)), (5, .slice g.2.1 (nedL fs kiln days g.1).length g.2.2.1), (6, .slice (some ⟨fb, fo, none⟩) fs.length fc), (19, .int .i64 (fs.length : Int)), (20, .int .i64 (g.1 : Int))]) (fun g => [.row 3 1 g.2.1 (nedL fs kiln days g.1).length g.2.2.1 (ints (nedL fs kiln days g.1)), .blk b1 (.cells [.slice g.2.2.2.1 g.2.2.2.2.1 g.2.2.2.2.2, .int .i64 (kiln : Int), .slice dA days.length dc].toArray 27 (0, 0))]) (0, none, 0, _, _, _) (Nat.zero_le _) sbn pkk ?_
   rintro ⟨k, oA, oc, X, xn, xc⟩ hk
   dsimp only at hk ⊢
   refine zD (zB (zJ rfl rfl rfl kJ ?_))
   refine zA (zC (zD (zO rfl (fun hc2 => ?_) (fun hc2 => ?_))))
   ·have hk2 : k < fs.length := by omega
    have hnl := zNt (fs := fs) (kiln := kiln) (days := days) k
    refine zR (zC (zD (zZ (zD (zB (zF rfl rfl (zE rfl rfl (zA (zC (zD ?_))))))))))
    rcases Nat.lt_or_ge (k + 1) fs.length with hm | hm
    ·refine kF [.b b1] F.follows 11 rfl [false, false, false, false, false, false, false, false, false, false, false] rfl ?_
     refine zG 0 rfl rfl rfl (jG rfl) ?_
     refine zG 1 rfl rfl rfl (jG rfl) ?_
     refine zG 2 rfl rfl rfl (jG rfl) ?_
     refine zG 3 rfl rfl rfl (zAk (k := k) rfl rfl rfl Try.underlying25 F.ti49 om) ?_
     refine zG 4 rfl rfl rfl (jG rfl) ?_
     refine zG 5 rfl rfl rfl (jG rfl) ?_
     refine zG 6 rfl rfl rfl (qP (v := .int .i64 ((k + 1 : Nat) : Int)) rfl rfl (fun w => jM w (by rw [zX _ om om]; omega))) ?_
     refine zG 7 rfl rfl rfl (zFx (l := k + 1) rfl rfl Try.underlying25 F.ti49 rfl om) ?_
     refine an1 8 rfl ?_
     refine zGt (q := (⟨fb, fo, none⟩ : Addr).add ((k + 1) * 4)) (olds := (fs.take k).flatMap Flt.cells) (news := (fs.drop (k + 1)).flatMap Flt.cells) rfl rfl (by rw [if_neg om]; rfl) Try.underlying25 F.ti49 rfl rfl (by rw [zAg, List.length_drop]) om (by rw [zAg, List.length_take]; omega) (fun a w ha => zIg ((hF.later ha.below).take k)) (fun a w ha => zUq (hF.later ha.below) (k + 1)) (by unfold maxLen; omega) om ?_
     intro X8 x8
     refine zA (anb (zG 9 rfl rfl rfl (zY rfl F.fi27_0 F.ti25) ?_))
     refine an1 10 rfl ?_
     refine zI rfl rfl F.ti25 rfl ?_
     refine zA (anb (adn (zC (zD (zB (jB rfl rfl F.agg27 F.ti27 ?_))))))
     have helen : (fs.eraseIdx k).length = fs.length - 1 := List.length_eraseIdx_of_lt hk2
     refine jJ (v := .bool (bstA (fs.eraseIdx k) kiln days).is) (vs := [_]) rfl rfl F.ent62 (fun a w ha => ?_) ?_
     ·have h := zHx (fA := X8) (fc := x8) (dA := dA) (dc := dc) (hc.without (i := k)) w (qW ha (cells := Flt.cells) (size := 4) (e := 49) (c := x8) (n := k + (fs.length - (k + 1))) (l := fs.eraseIdx k) (fun _ => rfl) (by rw [zF5, List.flatMap_append]; exact InR.mem (A := X8)) om) (hD.later ha.below)
      rw [helen, show fs.length - 1 = k + (fs.length - (k + 1)) from by omega] at h
      exact h
     refine kN rfl rfl (zA (zC (kO rfl (fun hc3 => ?_) (fun hc3 => ?_))))
     ·have hny := zC2 (fs := fs) (kiln := kiln) (days := days) (k := k) (by simpa using hc3)
      refine zB (zF rfl rfl (zF rfl rfl (kD (vs := [(0, _)]) rfl rfl Try.underlying22 F.ti3 rfl rfl rfl ?_)))
      intro b38
      refine kS rfl rfl rfl Try.underlying22 F.ti3 rfl rfl rfl (by unfold maxLen; omega) om ?_
      intro A9 c9
      refine zE rfl rfl (zA (zN (zC (zB (zJ rfl rfl rfl (fun w => jM w (zX _ om om)) ?_)))))
      refine zF rfl rfl (zA (qH (k + 1, A9, c9, X8, k + (fs.length - (k + 1)), x8) tdo tdo (by dsimp only; rw [hny, List.length_append, List.length_singleton]; repeat (first | exact Sub.nil _ | refine Sub.cons rfl ?_)) (by dsimp only; rw [hny, List.length_append, List.length_singleton, zE0]; repeat (first | exact Pck.nil _ | exact Pck.refl _ | (apply Pck.cons; focus ((repeat (first | exact Rem.here _ | apply Rem.there)); done)) | refine Pck.skip _ ?_))))
     ·have hnn := zHo (fs := fs) (kiln := kiln) (days := days) (k := k) (by simpa using hc3)
      refine zR (zN (zC (zB (zJ rfl rfl rfl (fun w => jM w (zX _ om om)) ?_))))
      refine zF rfl rfl (zA (qH (k + 1, oA, oc, X8, k + (fs.length - (k + 1)), x8) tdo tdo (by dsimp only; rw [hnn]; repeat (first | exact Sub.nil _ | refine Sub.cons rfl ?_)) (by dsimp only; rw [hnn]; repeat (first | exact Pck.nil _ | exact Pck.refl _ | (apply Pck.cons; focus ((repeat (first | exact Rem.here _ | apply Rem.there)); done)) | refine Pck.skip _ ?_))))
    ·refine kF [.b b1] F.follows 11 rfl [false, false, false, false, false, false, false, false, false, false, false] rfl ?_
     refine zG 0 rfl rfl rfl (jG rfl) ?_
     refine zG 1 rfl rfl rfl (jG rfl) ?_
     refine zG 2 rfl rfl rfl (jG rfl) ?_
     refine zG 3 rfl rfl rfl (zAk (k := k) rfl rfl rfl Try.underlying25 F.ti49 om) ?_
     refine zG 4 rfl rfl rfl (jG rfl) ?_
     refine zG 5 rfl rfl rfl (jG rfl) ?_
     refine zG 6 rfl rfl rfl (qP (v := .int .i64 ((k + 1 : Nat) : Int)) rfl rfl (fun w => jM w (by rw [zX _ om om]; omega))) ?_
     refine zG 7 rfl rfl rfl (zFx (l := k + 1) rfl rfl Try.underlying25 F.ti49 rfl om) ?_
     refine an1 8 rfl ?_
     rw [show fs.length - (k + 1) = 0 from by omega]
     refine zHc (q := (if fc = k + 1 then (some (⟨fb, fo, none⟩ : Addr)) else (some (⟨fb, fo, none⟩ : Addr)).map (·.add ((k + 1) * 4))).getD default) rfl rfl (by split <;> rfl) Try.underlying25 F.ti49 (Nat.le_refl _) ?_
     refine zA (anb (zG 9 rfl rfl rfl (zY rfl F.fi27_0 F.ti25) ?_))
     refine an1 10 rfl ?_
     refine zI rfl rfl F.ti25 rfl ?_
     refine zA (anb (adn (zC (zD (zB (jB rfl rfl F.agg27 F.ti27 ?_))))))
     have helen : (fs.eraseIdx k).length = fs.length - 1 := List.length_eraseIdx_of_lt hk2
     refine jJ (v := .bool (bstA (fs.eraseIdx k) kiln days).is) (vs := [_]) rfl rfl F.ent62 (fun a w ha => ?_) ?_
     ·have h := zHx (fA := (some ⟨fb, fo, none⟩)) (fc := k) (dA := dA) (dc := dc) (hc.without (i := k)) w (by have h9 := (hF.later ha.below).take k; rw [zF5, List.drop_eq_nil_of_le om, List.append_nil]; exact h9) (hD.later ha.below)
      rw [helen, show fs.length - 1 = k from by omega] at h
      exact h
     refine kN rfl rfl (zA (zC (kO rfl (fun hc3 => ?_) (fun hc3 => ?_))))
     ·have hny := zC2 (fs := fs) (kiln := kiln) (days := days) (k := k) (by simpa using hc3)
      refine zB (zF rfl rfl (zF rfl rfl (kD (vs := [(0, _)]) rfl rfl Try.underlying22 F.ti3 rfl rfl rfl ?_)))
      intro b38
      refine kS rfl rfl rfl Try.underlying22 F.ti3 rfl rfl rfl (by unfold maxLen; omega) om ?_
      intro A9 c9
      refine zE rfl rfl (zA (zN (zC (zB (zJ rfl rfl rfl (fun w => jM w (zX _ om om)) ?_)))))
      refine zF rfl rfl (zA (qH (k + 1, A9, c9, (some ⟨fb, fo, none⟩), k, k) tdo tdo (by dsimp only; rw [hny, List.length_append, List.length_singleton]; repeat (first | exact Sub.nil _ | refine Sub.cons rfl ?_)) (by dsimp only; rw [hny, List.length_append, List.length_singleton, zE0]; repeat (first | exact Pck.nil _ | exact Pck.refl _ | (apply Pck.cons; focus ((repeat (first | exact Rem.here _ | apply Rem.there)); done)) | refine Pck.skip _ ?_))))
     ·have hnn := zHo (fs := fs) (kiln := kiln) (days := days) (k := k) (by simpa using hc3)
      refine zR (zN (zC (zB (zJ rfl rfl rfl (fun w => jM w (zX _ om om)) ?_))))
      refine zF rfl rfl (zA (qH (k + 1, oA, oc, (some ⟨fb, fo, none⟩), k, k) tdo tdo (by dsimp only; rw [hnn]; repeat (first | exact Sub.nil _ | refine Sub.cons rfl ?_)) (by dsimp only; rw [hnn]; repeat (first | exact Pck.nil _ | exact Pck.refl _ | (apply Pck.cons; focus ((repeat (first | exact Rem.here _ | apply Rem.there)); done)) | refine Pck.skip _ ?_))))
   ·obtain rfl : k = fs.length := by omega
    refine kB (zT (zT (jI (zC (zD (zB (zF rfl rfl (zE rfl rfl (zE rfl rfl (zA (zC (zV ?_))))))))))))
    exact jE rfl (fun a w ha => xN rfl rfl rfl ha) (fun a w ha => ⟨oA, oc, rfl, ha.grown (.cons_cons _ nsl)⟩)

end Go.Proofs.Yteppiphdbondeaa.N
namespace Go.Proofs.Yteppiphdbondeaa.N
open Go Go.RowKit Go.Proofs
set_option linter.unusedSectionVars false
theorem zUv {l : List Nat} : l.all (· == 0) = decide (¬ 0 < l.sum) := by
 induction l with
 | nil => rfl
 | cons x l ih =>
  rw [List.all_cons, List.sum_cons, ih, Bool.eq_iff_iff]
  simp
theorem zXn {l : List Nat} {n : Nat} (h : ∀ x ∈ l, x <= n) : l.sum <= n * l.length := by
 induction l with
 | nil => simp
 | cons x l ih =>
  have h1 := ih fun y hy => h y (by simp [hy])
  have h2 := h x (by simp)
  rw [List.sum_cons, List.length_cons, Nat.mul_succ]
  omega
theorem zTr {fs : List Flt} {kiln : Nat} {days : List Nat} (h : fs.length = 1) : (bstA (fs.eraseIdx 0) kiln days).is = decide (¬ 0 < days.sum) := by
 match fs, h with
 | [f], _ => rw [List.eraseIdx_cons_zero, zGq, zUv]
end Go.Proofs.Yteppiphdbondeaa.N
namespace Go.Proofs.Yteppiphdbondeaa.N
open Go Go.RowKit Go.Proofs
set_option linter.unusedSectionVars false
variable [I : Sys]
theorem F.ent34 : Enters Try.prog 34 := jC Try.func34 rfl (by kernel_rfl)
theorem F.ent35 : Enters Try.prog 35 := jC Try.func35 rfl (by kernel_rfl)
theorem F.ent36 : Enters Try.prog 36 := jC Try.func36 rfl (by kernel_rfl)
theorem zVh {l : List Nat} {k x : Nat} (h : l[k]? = some x) : (ints l)[k]? = some (.int .i64 (x : Int)) := by
 unfold ints
 rw [List.getElem?_map, h]
 rfl

set_option maxRecDepth 4000 in
theorem zKx [R : ReaC] (nA : Option Addr) (nc : Nat) (nums : List Int) (w : World) (hN : RdL icell 1 w nA nums) (hR : RdC w) : Calls Try.prog 9 #[.slice nA nums.length nc] w fun e w' => e = .returned (.bool true) ∧ Grew w w' [] := by
 refine enter (N := 98) [(0, .slice nA nums.length nc)] Try.func9 rfl Try.ntmps9 rfl rfl ?_
 refine zD (zB (zE rfl rfl (zA (zC (zD (zB (zF rfl rfl (qB (X := Nat) (vs := [_]) (p := fun _ => True) (val := fun b => .pointer (some ⟨b, 0, none⟩)) (rs := fun b => [.blk b (hatO nA nums.length nc 0 11400714819323198485)]) rfl rfl F.ent13 (fun a w ha => (zR5 nA nums.length nc w).mono (fun e w' h => by obtain ⟨b, h1, h2⟩ := h; exact ⟨b, trivial, h1, h2⟩)) ?_))))))))
 intro hb _
 dsimp only [List.cons_append, List.nil_append]
 refine qO (X := Nat × Nat × Nat × List Flt × List Nat × Option Addr × Option Addr × Nat × Nat) (first := []) (cap := []) (vs := [_]) (p := fun y => y.1 <= 101 ∧ y.2.1 < 18446744073709551616 ∧ ChV y.2.2.2.1 y.2.2.1 y.2.2.2.2.1) (val := fun y => .agg [.slice y.2.2.2.2.2.1 y.2.2.2.1.length y.2.2.2.2.2.2.2.1, .int .i64 (y.2.2.1 : Int), .slice y.2.2.2.2.2.2.1 y.2.2.2.2.1.length y.2.2.2.2.2.2.2.2].toArray) (rs := fun y => [.row 49 4 y.2.2.2.2.2.1 y.2.2.2.1.length y.2.2.2.2.2.2.2.1 (y.2.2.2.1.flatMap Flt.cells), .row 3 1 y.2.2.2.2.2.2.1 y.2.2.2.2.1.length y.2.2.2.2.2.2.2.2 (ints y.2.2.2.2.1), .blk hb (hatO nA nums.length nc y.1 y.2.1)]) rfl rfl rfl F.ent22 (fun a w ha => (zVy (C := ⟨Try.prog, _, _, _, _⟩) (T := []) (tk := 0) rfl rfl hN om om ha).mono (fun e w' h => by obtain ⟨t', s', k', f', d', A', D', c', dc', h1, h2, h3, h4, h5⟩ := h; exact ⟨(t', s', k', f', d', A', D', c', dc'), ⟨by omega, h2, h3⟩, h4, h5⟩)) ?_
 rintro ⟨tk, st, kiln, fs, days, A, D, c, dc⟩ ⟨htk, hst, hc⟩
 dsimp only at htk hst hc ⊢
 refine zU rfl F.ti27 ?_
 intro b3
 refine zI rfl rfl F.ti27 rfl ?_
 refine zA (zC (zD (zB (zS6 A ?_))))
 intro hcap
 have hf1 := hc.f1
 have hf3 := hc.f3
 have hd4 := hc.d4
 refine jB rfl rfl F.agg27 F.ti27 ?_
 refine qB (X := Option Addr × Nat × Nat × List Nat × Nat) (vs := [_]) (p := fun g => g.2.1 = g.2.2.2.1.length ∧ ((g.2.2.2.2 = 0 ∧ (bstA fs kiln days).is = true ∧ g.2.2.2.1 = (nedL fs kiln days fs.length)) ∨ (g.2.2.2.2 = 11 ∧ (bstA fs kiln days).is = false ∧ g.2.2.2.1 = []))) (val := fun g => .tuple #[.slice (if g.2.2.2.2 = 0 then g.1 else none) g.2.1 (if g.2.2.2.2 = 0 then g.2.2.1 else 0), .int .i64 (g.2.2.2.2 : Int)]) (rs := fun g => [.row 3 1 g.1 g.2.1 g.2.2.1 (ints g.2.2.2.1)]) rfl rfl F.ent34 (fun a w ha => (zRx hc hcap w (zDr (A := A) ha rfl) (zD5 (A := D) ha rfl)).mono (fun e w' h => ?_)) ?_
 ·obtain ⟨oA, oc, h1, h2⟩ := h
  cases hb : (bstA fs kiln days).is with
  | true =>
   rw [hb] at h1 h2
   exact ⟨(oA, (nedL fs kiln days fs.length).length, oc, (nedL fs kiln days fs.length), 0), ⟨rfl, .inl ⟨rfl, rfl, rfl⟩⟩, h1, h2⟩
  | false =>
   rw [hb] at h1 h2
   exact ⟨(oA, 0, oc, [], 11), ⟨rfl, .inr ⟨rfl, rfl, rfl⟩⟩, h1, h2⟩
 rintro ⟨oA, gn, oc, gl, er⟩ ⟨hgn, hge⟩
 dsimp only [List.cons_append, List.nil_append] at hgn hge ⊢
 refine zF rfl rfl (zS rfl rfl rfl (zS rfl rfl rfl (zE rfl rfl (zE rfl rfl (zA (zC (zD (zB (jB rfl rfl F.agg27 F.ti27 ?_)))))))))
 refine jJ (v := .tuple #[.bool (bstA fs kiln days).is, .bool true]) (vs := [_]) rfl rfl F.ent25 (fun a w ha => zTw hc w (zDr (A := A) ha rfl) (zD5 (A := D) ha rfl)) ?_
 rw [show (bstA fs kiln days).is = decide (er = 0) from by rcases hge with ⟨h1, h2, _⟩ | ⟨h1, h2, _⟩ <;> rw [h2, h1] <;> rfl]
 refine zF rfl rfl (zS rfl rfl rfl (zS rfl rfl rfl (zE rfl rfl (zE rfl rfl (zA (zC (zD (zD (zB (zF rfl rfl (kN rfl rfl (zF rfl rfl (zM rfl rfl (zF rfl rfl (zM rfl rfl (zF rfl rfl (zM rfl rfl (zJ rfl rfl rfl jV ?_))))))))))))))))))
 refine zM rfl rfl (zIj (v := .bool false) rfl rfl rfl (fun w => by rw [zK1 Try.underlying4]; refine congrArg (fun b => Result.ok (Value.bool b) w) ?_; by_cases h : er = 0 <;> simp [h] <;> omega) ?_)
 refine jN rfl rfl rfl (zF rfl rfl (yS 11 45 (.bool false) ?_ ?_))
 ·refine zM rfl rfl (zF rfl rfl (zM rfl rfl (zH7 rfl rfl (zRu rfl) ?_)))
  refine zM rfl rfl (zF rfl rfl (vZ (t := 37) rfl (fun hg37 => ?_) (fun hg37 => ?_)))
  ·refine zM rfl rfl (zF rfl rfl (zM rfl rfl ?_))
   have her : er = 11 ∧ gn = 0 := by
    rcases hge with ⟨h1, _⟩ | ⟨h1, _, h3⟩
    ·exact absurd h1 hg37
    ·exact ⟨h1, by rw [hgn, h3]; rfl⟩
   refine zJ (v := .bool false) rfl rfl rfl (fun w => by rw [qX, decide_eq_false om]) ?_
   refine zM rfl rfl (zF rfl rfl (zM rfl rfl (zF rfl rfl (zM rfl rfl (jU rfl rfl Try.underlying22 ?_)))))
   refine zM rfl rfl (zJ (v := .bool false) rfl rfl rfl (fun w => by rw [yX, decide_eq_false om]) ?_)
   refine zM rfl rfl (jN rfl rfl rfl (zM rfl rfl (jH rfl rfl rfl (zA ?_))))
   exact xB (.cons (by first | rfl | simp_all [look]) sbn) sbl
  ·refine jD rfl rfl rfl (jD rfl rfl rfl (jD rfl rfl rfl (kH rfl rfl rfl (kH rfl rfl rfl (kH rfl rfl rfl (jD rfl rfl rfl (zM rfl rfl (jN rfl rfl rfl (zA ?_)))))))))
   exact xB (.cons (by first | rfl | simp_all [look]) sbn) sbl
 refine zR1 rfl rfl rfl rfl (zA (zC (kI rfl (zR (zC (zD (zB (zE rfl rfl (zA (zC (zD (zD (zB (zE rfl rfl (zA (zC (zZ (vJ (G := Nat) (fun k => k <= fs.length ∧ (er ≠ 0 -> k = 0)) (fun k => fs.length - k) (fun k => [(3, .pointer (some ⟨b3, 0, none⟩)), (4, .slice (if er = 0 then oA else none) gn (if er = 0 then oc else 0)), (6, .bool (decide (er = 0))), (8, .int .i64 (((nedL fs kiln days k).length : Nat) : Int)), (9, .int .i64 (k : Int))]) (fun k => [.blk b3 (.cells [.slice A fs.length c, .int .i64 (kiln : Int), .slice D days.length dc].toArray 27 (0, 0)), .row 49 4 A fs.length c (fs.flatMap Flt.cells), .row 3 1 D days.length dc (ints days), .row 3 1 oA gn oc (ints gl)]) 0 ⟨Nat.zero_le _, fun _ => rfl⟩ sbn pkk ?_))))))))))))))))))
 rintro k ⟨hk, hk0⟩
 refine zD (zD (zB (yS 8 54 (.bool (decide (k < fs.length ∧ er = 0))) ?_ ?_)))
 ·refine zF rfl rfl (zL rfl rfl F.fi27_0 F.ti25 ?_)
  refine zP rfl rfl F.one25 ?_
  refine jU rfl rfl Try.underlying25 ?_
  refine zJ rfl rfl rfl kJ ?_
  refine zF rfl rfl (vZ (t := 52) rfl (fun hg52 => ?_) (fun hg52 => ?_))
  ·refine zM rfl rfl (zF rfl rfl (jH rfl rfl rfl (zA ?_)))
   exact xB (.cons (by first | rfl | (refine congrArg (fun b => some (Value.bool b)) ?_; rw [Bool.eq_iff_iff]; simp only [decide_eq_true_eq] <;> omega)) sbn) sbl
  ·refine jD rfl rfl rfl (jN rfl rfl rfl (zA ?_))
   exact xB (.cons (by first | rfl | (refine congrArg (fun b => some (Value.bool b)) ?_; rw [Bool.eq_iff_iff]; simp only [decide_eq_true_eq, Bool.false_eq_true, false_iff] <;> omega)) sbn) sbl
 refine zA (zC (zO rfl (fun hc1 => ?_) (fun hc1 => ?_)))
 ·obtain ⟨hk2, her⟩ := hc1
  subst her
  obtain ⟨his, hgl⟩ : (bstA fs kiln days).is = true ∧ gl = (nedL fs kiln days fs.length) := by
   rcases hge with ⟨_, h2, h3⟩ | ⟨h1, _⟩
   ·exact ⟨h2, h3⟩
   ·omega
  have hsum := zXn hc.dd
  rw [if_pos rfl, if_pos rfl]
  refine zR (zC (zD (zZ (zD (zB (zL rfl rfl F.fi27_2 F.ti22 ?_))))))
  refine zP rfl rfl F.one22 ?_
  refine jJ (v := .int .i64 ((days.sum : Nat) : Int)) (vs := [_]) rfl rfl F.ent35 (fun a w ha => zVw om om w (zD5 (A := D) ha rfl)) ?_
  refine zJ rfl rfl rfl yX ?_
  refine zE rfl rfl (zA (zC (zD (zD (zB (zL rfl rfl F.fi27_0 F.ti25 ?_))))))
  refine zP rfl rfl F.one25 ?_
  refine jU rfl rfl Try.underlying25 ?_
  refine zJ rfl rfl rfl yX ?_
  refine zA (zC (xW (G := Unit) (fun _ => True) (fun _ => [(3, .pointer (some ⟨b3, 0, none⟩)), (4, .slice oA gn oc), (6, .bool (decide (0 = 0))), (8, .int .i64 (((nedL fs kiln days k).length : Nat) : Int)), (9, .int .i64 (k : Int)), (10, .bool (!(bstA (fs.eraseIdx k) kiln days).is))]) (fun _ => [.blk b3 (.cells [.slice A fs.length c, .int .i64 (kiln : Int), .slice D days.length dc].toArray 27 (0, 0)), .row 49 4 A fs.length c (fs.flatMap Flt.cells), .row 3 1 D days.length dc (ints days), .row 3 1 oA gn oc (ints gl)]) ?_ ?_))
  ·refine zO rfl (fun hc2 => ?_) (fun hc2 => ?_)
   ·refine zD (zB (jB rfl rfl F.agg27 F.ti27 ?_))
    refine zF rfl rfl (qB (X := Option Addr × Nat) (vs := [_, _]) (p := fun _ => True) (val := fun g => .agg [.slice g.1 (fs.eraseIdx k).length g.2, .int .i64 (kiln : Int), .slice D days.length dc].toArray) (rs := fun g => [.row 49 4 g.1 (fs.eraseIdx k).length g.2 ((fs.eraseIdx k).flatMap Flt.cells)]) rfl rfl F.ent36 (fun a w ha => (zQi om om w (zDr (A := A) ha rfl)).mono (fun e w' h => by obtain ⟨A', c', h1, h2⟩ := h; exact ⟨(A', c'), trivial, h1, h2⟩)) ?_)
    rintro ⟨A7, c7⟩ -
    dsimp only [List.cons_append, List.nil_append]
    refine jJ (v := .tuple #[.bool (bstA (fs.eraseIdx k) kiln days).is, .bool true]) (vs := [_]) rfl rfl F.ent25 (fun a w ha => zTw (hc.without.v (by rw [List.length_eraseIdx_of_lt hk2]; omega)) w (zDr (A := A7) ha rfl) (zD5 (A := D) ha rfl)) ?_
    refine zF rfl rfl (zS rfl rfl rfl (zS rfl rfl rfl (zE rfl rfl (zE rfl rfl (zA (zC (zD (zD (zB (zF rfl rfl (kN rfl rfl (zA (zC (kI rfl (zR (zC (zB (zF rfl rfl (kN rfl rfl (zE rfl rfl (zA ?_)))))))))))))))))))))
    exact kA () trivial sbn pkk
   ·refine zR ?_
    have hk00 : k = 0 := by omega
    subst hk00
    rw [zTr om, show (!decide (¬ 0 < days.sum)) = decide ((0 : Int) < ((days.sum : Nat) : Int)) from by rw [Bool.eq_iff_iff]; simp; omega]
    exact kA () trivial sbn pkk
  ·rintro ⟨⟩ -
   (try dsimp only)
   refine zC (zD (zB (zF rfl rfl (zA (zC (kO rfl (fun hc4 => ?_) (fun hc4 => ?_)))))))
   ·have hno : (bstA (fs.eraseIdx k) kiln days).is = false := by simpa using hc4
    have hny := zC2 hno
    have hat := zRa hk2 hno
    have hlt := zWd hk2 hno
    rw [<- hgl] at hat hlt
    rw [<- hgn] at hlt
    have hnl := zNt (fs := fs) (kiln := kiln) (days := days) k
    refine zD (zD (zB (zVv oA om ?_)))
    intro g8 hg8
    refine zF rfl rfl (zF rfl rfl (jU rfl rfl Try.underlying22 ?_))
    refine zJ (v := .bool false) rfl rfl rfl (fun w => by rw [zU9, decide_eq_false om]) ?_
    refine zF rfl rfl (zM rfl rfl (zF rfl rfl (zM rfl rfl (zF rfl rfl (zM rfl rfl (qS (j := (nedL fs kiln days k).length) rfl (show _ = some (Value.slice (some ⟨g8, 0, none⟩) gn oc) from by rw [<- hg8]; rfl) rfl Try.underlying22 F.ti3 rfl hlt ?_))))))
    refine zM rfl rfl (kT (v := .int .i64 (k : Int)) rfl rfl F.one3 (fun a w ha => zD2 ha (InR.mem (A := oA)) hg8 (by rw [show 0 + (nedL fs kiln days k).length * 1 = (nedL fs kiln days k).length from by omega, zVh hat])) ?_)
    refine zM rfl rfl (zF rfl rfl (zM rfl rfl (zJ (v := .bool false) rfl rfl rfl (fun w => by rw [qX, decide_eq_false om]) ?_)))
    refine jN rfl rfl rfl (zA (zC (kI rfl (zR (zC (zB (zF rfl rfl (zJ rfl rfl rfl (fun w => jM w (zX _ om om)) ?_))))))))
    refine zE rfl rfl (zA (zN (zC (zB (zF rfl rfl (zJ rfl rfl rfl (fun w => jM w (zX _ om om)) ?_))))))
    refine zE rfl rfl (zA (qH (k + 1) ⟨by omega, fun h => absurd rfl h⟩ tdo (by rw [hny, List.length_append, List.length_singleton]; repeat (first | exact Sub.nil _ | refine Sub.cons rfl ?_)) pkk))
   ·have hnn := zHo (fs := fs) (kiln := kiln) (days := days) (k := k) (by simpa using hc4)
    refine zR (zN (zC (zB (zF rfl rfl (zJ rfl rfl rfl (fun w => jM w (zX _ om om)) ?_)))))
    refine zE rfl rfl (zA (qH (k + 1) ⟨by omega, fun h => absurd rfl h⟩ tdo (by rw [hnn]; repeat (first | exact Sub.nil _ | refine Sub.cons rfl ?_)) pkk))
 ·refine kB (zT (zT (jI (zC (zD (zB (zF rfl rfl (zF rfl rfl (jU rfl rfl Try.underlying22 ?_)))))))))
  refine zJ (v := .bool true) rfl rfl rfl (fun w => by rw [jV, decide_eq_true (by rcases hge with ⟨h1, _, h3⟩ | ⟨h1, _, h3⟩ <;> first | (rw [hgn, h3, show k = fs.length from by omega]; done) | (rw [hgn, h3, hk0 om]; rfl))]) ?_
  refine zF rfl rfl (zM rfl rfl (jJ (v := .bool true) (vs := []) rfl rfl F.ent20 (fun a w ha => zPz w (hR.later ha.below)) ?_))
  refine jH rfl rfl rfl (zE rfl rfl (zA (zC (zV ?_))))
  exact jE rfl (fun a w ha => jO rfl rfl ha) (fun a w ha => ⟨rfl, ha.grown nsl⟩)

end Go.Proofs.Yteppiphdbondeaa.N
namespace Go.Proofs.Yteppiphdbondeaa.N
open Go Go.RowKit Go.Conc
set_option linter.unusedSectionVars false

def seenZ (W : World) : World := { seenW W with output := gout [0] }
theorem zQ3 (W : World) : Hid (Viewed W) (fun _ => False) W (seenZ W) := by
 have h := zPq W
 exact ⟨h.1, h.2, h.3, h.4, h.5, h.6, h.7, h.8, h.9, h.10⟩
theorem zPh {W : World} {p : Addr} {u : Value} (h : W.cell? p = some u) : (seenZ W).cell? p = some u := zOc h
section
variable {P : Program} {W : World} {f : FuncId} {args : Array Value} {Post : Value -> World -> Prop}
theorem zMp {F : Nat -> Prop} {w w' v' : World} (hk : Kept F (fun _ => False) w w') (hv : Hid F (fun _ => False) w' v') (hb : Bas W (Viewed W) (fun i => i = 0) (fun _ => F) w) (hv0 : Below (seenZ W).heap.size (seenZ W) v') : Below W.heap.size W w' := by
 refine ⟨hk.os.trans hb.os, hk.tape.trans hb.tape, hk.output.trans hb.output, Nat.le_trans hb.size hk.size, fun b hlt => ?_⟩
 by_cases hF : F b
 ·rw [hk.block b (Nat.lt_of_lt_of_le hlt hb.size) (.inl hF)]
  exact (hb.held b (hb.new b hlt hF)).2.1
 ·rw [<- hv.same b hF (fun x => x), hv0.block b (by simpa [seenZ, seenW] using hlt)]
  show (seenW W).heap[b]? = _
  rw [zAn]
  cases h : W.heap[b]? with
  | none => rfl
  | some o =>
   cases o with
   | view p t => exact absurd ((hb.held b ⟨p, t, h⟩).2.2 0 rfl) hF
   | _ => rfl
def sig0 : Cst := ⟨0, 0, 0, [], 0, false, false, false, 0, 0, .rest, [], [], fun _ => none, []⟩
theorem zOe : sig0.blank := ⟨fun _ => rfl, rfl, rfl, rfl, rfl, rfl, rfl, rfl, rfl⟩
theorem zT7 (low : Nat) : Cok low sig0 := by
 refine ⟨List.nodup_nil, rfl, fun j => ?_, fun j p h => (by cases h), fun b hb => (by cases hb), fun h => (by cases h), fun h => (by cases h), fun h => (by cases h), by decide, rfl, .nil, zOe⟩
 constructor
 ·intro h; cases h
 ·rintro ⟨p, h⟩; cases h
theorem zVu {low : Nat} {tW : TypeId} {msg : Nat -> Value} {σ : Cst} (hok : Cok low σ) (h : σ.gh 0 = some [0]) : Alone (Cp low tW msg) σ ∧ σ.lent = [] ∧ ∀ c, ¬ (Cst.ts σ).Ca c := by
 rw [zAd] at h
 have hp := hok.phase
 cases hm : σ.mn <;> rw [hm] at h <;> simp [Mn.enc] at h
 unfold Cst.phase at hp
 rw [hm] at hp
 obtain ⟨h1, h2, h3, h4, h5, h6, h7, h8, h9⟩ := hp
 refine ⟨?_, h9, fun c hc => ?_⟩
 ·refine ⟨fun j hj => zAc hj h1, ?_⟩
  show (Cst.ts σ).D 0 = 0
  simp [Cst.ts, hm, Mn.deaf]
 ·rcases hc with ⟨h, _⟩ | ⟨h, _⟩ <;> omega
theorem zIh {low : Nat} {tW : TypeId} {msg : Nat -> Value} (hK : low = W.heap.size) (noInit : P.inits.idxOf? f = none)
  (h : @Calls P (zSys P (Cp low tW msg)) f args (seenZ W) fun e v' => ∃ x, e = .returned x ∧ Below (seenZ W).heap.size (seenZ W) v' ∧ ∀ W', Below W.heap.size W W' -> Post x W') :
  ∃ N last o w' t', runNT P (N + 1) (solo (G (Frame.enter P f args .normal) []) W) #[] = (.ended o w', t') ∧ runN P N (solo (G (Frame.enter P f args .normal) []) W) = .next last ∧ step P last = .ended o w' ∧ Go.Conc.Good P Post last o w' t' := by
 refine zV2 (K := Cp low tW msg) (σ := sig0) (γ := [0]) zVs hK (zQ3 W) rfl (zT7 low) rfl (fun j hj => wX hj rfl) (fun b hb => (by cases hb)) rfl rfl (@Gs.mono P (zSys P (Cp low tW msg)) _ _ _ _ (h []) fun g v' hs => ?_)
 obtain ⟨e, fr, v₀, ⟨x, rfl, hb, hp⟩, hr, rfl, hfn, hm, hd, hkd, fn, hf, ht, hres⟩ := hs
 have hb' : Below (seenZ W).heap.size (seenZ W) v' := hb.trans (hr.mono hb.size)
 refine ⟨rfl, ⟨[0], hb'.output, fun σ hok hg => zVu hok hg⟩, fun F w hv hbas => ?_⟩
 obtain ⟨w', h1, h2, h3, h4, h5⟩ := ht.ok (hres v' (Rl.refl v')) hv
 have hno : P.inits.idxOf? fr.fn = none := by rw [hfn]; exact noInit
 refine ⟨x, w', seen P fr.fn ((results fn fr.tmps).events P v' #[]), ?_, ?_, hp w' (zMp h4 h3 hbas hb')⟩
 ·rw [<- h2]
  simp [G, stepG, unwind, doReturn, hm, hd, hkd, hf, h1, hno, GStep.after]
 ·rw [<- hv.size]
  exact fun e he => h5 e (Go.Conc.mem_seen he)
end
theorem zAj {H : Type} {enc : TypeId × Value -> H} {a : Assume} {C : Checked} {os : Os} {f : FuncId} {fn : Func} {s : ChangeSpec} {conds : List PathCond} {apart fresh handsOn again : Bool} (tW : TypeId) (msg : Nat -> Value)
  (own : ownKnob C.prog.godebug = none) (started : os.Started) (noInit : C.prog.inits.idxOf? f = none) (hfn : C.prog.funcs[f]? = some fn)
  (witness : ∃ (w : World) (tape : Tape) (i : Input), w.os = os ∧ (w.forCall tape i).Shaped C.prog ∧ i.vars = [] ∧ Input.okWide C.prog (w.forCall tape i) .any w.heap.size f i ∧
   s.pre6 enc C.prog fn conds apart (w.forCall tape i).memory i.args ∧ a.holds C.prog (lone (Frame.enter C.prog f i.args .normal) [] (w.forCall tape i)))
  (contract : ∀ (W : World) (base : Nat) (args : Array Value) (ds gs : List (DataW H)) (before : List MemPlace),
   (∀ (j : Nat) t v, fn.params[j]? = some t -> args[j]? = some v -> Value.okWide C.prog W .any base t v) ->
   DataW.Whole enc C.prog fn.params.toList s.vars apart W args.toList ds gs before ->
   conds.all (PathCond.test C.prog ⟨fn.params.toList, ds, s.plain.varTypes C.prog, gs⟩) = true ->
   (DataW.weightsEach C.prog (fn.params.toList ++ s.plain.varTypes C.prog) (ds ++ gs)).all (· <= reachBytes) = true ->
   a.holds C.prog (lone (Frame.enter C.prog f args .normal) [] W) ->
   @Calls C.prog (zSys C.prog (Cp W.heap.size tW msg)) f args (seenZ W) fun e v' => ∃ x, e = .returned x ∧ Below (seenZ W).heap.size (seenZ W) v' ∧ ∀ W', Below W.heap.size W W' -> s.post enc C.prog fn apart fresh handsOn again W args x W') :
  ReturnsInLeavingWide a C os f .any (s.pre6 enc C.prog fn conds apart) (s.post enc C.prog fn apart fresh handsOn again) := by
 refine returnsInLeavingWide_of_good own started witness ?_
 intro w tape i _ _ _ hok hpre hholds
 obtain ⟨_, _, _, fn', hfn', _, _, _, _, hval⟩ := hok
 have e : fn' = fn := Option.some.inj (hfn'.symm.trans hfn)
 subst e
 obtain ⟨⟨ds, gs, before, hw, hc⟩, hz⟩ := hpre
 have hw' := DataW.Whole.of_heap (w' := w.forCall tape i) (by rfl) hw
 have hcalls := contract (w.forCall tape i) w.heap.size i.args ds gs before hval hw' hc (hz.weights hw) hholds
 obtain ⟨M, last, o, w', t', h1, h2, h3, h4⟩ := zIh rfl noInit hcalls
 exact ⟨M, last, o, w', t', h1, h2, h3, h4.mono fun v hp => ChangeSpec.post_blind hp⟩
end Go.Proofs.Yteppiphdbondeaa.N
/- What rows of laws about char share: the program's closed facts, and the law from its call in company. -/
namespace Go.Proofs.Yteppiphdbondeaa.N
open Go Go.ChangeShapes Go.WideShapes Go.ChangeAt Go.RowKit Go.Proofs Go.Proofs.Yteppiphdbondeaa Go.Proofs.Yteppiphdbondeaa.Rows
set_option linter.unusedSectionVars false
theorem own_ : ownKnob Try.prog.godebug = Option.none := by kernel_rfl
theorem zLv : laidOutB Try.prog = true := by kernel_rfl
theorem zUx : Try.prog.cellsOf 3 = 1 := by kernel_rfl
theorem zPw : Try.prog.underlying 22 = some (.slice 3) := by kernel_rfl
theorem zX9 : Try.prog.underlying 3 = some (.int .i64) := by kernel_rfl
theorem zXv : Try.prog.underlying 4 = some .bool := by kernel_rfl
theorem zUy : Try.prog.readableRec 22 = true := by kernel_rfl
set_option maxRecDepth 100000 in
theorem zXs : 22 < Try.prog.types.size := of_decide_eq_true (by kernel_rfl)
theorem zSi {α : Type} {cells : α -> List Value} {size : Nat} {W : World} {A : Option Addr} {l : List α} (h : RdL cells size W A l) : RdL cells size (seenZ W) A l := fun hl => by
 obtain ⟨b, o, h1, h2, h3⟩ := h hl
 exact ⟨b, o, h1, by simpa [seenZ, seenW] using h2, fun k x hk j u hu => zPh (h3 k x hk j u hu)⟩
abbrev ZS (W : World) : Sys := zSys Try.prog (Cp W.heap.size 131 msgM)
set_option maxRecDepth 100000 in
theorem zIr {H : Type} {enc : TypeId × Value -> H} {f : FuncId} {fn : Func} {s : ChangeSpec} (hp : fn.params = #[22]) (hr : fn.resultTypes = #[4]) (hs : s.vars = []) (hfn : ∀ d : DataW H, s.fn H [d] = { results := [.lit (.bool true)], args := [d] })
  (W : World) (law : ∀ (nA : Option Addr) (nc : Nat) (nums : List Int), RdL icell 1 (seenZ W) nA nums -> @Calls Try.prog (ZS W) f #[.slice nA nums.length nc] (seenZ W) fun e w' => e = .returned (.bool true) ∧ Grew (seenZ W) w' [])
  (base : Nat) (args : Array Value) (ds gs : List (DataW H)) (before : List MemPlace)
  (hval : ∀ (j : Nat) t v, fn.params[j]? = some t -> args[j]? = some v -> Value.okWide Try.prog W .any base t v)
  (hW : DataW.Whole enc Try.prog fn.params.toList s.vars false W args.toList ds gs before) :
  @Calls Try.prog (ZS W) f args (seenZ W) fun e v' => ∃ x, e = .returned x ∧ Below (seenZ W).heap.size (seenZ W) v' ∧ ∀ W', Below W.heap.size W W' -> s.post enc Try.prog fn false true false false W args x W' := by
 have hW' := hW
 obtain ⟨p, q, hA, hV, rfl, _, _⟩ := hW
 rw [hs] at hV
 rw [hp] at hA hval
 obtain ⟨v0, d0, rfl, rfl, h0⟩ := trodAll_one hA
 obtain ⟨rfl, rfl⟩ := trodVars_none hV
 obtain ⟨a0, len, cap, rfl⟩ := okWide_slice zPw (hval 0 22 v0 rfl rfl)
 have h0k := h0
 obtain ⟨fuel, hf⟩ := h0
 clear hA
 simp only [List.append_nil] at hW'
 have hlt : ∀ x ∈ p, x.block < W.heap.size := fun x hx => by simpa using hW'.lt x hx
 have hargs : ∀ (W' : World), Below W.heap.size W W' -> DataW.Trod enc Try.prog W' 0 (fun b => decide (b < W.heap.size)) true 22 (.slice a0 len cap) d0 p :=
  fun W' hn => Below.trod zLv zUy zXs h0k hn hlt
 have close : ∀ nums : List Int, nums.length = len -> RdL icell 1 W a0 nums -> @Calls Try.prog (ZS W) f #[.slice a0 len cap] (seenZ W) fun e v' => ∃ x, e = .returned x ∧ Below (seenZ W).heap.size (seenZ W) v' ∧ ∀ W', Below W.heap.size W W' -> s.post enc Try.prog fn false true false false W #[.slice a0 len cap] x W' := by
  intro nums hn hR
  have hl := law a0 cap nums (zSi hR)
  rw [hn] at hl
  refine @Calls.mono _ (ZS W) _ _ _ _ _ hl fun e v' ⟨he, hg⟩ => ⟨_, he, hg.1, fun W' hb => ?_⟩
  refine ⟨_, _, _, [], p, [], hW', ?_, ?_, ?_, hb.frame _, fun h => Bool.noConfusion h⟩
  ·rw [show s.fn H ([d0] ++ []) = _ from hfn d0, hr]; exact trodAll_mk1 (shut_bool zXv true)
  ·rw [show s.fn H ([d0] ++ []) = _ from hfn d0, hp]; exact trodAll_mk1 (hargs W' hb)
  ·rw [show s.fn H ([d0] ++ []) = _ from hfn d0, hs]; rfl
 rcases open_ints zPw zX9 zUx hf with ⟨hcs, hx⟩ | ⟨a, len', cap', zs, hcs, _, hl, hm, hz, hx, hcell, hwz⟩
 ·simp [Value.cells] at hcs
  obtain ⟨rfl, rfl, rfl⟩ := hcs
  exact close [] rfl (fun h => absurd h (by simp))
 ·simp [Value.cells] at hcs
  obtain ⟨rfl, rfl, rfl⟩ := hcs
  simp only [Prod.mk.injEq] at hx
  obtain ⟨rfl, rfl⟩ := hx
  simp only [if_true] at hz
  obtain ⟨b, off, spot⟩ := a
  refine close (zs.take len) (by rw [List.length_take]; omega) (fun hpos => ?_)
  rw [List.length_take] at hpos
  have hspot : spot = Option.none := by simpa [Addr.add] using World.cell?_spot (hcell 0 om)
  subst hspot
  refine ⟨b, off, rfl, hlt (.cell b off) (MemPlace.mem_row.2 ⟨0, by omega, by simp⟩), fun k x hk j u hu => ?_⟩
  rw [List.getElem?_take] at hk
  split at hk
  ·rename_i hkl
   cases j with
   | zero =>
    simp [icell] at hu
    subst hu
    have := hcell k om
    rw [List.getD_eq_getElem?_getD, hk] at this
    rw [Nat.mul_one, Nat.add_zero]
    rw [add_plain] at this
    exact this
   | succ j => simp [icell] at hu
  ·cases hk
def orderN : List Nat := [104, 97, 114, 110, 101, 115, 115, 32, 55, 101, 48, 57, 54, 53, 99, 53, 56, 54, 50, 48, 53, 101, 50, 57, 53, 97, 99, 57, 53, 56, 98, 100, 52, 101, 101, 55, 102, 54, 99, 102, 55, 100, 53, 102, 53, 50, 97, 49, 57, 102, 99, 99, 102, 52, 99, 49, 50, 48, 99, 54, 56, 48, 48, 100, 102, 98, 98, 53, 99, 54, 49, 48, 32, 99, 117, 116, 32, 97, 116, 32, 109, 117, 115, 99, 111, 118, 97, 100, 111, 47, 109, 117, 115, 99, 111, 118, 97, 100, 111, 108, 97, 119, 48, 52, 46, 67, 104, 97, 114, 70, 101, 119, 101, 115, 116, 32, 109, 117, 115, 99, 111, 118, 97, 100, 111, 47, 109, 117, 115, 99, 111, 118, 97, 100, 111, 108, 97, 119, 48, 52, 46, 67, 104, 97, 114, 70, 105, 114, 115, 116, 32, 109, 117, 115, 99, 111, 118, 97, 100, 111, 47, 109, 117, 115, 99, 111, 118, 97, 100, 111, 108, 97, 119, 48, 52, 46, 67, 104, 97, 114, 66, 117, 121, 32, 109, 117, 115, 99, 111, 118, 97, 100, 111, 47, 109, 117, 115, 99, 111, 118, 97, 100, 111, 108, 97, 119, 48, 52, 46, 67, 104, 97, 114, 83, 116, 114, 111, 110, 103, 101, 114, 32, 109, 117, 115, 99, 111, 118, 97, 100, 111, 47, 109, 117, 115, 99, 111, 118, 97, 100, 111, 108, 97, 119, 48, 52, 46, 67, 104, 97, 114, 67, 108, 101, 97, 114, 101, 100, 32, 109, 117, 115, 99, 111, 118, 97, 100, 111, 47, 109, 117, 115, 99, 111, 118, 97, 100, 111, 108, 97, 119, 48, 52, 46, 67, 104, 97, 114, 65, 103, 97, 105, 110, 32, 109, 117, 115, 99, 111, 118, 97, 100, 111, 47, 109, 117, 115, 99, 111, 118, 97, 100, 111, 108, 97, 119, 48, 52, 46, 67, 104, 97, 114, 78, 101, 101, 100, 101, 100, 32, 109, 117, 115, 99, 111, 118, 97, 100, 111, 47, 109, 117, 115, 99, 111, 118, 97, 100, 111, 108, 97, 119, 48, 52, 46, 67, 104, 97, 114, 76, 101, 102, 116, 32, 109, 117, 115, 99, 111, 118, 97, 100, 111, 47, 109, 117, 115, 99, 111, 118, 97, 100, 111, 108, 97, 119, 48, 52, 46, 67, 104, 97, 114, 77, 111, 115, 116, 32, 109, 117, 115, 99, 111, 118, 97, 100, 111, 47, 109, 117, 115, 99, 111, 118, 97, 100, 111, 108, 97, 119, 48, 52, 46, 67, 104, 97, 114, 75, 110, 111, 119, 110]
def wordsN : List (List Nat) := [[104, 97, 114, 110, 101, 115, 115], [55, 101, 48, 57, 54, 53, 99, 53, 56, 54, 50, 48, 53, 101, 50, 57, 53, 97, 99, 57, 53, 56, 98, 100, 52, 101, 101, 55, 102, 54, 99, 102, 55, 100, 53, 102, 53, 50, 97, 49, 57, 102, 99, 99, 102, 52, 99, 49, 50, 48, 99, 54, 56, 48, 48, 100, 102, 98, 98, 53, 99, 54, 49, 48], [99, 117, 116], [97, 116], [109, 117, 115, 99, 111, 118, 97, 100, 111, 47, 109, 117, 115, 99, 111, 118, 97, 100, 111, 108, 97, 119, 48, 52, 46, 67, 104, 97, 114, 70, 101, 119, 101, 115, 116], [109, 117, 115, 99, 111, 118, 97, 100, 111, 47, 109, 117, 115, 99, 111, 118, 97, 100, 111, 108, 97, 119, 48, 52, 46, 67, 104, 97, 114, 70, 105, 114, 115, 116], [109, 117, 115, 99, 111, 118, 97, 100, 111, 47, 109, 117, 115, 99, 111, 118, 97, 100, 111, 108, 97, 119, 48, 52, 46, 67, 104, 97, 114, 66, 117, 121], [109, 117, 115, 99, 111, 118, 97, 100, 111, 47, 109, 117, 115, 99, 111, 118, 97, 100, 111, 108, 97, 119, 48, 52, 46, 67, 104, 97, 114, 83, 116, 114, 111, 110, 103, 101, 114], [109, 117, 115, 99, 111, 118, 97, 100, 111, 47, 109, 117, 115, 99, 111, 118, 97, 100, 111, 108, 97, 119, 48, 52, 46, 67, 104, 97, 114, 67, 108, 101, 97, 114, 101, 100], [109, 117, 115, 99, 111, 118, 97, 100, 111, 47, 109, 117, 115, 99, 111, 118, 97, 100, 111, 108, 97, 119, 48, 52, 46, 67, 104, 97, 114, 65, 103, 97, 105, 110], [109, 117, 115, 99, 111, 118, 97, 100, 111, 47, 109, 117, 115, 99, 111, 118, 97, 100, 111, 108, 97, 119, 48, 52, 46, 67, 104, 97, 114, 78, 101, 101, 100, 101, 100], [109, 117, 115, 99, 111, 118, 97, 100, 111, 47, 109, 117, 115, 99, 111, 118, 97, 100, 111, 108, 97, 119, 48, 52, 46, 67, 104, 97, 114, 76, 101, 102, 116], [109, 117, 115, 99, 111, 118, 97, 100, 111, 47, 109, 117, 115, 99, 111, 118, 97, 100, 111, 108, 97, 119, 48, 52, 46, 67, 104, 97, 114, 77, 111, 115, 116], [109, 117, 115, 99, 111, 118, 97, 100, 111, 47, 109, 117, 115, 99, 111, 118, 97, 100, 111, 108, 97, 119, 48, 52, 46, 67, 104, 97, 114, 75, 110, 111, 119, 110]]
set_option maxRecDepth 100000 in
theorem zW4 : Try.prog.initOrder = String.ofList (orderN.map Char.ofNat) := by kernel_rfl
theorem zVa : Try.prog.initOrder.toList = orderN.map Char.ofNat := by rw [zW4, String.toList_ofList]
def wordN (k : Nat) : List Char := (wordsN.getD k []).map Char.ofNat
def wordR : List (List Char) := (wordsN.drop 3).map (·.map Char.ofNat)
set_option maxRecDepth 100000 in
theorem zVo : wordsSigns Try.prog.initOrder.toList = wordN 0 :: wordN 1 :: wordN 2 :: wordR := by
 rw [zVa]
 kernel_rfl
theorem zRm {a b : List Char} {r : List (List Char)} (h1 : (a == "harness".toList || a == "ownmain".toList) = true) (h2 : isSumSigns b = true) : behindMainWord (a :: b :: r) = r := by
 unfold behindMainWord
 dsimp only
 rw [h1, h2]
 rfl
theorem zLc : behindMainWord (wordsSigns Try.prog.initOrder.toList) = wordN 2 :: wordR := by
 rw [zVo]
 exact zRm kr kr
theorem zU6 {P : Program} {c : List Char} {rest : List (List Char)} (h : behindMainWord (wordsSigns P.initOrder.toList) = c :: rest) (h1 : (c == "gc".toList || c == "spec".toList) = false) (h2 : (c == "cut".toList) = true) : P.make = some .cut := by
 unfold Program.make
 rw [h]
 dsimp only
 rw [h1, h2]
 rfl
theorem zWq {P : Program} {c : List Char} {rest : List (List Char)} (h : behindMainWord (wordsSigns P.initOrder.toList) = c :: rest) (h1 : (stripLifts liftWords (c :: rest)).1 = []) (h2 : ((stripLifts liftWords (c :: rest)).2.head? == some "cut".toList) = true) (h3 : P.laysLater = false) (h4 : P.bearsReflect = false) (h5 : P.doorFits [] = true) : P.mayEnter = true := by
 unfold Program.mayEnter
 rw [h]
 dsimp only
 rw [h1, h2, h3, h4, h5]
 simp
theorem zR9 {P : Program} {c : List Char} {rest : List (List Char)} (h : behindMainWord (wordsSigns P.initOrder.toList) = c :: rest) (h1 : (stripLifts liftWords (c :: rest)).1 = []) (h2 : (c == "carried".toList) = false) : P.liftsFinal = false := by
 have e : (some c == some "carried".toList) = false := h2
 unfold Program.liftsFinal Program.headLifts
 dsimp only
 rw [h, h1, List.head?_cons, e]
 simp
theorem zHj : (stripLifts liftWords (wordN 2 :: wordR)).1 = [] := by kernel_rfl
set_option maxRecDepth 100000 in
theorem zXy : Try.prog.make = some .cut := zU6 zLc (by kernel_rfl) (by kernel_rfl)
set_option maxRecDepth 100000 in
theorem zXc : Try.prog.liftsFinal = false := zR9 zLc zHj (by kernel_rfl)
set_option maxRecDepth 100000 in
theorem zO0 : Try.prog.laysLater = false := by kernel_rfl
set_option maxRecDepth 100000 in
theorem zJ6 : Try.prog.bearsReflect = false := by kernel_rfl
set_option maxRecDepth 100000 in
theorem zXq : Try.prog.doorFits [] = true := by kernel_rfl
set_option maxRecDepth 100000 in
theorem may_ : Try.prog.mayEnter = true := zWq zLc zHj (by kernel_rfl) zO0 zJ6 zXq
set_option maxRecDepth 100000 in
theorem zOy : mapsRowed Try.prog = true := by kernel_rfl
set_option maxRecDepth 100000 in
theorem zOr : Try.prog.plainKeys = false := by kernel_rfl
set_option maxRecDepth 100000 in
theorem zMm : Try.prog.stopsHeard = true := by kernel_rfl
end Go.Proofs.Yteppiphdbondeaa.N
namespace Go.Proofs.Yteppiphdbondeaa.N
open Go Go.RowKit Go.Proofs
set_option linter.unusedSectionVars false
theorem zR8 (W : World) : @RdC (ZS W) (reaC_main W.heap.size) (seenZ W) := ⟨by show W.heap.size <= (seenZ W).heap.size; simp [seenZ, seenW], rfl⟩
end Go.Proofs.Yteppiphdbondeaa.N
