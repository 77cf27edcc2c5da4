/- Parts of the walk of the law CharAgain: T28, Sx7, ChA, ChG, T29, T30, ChU, ChD, ChAC, ChAH, T39, ChAI, ChAJ, T42, ChRow, RowC, RowC2. -/
import Derived.Test.YteppiphdbondeaaSCharAgain09
import Derived.Test.YteppiphdbondeaaProg
import Derived.Test.YteppiphdbondeaaSCharAgain05
import Derived.DeepKeys3
import Derived.Test.YteppiphdbondeaaSCharAgain08
import Derived.ArgAppend
import Derived.Deep.Upon
import Derived.Test.YteppiphdbondeaaSCharAgain03
import Derived.Test.YteppiphdbondeaaRows
import Derived.ChangeSame
import Derived.ChangeVars
import Derived.JoinedOf
import Derived.RowKit
import Derived.RowKitTokens
import Derived.WitnessAt
import Derived.Stop.Joined
import Derived.ProofKit
import Derived.SizedLaws
import Derived.OpenShut
import Derived.Conc.Holds
namespace Go.Proofs.Yteppiphdbondeaa.N
open Go Go.RowKit Go.Proofs
set_option linter.unusedSectionVars false
variable [I : Sys]
theorem F.ent14 : Enters Try.prog 14 := jF Try.func14 rfl (by kernel_rfl)
theorem F.ent27 : Enters Try.prog 27 := jF Try.func27 rfl (by kernel_rfl)
theorem zP2 {C : Ctx} {fr : List (Nat × Value)} {T : List Res} {a : Act} {w : World} (hC : C.P = Try.prog) {hb tk st nc : Nat} {nA : Option Addr} {nums : List Int} (hB : C.w0.heap.size = C.B) (hN : RdL icell 1 C.w0 nA nums) (htk : tk <= 900000) (hst : st < 18446744073709551616) (ha : At C fr (.blk hb (hatO nA nums.length nc (tk) (st)) :: T) a w) : Calls C.P 27 #[.pointer (some ⟨hb, 0, none⟩)] w fun e w' => ∃ (tk' st' : Nat) (f : Flt), tk' <= tk + 10 ∧ st' < 18446744073709551616 ∧ FltOk f ∧ e = .returned (.agg [.int .i64 (f.power : Int), .int .i64 (f.gain : Int), .int .i64 (f.now : Int), .bool f.washed].toArray) ∧ At C fr (.blk hb (hatO nA nums.length nc (tk') (st')) :: T) a w' := by
 obtain ⟨P, B, w0, N0, ds⟩ := C
 obtain rfl : P = Try.prog := hC
 (try dsimp only at hB)
 (try dsimp only at hN)
 refine vU (N := 30) [(0, .pointer (some ⟨hb, 0, none⟩))] ha Try.func27 rfl Try.ntmps27 rfl rfl ?_
 refine zD (zB (zT rfl F.ti49 ?_))
 intro b2
 refine zA (zC (zD (zB (zF rfl rfl (kI (vs := [(0, _), (1, _), (2, _), (3, _), (4, _), (5, _)]) rfl rfl Try.underlying22 F.ti3 rfl rfl rfl ?_)))))
 intro b5
 refine vR [1, 2, 2, 3, 3, 4] rfl rfl rfl hB hN hst om (by simp) (by simp) (InB.mem (b := b5)) ?_
 rintro s1 pw hs1 hpw
 simp only [List.mem_cons, List.not_mem_nil, or_false] at hpw
 refine jX (vs := [(0, _)]) (l' := [_, _, _, _]) rfl rfl F.ti49 F.pl49 (.cons rfl rfl (.nil _)) rfl ?_
 refine zT rfl F.ti49 ?_
 intro b3
 refine zI rfl rfl F.ti49 rfl ?_
 refine zA (zC (zD (vK (G := Nat × Nat) (fun g => g.1 < 18446744073709551616 ∧ g.2 <= pw) (fun g => [(0, .pointer (some ⟨hb, 0, none⟩)), (2, .pointer (some ⟨b2, 0, none⟩)), (3, .pointer (some ⟨b3, 0, none⟩))]) (fun g => .blk hb (hatO nA nums.length nc (tk + 1 + 1 + 1) (g.1)) :: .blk b3 (.cells [.int .i64 (pw : Int), .int .i64 (g.2 : Int), .int .i64 (pw : Int), .bool false].toArray 49 (0, 0)) :: .blk b2 (.cells [.int .i64 0, .int .i64 0, .int .i64 0, .bool false].toArray 49 (0, 0)) :: T) ?_ ?_)))
 ·refine kA [.b b3, .b hb] F.follows 13 rfl [false, false, false, false, false, false, false, false, false, false, false, false, false] rfl ?_
  refine zG 0 rfl rfl rfl (zU rfl) ?_
  refine zG 1 rfl rfl rfl (zU rfl) ?_
  refine zG 2 rfl rfl rfl (zS rfl F.fi49_0 F.ti3) ?_
  refine zG 7 rfl rfl rfl (zS rfl F.fi49_0 F.ti3) ?_
  refine qK 3 8 kr rfl rfl rfl rfl ?_ ?_
  ·refine zP rfl rfl F.one3 ?_
   refine zA (anb (qK 4 8 kr rfl rfl rfl rfl ?_ ?_))
   ·refine yE rfl rfl rfl hB hN hs1 om om ?_
    rintro s2 g1 hs2 hg1
    refine zA (anb (qK 5 8 kr rfl rfl rfl rfl ?_ ?_))
    ·refine kI (vs := [(0, _), (1, _), (2, _), (3, _)]) rfl rfl Try.underlying22 F.ti3 rfl rfl rfl ?_
     intro b13
     refine zA (anb (qK 6 8 kr rfl rfl rfl rfl ?_ ?_))
     ·refine vR [0, 1, 1, g1] rfl rfl rfl hB hN hs2 om (by simp) (by simp) (InB.mem (b := b13)) ?_
      rintro s3 gn hs3 hgn
      simp only [List.mem_cons, List.not_mem_nil, or_false] at hgn
      refine zA (anb (an1 8 rfl ?_))
      refine zP rfl rfl F.one3 ?_
      refine zA (anb (zG 9 rfl rfl rfl (zS rfl F.fi49_1 F.ti3) ?_))
      refine an1 10 rfl ?_
      refine zI rfl rfl F.ti3 rfl ?_
      refine zA (anb (zG 11 rfl rfl rfl (zS rfl F.fi49_2 F.ti3) ?_))
      refine an1 12 rfl ?_
      refine zI rfl rfl F.ti3 rfl ?_
      refine zA (anb (adn ?_))
      exact kC (s3, gn) ⟨hs3, by dsimp only; omega⟩ sbn pkk
     ·refine zP rfl rfl F.one3 ?_
      refine zA (anb (an1 6 rfl ?_))
      refine vR [0, 1, 1, g1] rfl rfl rfl hB hN hs2 om (by simp) (by simp) (InB.mem (b := b13)) ?_
      rintro s3 gn hs3 hgn
      simp only [List.mem_cons, List.not_mem_nil, or_false] at hgn
      refine zA (anb (zG 9 rfl rfl rfl (zS rfl F.fi49_1 F.ti3) ?_))
      refine an1 10 rfl ?_
      refine zI rfl rfl F.ti3 rfl ?_
      refine zA (anb (zG 11 rfl rfl rfl (zS rfl F.fi49_2 F.ti3) ?_))
      refine an1 12 rfl ?_
      refine zI rfl rfl F.ti3 rfl ?_
      refine zA (anb (adn ?_))
      exact kC (s3, gn) ⟨hs3, by dsimp only; omega⟩ sbn pkk
    ·refine zP rfl rfl F.one3 ?_
     refine zA (anb (an1 5 rfl ?_))
     refine kI (vs := [(0, _), (1, _), (2, _), (3, _)]) rfl rfl Try.underlying22 F.ti3 rfl rfl rfl ?_
     intro b13
     refine zA (anb (an1 6 rfl ?_))
     refine vR [0, 1, 1, g1] rfl rfl rfl hB hN hs2 om (by simp) (by simp) (InB.mem (b := b13)) ?_
     rintro s3 gn hs3 hgn
     simp only [List.mem_cons, List.not_mem_nil, or_false] at hgn
     refine zA (anb (zG 9 rfl rfl rfl (zS rfl F.fi49_1 F.ti3) ?_))
     refine an1 10 rfl ?_
     refine zI rfl rfl F.ti3 rfl ?_
     refine zA (anb (zG 11 rfl rfl rfl (zS rfl F.fi49_2 F.ti3) ?_))
     refine an1 12 rfl ?_
     refine zI rfl rfl F.ti3 rfl ?_
     refine zA (anb (adn ?_))
     exact kC (s3, gn) ⟨hs3, by dsimp only; omega⟩ sbn pkk
   ·refine zP rfl rfl F.one3 ?_
    refine zA (anb (an1 4 rfl ?_))
    refine yE rfl rfl rfl hB hN hs1 om om ?_
    rintro s2 g1 hs2 hg1
    refine zA (anb (an1 5 rfl ?_))
    refine kI (vs := [(0, _), (1, _), (2, _), (3, _)]) rfl rfl Try.underlying22 F.ti3 rfl rfl rfl ?_
    intro b13
    refine zA (anb (an1 6 rfl ?_))
    refine vR [0, 1, 1, g1] rfl rfl rfl hB hN hs2 om (by simp) (by simp) (InB.mem (b := b13)) ?_
    rintro s3 gn hs3 hgn
    simp only [List.mem_cons, List.not_mem_nil, or_false] at hgn
    refine zA (anb (zG 9 rfl rfl rfl (zS rfl F.fi49_1 F.ti3) ?_))
    refine an1 10 rfl ?_
    refine zI rfl rfl F.ti3 rfl ?_
    refine zA (anb (zG 11 rfl rfl rfl (zS rfl F.fi49_2 F.ti3) ?_))
    refine an1 12 rfl ?_
    refine zI rfl rfl F.ti3 rfl ?_
    refine zA (anb (adn ?_))
    exact kC (s3, gn) ⟨hs3, by dsimp only; omega⟩ sbn pkk
  ·refine zP rfl rfl F.one3 ?_
   refine zA (anb (an1 3 rfl ?_))
   refine zP rfl rfl F.one3 ?_
   refine zA (anb (an1 4 rfl ?_))
   refine yE rfl rfl rfl hB hN hs1 om om ?_
   rintro s2 g1 hs2 hg1
   refine zA (anb (an1 5 rfl ?_))
   refine kI (vs := [(0, _), (1, _), (2, _), (3, _)]) rfl rfl Try.underlying22 F.ti3 rfl rfl rfl ?_
   intro b13
   refine zA (anb (an1 6 rfl ?_))
   refine vR [0, 1, 1, g1] rfl rfl rfl hB hN hs2 om (by simp) (by simp) (InB.mem (b := b13)) ?_
   rintro s3 gn hs3 hgn
   simp only [List.mem_cons, List.not_mem_nil, or_false] at hgn
   refine zA (anb (zG 9 rfl rfl rfl (zS rfl F.fi49_1 F.ti3) ?_))
   refine an1 10 rfl ?_
   refine zI rfl rfl F.ti3 rfl ?_
   refine zA (anb (zG 11 rfl rfl rfl (zS rfl F.fi49_2 F.ti3) ?_))
   refine an1 12 rfl ?_
   refine zI rfl rfl F.ti3 rfl ?_
   refine zA (anb (adn ?_))
   exact kC (s3, gn) ⟨hs3, by dsimp only; omega⟩ sbn pkk
 ·rintro ⟨s3, gn⟩ ⟨hs3, hgn⟩
  dsimp only at hs3 hgn ⊢
  refine zC (zD (zD (zB (zF rfl rfl (zB0 rfl rfl rfl hB hN hs3 om om om ?_)))))
  rintro s4 sb hs4
  refine zA (zC (qE rfl (fun hc0 => ?_) (fun hc0 => ?_)))
  ·refine zB (zF rfl rfl (zM rfl rfl F.fi49_0 F.ti3 ?_))
   refine zP rfl rfl F.one3 ?_
   refine yE rfl rfl rfl hB hN hs4 om om ?_
   rintro s5 nw hs5 hnw
   refine zM rfl rfl F.fi49_2 F.ti3 ?_
   refine zI rfl rfl F.ti3 rfl ?_
   refine zA (zC (zD (zB (zF rfl rfl (zB0 rfl rfl rfl hB hN hs5 om om om ?_)))))
   rintro s6 wb hs6
   refine zM rfl rfl F.fi49_3 F.ti4 ?_
   refine zI rfl rfl F.ti4 rfl ?_
   refine zA (zC (zD (zB (jE rfl rfl F.agg49 F.ti49 ?_))))
   refine zI rfl rfl F.ti49 rfl ?_
   refine zA (zC (zW ?_))
   exact jI rfl (fun a w ha => by exact qQ (ha := ha) rfl rfl F.agg49 F.ti49 rfl) (fun _ _ ha' => ⟨tk + 1 + 1 + 1 + 1 + 1 + 1, s6, ⟨pw, gn, nw, wb⟩, by omega, hs6, ⟨by show 1 <= pw; omega, by show pw <= 4; omega, by show gn <= pw; omega, by show nw <= pw; omega⟩, rfl, ha.back (ha'.pck pkk)⟩)
  ·refine zV (zC (zD (zB (zF rfl rfl (zB0 rfl rfl rfl hB hN hs4 om om om ?_)))))
   rintro s6 wb hs6
   refine zM rfl rfl F.fi49_3 F.ti4 ?_
   refine zI rfl rfl F.ti4 rfl ?_
   refine zA (zC (zD (zB (jE rfl rfl F.agg49 F.ti49 ?_))))
   refine zI rfl rfl F.ti49 rfl ?_
   refine zA (zC (zW ?_))
   exact jI rfl (fun a w ha => by exact qQ (ha := ha) rfl rfl F.agg49 F.ti49 rfl) (fun _ _ ha' => ⟨tk + 1 + 1 + 1 + 1 + 1, s6, ⟨pw, gn, pw, wb⟩, by omega, hs6, ⟨by show 1 <= pw; omega, by show pw <= 4; omega, by show gn <= pw; omega, by show pw <= pw; omega⟩, rfl, ha.back (ha'.pck pkk)⟩)

theorem zK2 {C : Ctx} {fr : List (Nat × Value)} {T : List Res} {a : Act} {w : World} (hC : C.P = Try.prog) {hb tk st nc : Nat} {nA : Option Addr} {nums : List Int} (hB : C.w0.heap.size = C.B) (hN : RdL icell 1 C.w0 nA nums) (htk : tk <= 800000) (hst : st < 18446744073709551616) {nf ny : Nat} (hf1 : 1 <= nf) (hf3 : nf <= 3) (hy1 : 1 <= ny) (hy4 : ny <= 4) (ha : At C fr (.blk hb (hatO nA nums.length nc (tk) (st)) :: T) a w) : Calls C.P 14 #[.pointer (some ⟨hb, 0, none⟩), .int .i64 (nf : Int), .int .i64 (ny : Int)] w fun e w' => ∃ (tk' st' kiln : Nat) (fs : List Flt) (days : List Nat) (A D : Option Addr) (c dc : Nat), tk' <= tk + 100 ∧ st' < 18446744073709551616 ∧ fs.length <= nf ∧ days.length <= ny ∧ ChV fs kiln days ∧ e = .returned (.agg [.slice A fs.length c, .int .i64 (kiln : Int), .slice D days.length dc].toArray) ∧ At C fr (.row 49 4 A fs.length c (fs.flatMap Flt.cells) :: .row 3 1 D days.length dc (ints days) :: .blk hb (hatO nA nums.length nc (tk') (st')) :: T) a w' := by
 obtain ⟨P, B, w0, N0, ds⟩ := C
 obtain rfl : P = Try.prog := hC
 (try dsimp only at hB)
 (try dsimp only at hN)
 refine vU (N := 59) [(0, .pointer (some ⟨hb, 0, none⟩)), (1, .int .i64 (nf : Int)), (2, .int .i64 (ny : Int))] ha Try.func14 rfl Try.ntmps14 rfl rfl ?_
 refine zD (zB (zT rfl F.ti27 ?_))
 intro b6
 refine zA (zC (zD (zB (zF rfl rfl (kI (vs := [(0, _), (1, _), (2, _), (3, _)]) rfl rfl Try.underlying22 F.ti3 rfl rfl rfl ?_)))))
 intro b13
 refine vR [0, 1, 1, 2] rfl rfl rfl hB hN hst om (by simp) (by simp) (InB.mem (b := b13)) ?_
 rintro s0 kiln hs0 hkiln
 simp only [List.mem_cons, List.not_mem_nil, or_false] at hkiln
 refine jX (vs := [(1, _)]) (l' := [_, _, _]) rfl rfl F.ti27 F.pl27 (.cons rfl rfl (.nil _)) rfl ?_
 refine zT rfl F.ti27 ?_
 intro b7
 refine zI rfl rfl F.ti27 rfl ?_
 refine zA (zC (zD (zB (zE rfl rfl (zA (zC (zD (zD (zB (zF rfl rfl (zF rfl rfl (zLo (lo := 1) (hi := nf) rfl rfl rfl hB hN hs0 om om om ?_))))))))))))
 rintro s1 n0 hs1 hn0a hn0b
 refine zE rfl rfl (zA (zC (jD (zOw 49 4 ?_))))
 refine wD (G := Nat × Nat × Nat × Option Addr × Nat × List Flt × Nat) (fun g => g.1 + g.2.2.2.2.2.1.length = n0 ∧ (∀ x ∈ g.2.2.2.2.2.1, FltOk x) ∧ g.2.1 <= tk + 2 + 10 * g.2.2.2.2.2.1.length ∧ g.2.2.1 < 18446744073709551616 ∧ g.2.2.2.2.2.2 <= 4 * g.2.2.2.2.2.1.length) (fun g => g.1) (fun g => [(0, .pointer (some ⟨hb, 0, none⟩)), (1, .int .i64 (nf : Int)), (2, .int .i64 (ny : Int)), (6, .pointer (some ⟨b6, 0, none⟩)), (7, .pointer (some ⟨b7, 0, none⟩)), (8, .int .i64 (g.2.2.2.2.2.2 : Int)), (9, .int .i64 (g.1 : Int))]) (fun g => .row 49 4 g.2.2.2.1 g.2.2.2.2.2.1.length g.2.2.2.2.1 (g.2.2.2.2.2.1.flatMap Flt.cells) :: .blk b7 (.cells [.slice g.2.2.2.1 g.2.2.2.2.2.1.length g.2.2.2.2.1, .int .i64 (kiln : Int), .slice none 0 0].toArray 27 (0, 0)) :: .blk b6 (.cells [.slice none 0 0, .int .i64 0, .slice none 0 0].toArray 27 (0, 0)) :: .blk hb (hatO nA nums.length nc (g.2.1) (g.2.2.1)) :: T) (n0, tk + 1 + 1, s1, none, 0, [], 0) ⟨by simp, by simp, by simp, hs1, by simp⟩ sbn pkk ?_
 rintro ⟨i, t1, s2, A1, c1, fs, sm⟩ ⟨hil, hlo, ht1, hs2, hsm⟩
 (try dsimp only at hil hlo ht1 hs2 hsm ⊢)
 refine zD (zD (zB (zF rfl rfl (zJ rfl rfl rfl zB8 ?_))))
 refine zA (zC (zR rfl (fun hc0 => ?_) (fun hc0 => ?_)))
 ·obtain ⟨i, rfl⟩ : ∃ i', i = i' + 1 := ⟨i - 1, by omega⟩
  refine zV (zC (zD (jD (zD (zB (zF rfl rfl (wI (X := Nat × Nat × Flt) (vs := [_]) hb (fun y => hatO nA nums.length nc (y.1) (y.2.1)) (fun y => y.1 <= t1 + 10 ∧ y.2.1 < 18446744073709551616 ∧ FltOk y.2.2) (fun y => .agg [.int .i64 (y.2.2.power : Int), .int .i64 (y.2.2.gain : Int), .int .i64 (y.2.2.now : Int), .bool y.2.2.washed].toArray) rfl rfl F.ent27 (fun a w ha => (zP2 (C := ⟨Try.prog, B, w0, _, _⟩) rfl hB hN (tk := t1) (st := s2) om hs2 ha).mono (fun e w' h => by obtain ⟨t', s', x, h1, h2, h3, h4, h5⟩ := h; exact ⟨(t', s', x), ⟨h1, h2, h3⟩, h4, h5⟩)) ?_)))))))
  rintro ⟨t2, s3, ⟨pw, gn, nw, wd⟩⟩ ⟨ht2, hs3, hfo⟩
  dsimp only at ht2 hs3 hfo ⊢
  refine zT rfl F.ti49 ?_
  intro b10
  refine zI rfl rfl F.ti49 rfl ?_
  refine zA (zC (vK (G := Option Addr × Nat) (fun _ => True) (fun x => [(0, .pointer (some ⟨hb, 0, none⟩)), (1, .int .i64 (nf : Int)), (2, .int .i64 (ny : Int)), (6, .pointer (some ⟨b6, 0, none⟩)), (7, .pointer (some ⟨b7, 0, none⟩)), (8, .int .i64 ((sm + pw : Nat) : Int)), (9, .int .i64 ((i + 1 : Nat) : Int))]) (fun x => .row 49 4 x.1 (fs.length + 1) x.2 (fs.flatMap Flt.cells ++ [.int .i64 (pw : Int), .int .i64 (gn : Int), .int .i64 (nw : Int), .bool wd]) :: .blk b7 (.cells [.slice x.1 (fs.length + 1) x.2, .int .i64 (kiln : Int), .slice none 0 0].toArray 27 (0, 0)) :: .blk b6 (.cells [.slice none 0 0, .int .i64 0, .slice none 0 0].toArray 27 (0, 0)) :: .blk hb (hatO nA nums.length nc (t2) (s3)) :: T) ?_ ?_))
  ·refine kA [.b b7, .r A1] F.follows 12 rfl [false, false, false, false, false, false, false, false, false, false, false, false] rfl ?_
   have hpw4 : pw <= 4 := hfo.2.1
   refine zG 0 rfl rfl rfl (zS rfl F.fi27_0 F.ti25) ?_
   refine zG 2 rfl rfl rfl (qM rfl F.agg49 F.ti49) ?_
   refine zG 5 rfl rfl rfl (zU rfl) ?_
   refine zG 6 rfl rfl rfl (zS rfl F.fi49_0 F.ti3) ?_
   refine zG 7 rfl rfl rfl (jN rfl F.one3) ?_
   refine zG 8 rfl rfl rfl (kP (v := .int .i64 ((sm + pw : Nat) : Int)) rfl rfl (fun w => jP w (jC _ om om))) ?_
   refine qK 1 3 kr rfl rfl rfl rfl ?_ ?_
   ·refine zP rfl rfl F.one25 ?_
    refine zA (anb (an1 3 rfl ?_))
    refine yV (vs := [(0, .agg ([.int .i64 (pw : Int), .int .i64 (gn : Int), .int .i64 (nw : Int), .bool wd] : List Value).toArray)]) [.int .i64 (pw : Int), .int .i64 (gn : Int), .int .i64 (nw : Int), .bool wd] rfl rfl Try.underlying25 F.ti49 rfl rfl rfl (Lit.agg (l1 := [.int .i64 (pw : Int), .int .i64 (gn : Int), .int .i64 (nw : Int), .bool wd]) (l := []) rfl rfl) ?_
    intro b28
    refine zA (anb (an1 4 rfl ?_))
    refine qF rfl rfl rfl Try.underlying25 F.ti49 rfl rfl rfl (by unfold maxLen; omega) om ?_
    intro A2 c2
    refine zA (anb (zG 9 rfl rfl rfl (zS rfl F.fi27_0 F.ti25) ?_))
    refine an1 10 rfl ?_
    refine zI rfl rfl F.ti25 rfl ?_
    refine zA (anb (zG 11 rfl rfl rfl (kZ rfl) ?_))
    refine adn ?_
    exact kC (A2, c2) trivial sbn pkk
   ·refine yV (vs := [(0, .agg ([.int .i64 (pw : Int), .int .i64 (gn : Int), .int .i64 (nw : Int), .bool wd] : List Value).toArray)]) [.int .i64 (pw : Int), .int .i64 (gn : Int), .int .i64 (nw : Int), .bool wd] rfl rfl Try.underlying25 F.ti49 rfl rfl rfl (Lit.agg (l1 := [.int .i64 (pw : Int), .int .i64 (gn : Int), .int .i64 (nw : Int), .bool wd]) (l := []) rfl rfl) ?_
    intro b28
    refine zA (anb (an1 1 rfl ?_))
    refine zP rfl rfl F.one25 ?_
    refine zA (anb (an1 4 rfl ?_))
    refine qF rfl rfl rfl Try.underlying25 F.ti49 rfl rfl rfl (by unfold maxLen; omega) om ?_
    intro A2 c2
    refine zA (anb (zG 9 rfl rfl rfl (zS rfl F.fi27_0 F.ti25) ?_))
    refine an1 10 rfl ?_
    refine zI rfl rfl F.ti25 rfl ?_
    refine zA (anb (zG 11 rfl rfl rfl (kZ rfl) ?_))
    refine adn ?_
    exact kC (A2, c2) trivial sbn pkk
  ·rintro ⟨A2, c2⟩ -
   have hpw4 : pw <= 4 := hfo.2.1
   (try dsimp only)
   refine zN (zC (zB (zF rfl rfl (zJ rfl rfl rfl (fun w => xJ w (show IntKind.i64.wrap (((i + 1 : Nat) : Int) - 1) = (i : Int) from by rw [jC _ om om]; omega)) ?_))))
   refine zE rfl rfl (zA (xY (i, t2, s3, A2, c2, fs ++ [⟨pw, gn, nw, wd⟩], sm + pw) ⟨by simp; omega, fun y hy => ?_, by simp; omega, hs3, by simp; omega⟩ tdo (by dsimp only; (try rw [List.length_append, List.length_singleton]); repeat (first | exact Sub.nil _ | refine Sub.cons rfl ?_)) (by dsimp only; rw [List.length_append, List.length_singleton]; rw [List.flatMap_append, List.flatMap_singleton]; repeat (first | exact Pck.nil _ | exact Pck.refl _ | (apply Pck.cons; focus ((repeat (first | exact Rem.here _ | apply Rem.there)); done)) | refine Pck.skip _ ?_))))
   rcases List.mem_append.1 hy with h | h
   ·exact hlo y h
   ·simp at h; subst h; exact hfo
 ·obtain rfl : i = 0 := by omega
  have hn0 : fs.length = n0 := by omega
  have hfl1 : 1 <= fs.length := by omega
  have hfl2 : fs.length <= nf := by omega
  refine kH (zX (zX (jL (zC (zD (zD (zB (zF rfl rfl (zF rfl rfl (zLo (lo := 1) (hi := ny) rfl rfl rfl hB hN hs2 om om om ?_))))))))))
  rintro s4 m0 hs4 hm0a hm0b
  refine zE rfl rfl (zA (zC (jD (zOw 3 1 ?_))))
  refine wD (G := Nat × Nat × Nat × Option Addr × Nat × List Nat) (fun g => g.1 + g.2.2.2.2.2.length = m0 ∧ (∀ x ∈ g.2.2.2.2.2, x <= 12) ∧ g.2.1 <= t1 + 1 + 3 * g.2.2.2.2.2.length ∧ g.2.2.1 < 18446744073709551616) (fun g => g.1) (fun g => [(0, .pointer (some ⟨hb, 0, none⟩)), (1, .int .i64 (nf : Int)), (2, .int .i64 (ny : Int)), (6, .pointer (some ⟨b6, 0, none⟩)), (7, .pointer (some ⟨b7, 0, none⟩)), (8, .int .i64 (sm : Int)), (11, .int .i64 (g.1 : Int))]) (fun g => .row 3 1 g.2.2.2.1 g.2.2.2.2.2.length g.2.2.2.2.1 (ints g.2.2.2.2.2) :: .row 49 4 A1 fs.length c1 (fs.flatMap Flt.cells) :: .blk b7 (.cells [.slice A1 fs.length c1, .int .i64 (kiln : Int), .slice g.2.2.2.1 g.2.2.2.2.2.length g.2.2.2.2.1].toArray 27 (0, 0)) :: .blk b6 (.cells [.slice none 0 0, .int .i64 0, .slice none 0 0].toArray 27 (0, 0)) :: .blk hb (hatO nA nums.length nc (g.2.1) (g.2.2.1)) :: T) (m0, t1 + 1, s4, none, 0, []) ⟨by simp, by simp, by simp, hs4⟩ sbn pkk ?_
  rintro ⟨i, t3, s5, A3, c3, ds⟩ ⟨hjl, hdo, ht3, hs5⟩
  (try dsimp only at hjl hdo ht3 hs5 ⊢)
  refine zD (zD (zB (zF rfl rfl (zJ rfl rfl rfl zB8 ?_))))
  refine zA (zC (zR rfl (fun hc1 => ?_) (fun hc1 => ?_)))
  ·obtain ⟨i, rfl⟩ : ∃ i', i = i' + 1 := ⟨i - 1, by omega⟩
   refine zV (zC (zD (jD (vK (G := Option Addr × Nat × Nat × Nat) (fun x => x.2.2.1 < 18446744073709551616 ∧ x.2.2.2 <= 12) (fun x => [(0, .pointer (some ⟨hb, 0, none⟩)), (1, .int .i64 (nf : Int)), (2, .int .i64 (ny : Int)), (6, .pointer (some ⟨b6, 0, none⟩)), (7, .pointer (some ⟨b7, 0, none⟩)), (8, .int .i64 (sm : Int)), (11, .int .i64 ((i + 1 : Nat) : Int))]) (fun x => .row 3 1 x.1 (ds.length + 1) x.2.1 (ints ds ++ [.int .i64 (x.2.2.2 : Int)]) :: .row 49 4 A1 fs.length c1 (fs.flatMap Flt.cells) :: .blk b7 (.cells [.slice A1 fs.length c1, .int .i64 (kiln : Int), .slice x.1 (ds.length + 1) x.2.1].toArray 27 (0, 0)) :: .blk b6 (.cells [.slice none 0 0, .int .i64 0, .slice none 0 0].toArray 27 (0, 0)) :: .blk hb (hatO nA nums.length nc (t3 + 1 + 1 + 1) (x.2.2.1)) :: T) ?_ ?_))))
   ·refine kA [.b b7, .b hb, .r A3] F.follows 17 rfl [false, false, false, false, false, false, false, false, false, false, false, false, false, false, false, false, false] rfl ?_
    refine zG 0 rfl rfl rfl (zS rfl F.fi27_2 F.ti22) ?_
    refine zG 2 rfl rfl rfl (zU rfl) ?_
    refine zG 3 rfl rfl rfl (zU rfl) ?_
    refine zG 4 rfl rfl rfl (zU rfl) ?_
    refine zG 5 rfl rfl rfl (kP (v := .int .i64 ((sm / 2 : Nat) : Int)) rfl rfl (fun w => zU5 w om (by rw [show ((sm : Int).tdiv 2) = ((sm / 2 : Nat) : Int) from (Int.ofNat_tdiv sm 2).symm]; exact jC _ om om))) ?_
    refine zG 8 rfl rfl rfl (zU rfl) ?_
    refine zG 9 rfl rfl rfl (zU rfl) ?_
    refine qK 1 6 kr rfl rfl rfl rfl ?_ ?_
    ·refine zP rfl rfl F.one22 ?_
     refine zA (anb (an1 6 rfl ?_))
     refine zOm rfl rfl rfl ?_
     rw [show (if (1 : Int) < ((sm / 2 : Nat) : Int) then ((sm / 2 : Nat) : Int) else 1) = ((max 1 (sm / 2) : Nat) : Int) from by split <;> omega]
     refine zA (anb (an1 7 rfl ?_))
     refine yE rfl rfl rfl hB hN hs5 om om ?_
     rintro s6 y1 hs6 hy1
     refine zA (anb (an1 10 rfl ?_))
     refine yE rfl rfl rfl hB hN hs6 om om ?_
     rintro s7 y2 hs7 hy2
     refine zA (anb (an1 11 rfl ?_))
     refine kI (vs := [(0, _), (1, _), (2, _), (3, _), (4, _)]) rfl rfl Try.underlying22 F.ti3 rfl rfl rfl ?_
     intro b53
     refine zA (anb (an1 12 rfl ?_))
     refine vR [0, 1, 2, y1, y2] rfl rfl rfl hB hN hs7 om (by simp) (by simp) (InB.mem (b := b53)) ?_
     rintro s8 d1 hs8 hd1
     simp only [List.mem_cons, List.not_mem_nil, or_false] at hd1
     have hd12 : d1 <= 12 := by omega
     refine zA (anb (an1 13 rfl ?_))
     refine kI (vs := [(0, _)]) rfl rfl Try.underlying22 F.ti3 rfl rfl rfl ?_
     intro b55
     refine zA (anb (an1 14 rfl ?_))
     refine qF rfl rfl rfl Try.underlying22 F.ti3 rfl rfl rfl (by unfold maxLen; omega) om ?_
     intro A4 c4
     refine zA (anb (zG 15 rfl rfl rfl (zS rfl F.fi27_2 F.ti22) ?_))
     refine an1 16 rfl ?_
     refine zI rfl rfl F.ti22 rfl ?_
     refine zA (anb (adn ?_))
     exact kC (A4, c4, s8, d1) ⟨hs8, hd12⟩ sbn pkk
    ·refine zOm rfl rfl rfl ?_
     rw [show (if (1 : Int) < ((sm / 2 : Nat) : Int) then ((sm / 2 : Nat) : Int) else 1) = ((max 1 (sm / 2) : Nat) : Int) from by split <;> omega]
     refine zA (anb (qK 1 7 kr rfl rfl rfl rfl ?_ ?_))
     ·refine zP rfl rfl F.one22 ?_
      refine zA (anb (an1 7 rfl ?_))
      refine yE rfl rfl rfl hB hN hs5 om om ?_
      rintro s6 y1 hs6 hy1
      refine zA (anb (an1 10 rfl ?_))
      refine yE rfl rfl rfl hB hN hs6 om om ?_
      rintro s7 y2 hs7 hy2
      refine zA (anb (an1 11 rfl ?_))
      refine kI (vs := [(0, _), (1, _), (2, _), (3, _), (4, _)]) rfl rfl Try.underlying22 F.ti3 rfl rfl rfl ?_
      intro b53
      refine zA (anb (an1 12 rfl ?_))
      refine vR [0, 1, 2, y1, y2] rfl rfl rfl hB hN hs7 om (by simp) (by simp) (InB.mem (b := b53)) ?_
      rintro s8 d1 hs8 hd1
      simp only [List.mem_cons, List.not_mem_nil, or_false] at hd1
      have hd12 : d1 <= 12 := by omega
      refine zA (anb (an1 13 rfl ?_))
      refine kI (vs := [(0, _)]) rfl rfl Try.underlying22 F.ti3 rfl rfl rfl ?_
      intro b55
      refine zA (anb (an1 14 rfl ?_))
      refine qF rfl rfl rfl Try.underlying22 F.ti3 rfl rfl rfl (by unfold maxLen; omega) om ?_
      intro A4 c4
      refine zA (anb (zG 15 rfl rfl rfl (zS rfl F.fi27_2 F.ti22) ?_))
      refine an1 16 rfl ?_
      refine zI rfl rfl F.ti22 rfl ?_
      refine zA (anb (adn ?_))
      exact kC (A4, c4, s8, d1) ⟨hs8, hd12⟩ sbn pkk
     ·refine yE rfl rfl rfl hB hN hs5 om om ?_
      rintro s6 y1 hs6 hy1
      refine zA (anb (qK 1 10 kr rfl rfl rfl rfl ?_ ?_))
      ·refine zP rfl rfl F.one22 ?_
       refine zA (anb (an1 10 rfl ?_))
       refine yE rfl rfl rfl hB hN hs6 om om ?_
       rintro s7 y2 hs7 hy2
       refine zA (anb (an1 11 rfl ?_))
       refine kI (vs := [(0, _), (1, _), (2, _), (3, _), (4, _)]) rfl rfl Try.underlying22 F.ti3 rfl rfl rfl ?_
       intro b53
       refine zA (anb (an1 12 rfl ?_))
       refine vR [0, 1, 2, y1, y2] rfl rfl rfl hB hN hs7 om (by simp) (by simp) (InB.mem (b := b53)) ?_
       rintro s8 d1 hs8 hd1
       simp only [List.mem_cons, List.not_mem_nil, or_false] at hd1
       have hd12 : d1 <= 12 := by omega
       refine zA (anb (an1 13 rfl ?_))
       refine kI (vs := [(0, _)]) rfl rfl Try.underlying22 F.ti3 rfl rfl rfl ?_
       intro b55
       refine zA (anb (an1 14 rfl ?_))
       refine qF rfl rfl rfl Try.underlying22 F.ti3 rfl rfl rfl (by unfold maxLen; omega) om ?_
       intro A4 c4
       refine zA (anb (zG 15 rfl rfl rfl (zS rfl F.fi27_2 F.ti22) ?_))
       refine an1 16 rfl ?_
       refine zI rfl rfl F.ti22 rfl ?_
       refine zA (anb (adn ?_))
       exact kC (A4, c4, s8, d1) ⟨hs8, hd12⟩ sbn pkk
      ·refine yE rfl rfl rfl hB hN hs6 om om ?_
       rintro s7 y2 hs7 hy2
       refine zA (anb (qK 1 11 kr rfl rfl rfl rfl ?_ ?_))
       ·refine zP rfl rfl F.one22 ?_
        refine zA (anb (an1 11 rfl ?_))
        refine kI (vs := [(0, _), (1, _), (2, _), (3, _), (4, _)]) rfl rfl Try.underlying22 F.ti3 rfl rfl rfl ?_
        intro b53
        refine zA (anb (an1 12 rfl ?_))
        refine vR [0, 1, 2, y1, y2] rfl rfl rfl hB hN hs7 om (by simp) (by simp) (InB.mem (b := b53)) ?_
        rintro s8 d1 hs8 hd1
        simp only [List.mem_cons, List.not_mem_nil, or_false] at hd1
        have hd12 : d1 <= 12 := by omega
        refine zA (anb (an1 13 rfl ?_))
        refine kI (vs := [(0, _)]) rfl rfl Try.underlying22 F.ti3 rfl rfl rfl ?_
        intro b55
        refine zA (anb (an1 14 rfl ?_))
        refine qF rfl rfl rfl Try.underlying22 F.ti3 rfl rfl rfl (by unfold maxLen; omega) om ?_
        intro A4 c4
        refine zA (anb (zG 15 rfl rfl rfl (zS rfl F.fi27_2 F.ti22) ?_))
        refine an1 16 rfl ?_
        refine zI rfl rfl F.ti22 rfl ?_
        refine zA (anb (adn ?_))
        exact kC (A4, c4, s8, d1) ⟨hs8, hd12⟩ sbn pkk
       ·refine kI (vs := [(0, _), (1, _), (2, _), (3, _), (4, _)]) rfl rfl Try.underlying22 F.ti3 rfl rfl rfl ?_
        intro b53
        refine zA (anb (qK 1 12 kr rfl rfl rfl rfl ?_ ?_))
        ·refine zP rfl rfl F.one22 ?_
         refine zA (anb (an1 12 rfl ?_))
         refine vR [0, 1, 2, y1, y2] rfl rfl rfl hB hN hs7 om (by simp) (by simp) (InB.mem (b := b53)) ?_
         rintro s8 d1 hs8 hd1
         simp only [List.mem_cons, List.not_mem_nil, or_false] at hd1
         have hd12 : d1 <= 12 := by omega
         refine zA (anb (an1 13 rfl ?_))
         refine kI (vs := [(0, _)]) rfl rfl Try.underlying22 F.ti3 rfl rfl rfl ?_
         intro b55
         refine zA (anb (an1 14 rfl ?_))
         refine qF rfl rfl rfl Try.underlying22 F.ti3 rfl rfl rfl (by unfold maxLen; omega) om ?_
         intro A4 c4
         refine zA (anb (zG 15 rfl rfl rfl (zS rfl F.fi27_2 F.ti22) ?_))
         refine an1 16 rfl ?_
         refine zI rfl rfl F.ti22 rfl ?_
         refine zA (anb (adn ?_))
         exact kC (A4, c4, s8, d1) ⟨hs8, hd12⟩ sbn pkk
        ·refine vR [0, 1, 2, y1, y2] rfl rfl rfl hB hN hs7 om (by simp) (by simp) (InB.mem (b := b53)) ?_
         rintro s8 d1 hs8 hd1
         simp only [List.mem_cons, List.not_mem_nil, or_false] at hd1
         have hd12 : d1 <= 12 := by omega
         refine zA (anb (qK 1 13 kr rfl rfl rfl rfl ?_ ?_))
         ·refine zP rfl rfl F.one22 ?_
          refine zA (anb (an1 13 rfl ?_))
          refine kI (vs := [(0, _)]) rfl rfl Try.underlying22 F.ti3 rfl rfl rfl ?_
          intro b55
          refine zA (anb (an1 14 rfl ?_))
          refine qF rfl rfl rfl Try.underlying22 F.ti3 rfl rfl rfl (by unfold maxLen; omega) om ?_
          intro A4 c4
          refine zA (anb (zG 15 rfl rfl rfl (zS rfl F.fi27_2 F.ti22) ?_))
          refine an1 16 rfl ?_
          refine zI rfl rfl F.ti22 rfl ?_
          refine zA (anb (adn ?_))
          exact kC (A4, c4, s8, d1) ⟨hs8, hd12⟩ sbn pkk
         ·refine kI (vs := [(0, _)]) rfl rfl Try.underlying22 F.ti3 rfl rfl rfl ?_
          intro b55
          refine zA (anb (an1 1 rfl ?_))
          refine zP rfl rfl F.one22 ?_
          refine zA (anb (an1 14 rfl ?_))
          refine qF rfl rfl rfl Try.underlying22 F.ti3 rfl rfl rfl (by unfold maxLen; omega) om ?_
          intro A4 c4
          refine zA (anb (zG 15 rfl rfl rfl (zS rfl F.fi27_2 F.ti22) ?_))
          refine an1 16 rfl ?_
          refine zI rfl rfl F.ti22 rfl ?_
          refine zA (anb (adn ?_))
          exact kC (A4, c4, s8, d1) ⟨hs8, hd12⟩ sbn pkk
   ·rintro ⟨A4, c4, s8, d1⟩ ⟨hs8, hd12⟩
    dsimp only at hs8 hd12 ⊢
    refine zN (zC (zB (zF rfl rfl (zJ rfl rfl rfl (fun w => xJ w (show IntKind.i64.wrap (((i + 1 : Nat) : Int) - 1) = (i : Int) from by rw [jC _ om om]; omega)) ?_))))
    refine zE rfl rfl (zA (xY (i, t3 + 1 + 1 + 1, s8, A4, c4, ds ++ [d1]) ⟨by simp; omega, fun y hy => ?_, by simp; omega, hs8⟩ tdo (by dsimp only; (try rw [List.length_append, List.length_singleton]); repeat (first | exact Sub.nil _ | refine Sub.cons rfl ?_)) (by dsimp only; rw [List.length_append, List.length_singleton]; rw [zQn]; repeat (first | exact Pck.nil _ | exact Pck.refl _ | (apply Pck.cons; focus ((repeat (first | exact Rem.here _ | apply Rem.there)); done)) | refine Pck.skip _ ?_))))
    rcases List.mem_append.1 hy with h | h
    ·exact hdo y h
    ·simp at h; subst h; exact hd12
  ·obtain rfl : i = 0 := by omega
   refine kH (zX (zX (jL (zC (zD (zB (jE rfl rfl F.agg27 F.ti27 ?_)))))))
   refine zI rfl rfl F.ti27 rfl ?_
   refine zA (zC (zW ?_))
   exact jI rfl (fun a w ha => by exact qQ (ha := ha) rfl rfl F.agg27 F.ti27 rfl) (fun _ _ ha' => ⟨t3, s5, kiln, fs, ds, A1, A3, c1, c3, by omega, hs5, hfl2, by omega, ⟨hfl1, by omega, hlo, by omega, by omega, by omega, hdo⟩, rfl, ha.back (ha'.pck pkk)⟩)

theorem zWm {C : Ctx} {fr : List (Nat × Value)} {T : List Res} {a : Act} {w : World} (hC : C.P = Try.prog) {hb tk st nc : Nat} {nA : Option Addr} {nums : List Int} (hB : C.w0.heap.size = C.B) (hN : RdL icell 1 C.w0 nA nums) (htk : tk <= 700000) (hst : st < 18446744073709551616) (ha : At C fr (.blk hb (hatO nA nums.length nc (tk) (st)) :: T) a w) : Calls C.P 22 #[.pointer (some ⟨hb, 0, none⟩)] w fun e w' => ∃ (tk' st' kiln : Nat) (fs : List Flt) (days : List Nat) (A D : Option Addr) (c dc : Nat), tk' <= tk + 101 ∧ st' < 18446744073709551616 ∧ ChV fs kiln days ∧ e = .returned (.agg [.slice A fs.length c, .int .i64 (kiln : Int), .slice D days.length dc].toArray) ∧ At C fr (.row 49 4 A fs.length c (fs.flatMap Flt.cells) :: .row 3 1 D days.length dc (ints days) :: .blk hb (hatO nA nums.length nc (tk') (st')) :: T) a w' := by
 obtain ⟨P, B, w0, N0, ds⟩ := C
 obtain rfl : P = Try.prog := hC
 (try dsimp only at hB)
 (try dsimp only at hN)
 refine vU (N := 9) [(0, .pointer (some ⟨hb, 0, none⟩))] ha Try.func22 rfl Try.ntmps22 rfl rfl ?_
 refine zD (zB (zT rfl F.ti27 ?_))
 intro b2
 refine zA (zC (zD (zD (zB (zF rfl rfl (zB0 rfl rfl rfl hB hN hst om om om ?_))))))
 rintro s1 sb hs1
 refine zA (zC (qE rfl (fun hc0 => ?_) (fun hc0 => ?_)))
 ·refine zD (zB (zF rfl rfl (zEr (X := Nat × Nat × Nat × List Flt × List Nat × Option Addr × Option Addr × Nat × Nat) (vs := [_, _, _]) hb (fun y => hatO nA nums.length nc y.1 y.2.1) (fun y => [.row 49 4 y.2.2.2.2.2.1 y.2.2.2.1.length y.2.2.2.2.2.2.2.1 (y.2.2.2.1.flatMap Flt.cells), .row 3 1 y.2.2.2.2.2.2.1 y.2.2.2.2.1.length y.2.2.2.2.2.2.2.2 (ints y.2.2.2.2.1)]) (fun y => y.1 <= (tk + 1) + 100 ∧ y.2.1 < 18446744073709551616 ∧ y.2.2.2.1.length <= 3 ∧ y.2.2.2.2.1.length <= 2 ∧ ChV y.2.2.2.1 y.2.2.1 y.2.2.2.2.1) (fun y => .agg [.slice y.2.2.2.2.2.1 y.2.2.2.1.length y.2.2.2.2.2.2.2.1, .int .i64 (y.2.2.1 : Int), .slice y.2.2.2.2.2.2.1 y.2.2.2.2.1.length y.2.2.2.2.2.2.2.2].toArray) rfl rfl F.ent14 (fun a w ha => (zK2 (C := ⟨Try.prog, B, w0, _, _⟩) rfl hB hN (tk := (tk + 1)) (st := s1) (nf := 3) (ny := 2) om hs1 om om om om ha).mono (fun e w' h => by obtain ⟨t', s', k', f', d', A', D', c', dc', h1, h2, h3, h4, h5, h6, h7⟩ := h; exact ⟨(t', s', k', f', d', A', D', c', dc'), ⟨h1, h2, h3, h4, h5⟩, h6, h7⟩)) ?_)))
  rintro ⟨t2, s2, kiln, fs, days, A, D, c, dc⟩ ⟨ht2, hs2, hfsl, hdaysl, hfsv⟩
  dsimp only [List.cons_append, List.nil_append] at ht2 hs2 hfsl hdaysl hfsv ⊢
  refine zI rfl rfl F.ti27 rfl ?_
  refine zA (zC (zW (zZ ?_)))
  exact jI rfl (fun a w ha => by exact qQ (ha := ha) rfl rfl F.agg27 F.ti27 rfl) (fun _ _ ha' => ⟨t2, s2, kiln, fs, days, A, D, c, dc, by omega, hs2, hfsv, rfl, ha.back (ha'.pck pkk)⟩)
 ·refine zV (zC (zD (zB (zF rfl rfl (zEr (X := Nat × Nat × Nat × List Flt × List Nat × Option Addr × Option Addr × Nat × Nat) (vs := [_, _, _]) hb (fun y => hatO nA nums.length nc y.1 y.2.1) (fun y => [.row 49 4 y.2.2.2.2.2.1 y.2.2.2.1.length y.2.2.2.2.2.2.2.1 (y.2.2.2.1.flatMap Flt.cells), .row 3 1 y.2.2.2.2.2.2.1 y.2.2.2.2.1.length y.2.2.2.2.2.2.2.2 (ints y.2.2.2.2.1)]) (fun y => y.1 <= (tk + 1) + 100 ∧ y.2.1 < 18446744073709551616 ∧ y.2.2.2.1.length <= 2 ∧ y.2.2.2.2.1.length <= 4 ∧ ChV y.2.2.2.1 y.2.2.1 y.2.2.2.2.1) (fun y => .agg [.slice y.2.2.2.2.2.1 y.2.2.2.1.length y.2.2.2.2.2.2.2.1, .int .i64 (y.2.2.1 : Int), .slice y.2.2.2.2.2.2.1 y.2.2.2.2.1.length y.2.2.2.2.2.2.2.2].toArray) rfl rfl F.ent14 (fun a w ha => (zK2 (C := ⟨Try.prog, B, w0, _, _⟩) rfl hB hN (tk := (tk + 1)) (st := s1) (nf := 2) (ny := 4) om hs1 om om om om ha).mono (fun e w' h => by obtain ⟨t', s', k', f', d', A', D', c', dc', h1, h2, h3, h4, h5, h6, h7⟩ := h; exact ⟨(t', s', k', f', d', A', D', c', dc'), ⟨h1, h2, h3, h4, h5⟩, h6, h7⟩)) ?_)))))
  rintro ⟨t2, s2, kiln, fs, days, A, D, c, dc⟩ ⟨ht2, hs2, hfsl, hdaysl, hfsv⟩
  dsimp only [List.cons_append, List.nil_append] at ht2 hs2 hfsl hdaysl hfsv ⊢
  refine zI rfl rfl F.ti27 rfl ?_
  refine zA (zC (zW ?_))
  exact jI rfl (fun a w ha => by exact qQ (ha := ha) rfl rfl F.agg27 F.ti27 rfl) (fun _ _ ha' => ⟨t2, s2, kiln, fs, days, A, D, c, dc, by omega, hs2, hfsv, rfl, ha.back (ha'.pck pkk)⟩)

variable {C : Ctx} {fr : List (Nat × Value)} {hp : List Res} {ops : Array Oper} {Q : Exit -> Act -> World -> Prop} {rest : List Oper} {d : Nat} {ty : TypeId} {pos : String} {after : Array Edge}
theorem zC2 {α : Type} {cells : α -> List Value} {size : Nat} (hs : ∀ x, (cells x).length = size) (l : List α) : (l.flatMap cells).length = l.length * size := by
 induction l with
 | nil => simp
 | cons x l ih => rw [List.flatMap_cons, List.length_append, hs, ih, List.length_cons, Nat.succ_mul]; omega
theorem RdL.cells_at {α : Type} {cells : α -> List Value} {size : Nat} (hs : ∀ x, (cells x).length = size) (h0 : 0 < size) {w : World} {p : Addr} {l : List α} (h : RdL cells size w (some p) l) {j : Nat} {u : Value} (hu : (l.flatMap cells)[j]? = some u) : w.cell? (p.add j) = some u := by
 have hj : j < l.length * size := by
  rw [<- zC2 hs]
  rcases Nat.lt_or_ge j (l.flatMap cells).length with h1 | h1
  ·exact h1
  ·rw [List.getElem?_eq_none h1] at hu; cases hu
 have hk : j / size < l.length := Nat.div_lt_of_lt_mul (by rw [Nat.mul_comm]; exact hj)
 obtain ⟨b, o, h1, _, h3⟩ := h (Nat.lt_of_le_of_lt (Nat.zero_le _) hk)
 cases h1
 have hd := Nat.div_add_mod j size
 rw [Nat.mul_comm] at hd
 have hm : j % size < size := Nat.mod_lt _ h0
 have hx : l[j / size]? = some l[j / size] := List.getElem?_eq_getElem hk
 have hjs : j % size < (cells l[j / size]).length := by rw [hs]; exact hm
 have hc : (cells l[j / size])[j % size]? = some (cells l[j / size])[j % size] := List.getElem?_eq_getElem hjs
 have h4 := zC0 hs l _ _ hx _ _ hc
 rw [hd, hu] at h4
 have h5 := h3 _ _ hx _ _ hc
 rw [xD]
 rw [Nat.add_assoc, hd] at h5
 rw [h5]
 exact h4.symm
theorem zCg {α : Type} {cells : α -> List Value} {x y : Operand} {t e : TypeId} {A : Option Addr} {p : Addr} {n c m cb size bytes : Nat} {xs : List Value} {l : List α} {z : Value} {hp' : Option Addr -> Nat -> List Res} (hd : Nat.blt d C.N = true)
  (hx : ev fr x = some (.slice A n c)) (hy : ev fr y = some (.slice (some p) m cb)) (ht : C.P.underlying t = some (.slice e)) (hi : TI C.P e z size bytes) (hzs : z.cells.size = size) (hs0 : Nat.blt 0 size = true) (hs : ∀ x, (cells x).length = size) (ho1 : ∀ x, ∀ u ∈ cells x, u.oneCell' = true)
  (hnews : ∀ a w, At C fr hp a w -> RdL cells size w (some p) l) (hl : l.length = m) [hr : InR A e size n c xs hp] [hu : ∀ A' c', UpR A e size n c xs (.row e size A' (n + m) c' (xs ++ l.flatMap cells)) hp (hp' A' c')]
  (h63 : n + m <= maxLen) (hbytes : (n + m) * bytes <= 140737488355328)
  (k : ∀ A' c', Lst C ops Q rest ((d, .slice A' (n + m) c') :: fr) (hp' A' c')) :
  Lst C ops Q (⟨some d, .call { callee := .builtin .append, args := #[x, y], argTypes := #[t, t] }, ty, pos, after, none⟩ :: rest) fr hp := by
 have ho : ∀ u ∈ l.flatMap cells, u.oneCell' = true := by
  intro u hu'
  obtain ⟨x, _, hx⟩ := List.mem_flatMap.1 hu'
  exact ho1 x u hx
 have hi' := hi
 obtain ⟨i, hi1, hi2, hi3, hi4⟩ := hi'
 have h0 := kB hs0
 subst hi4
 refine zEn hd hx hy ht hi hzs hs0 (fun a w ha j u hu => (hnews a w ha).cells_at hs h0 hu) (by rw [zC2 hs, hl]) ho (fun w v' w' hown hn hrun => ?_) h63 hbytes k
 exact zCf ht hi1 hi2 (hi3 ▸ hown) (by rw [zC2 hs, hi3, hl]) hn ho h63 hbytes hrun
end Go.Proofs.Yteppiphdbondeaa.N
namespace Go.Proofs.Yteppiphdbondeaa.N
open Go Go.RowKit Go.Proofs
set_option linter.unusedSectionVars false
theorem zE1 {a b c d e f : Nat} (h1 : cless a b c d = false) (h2 : cless c d e f = false) : cless a b e f = false := by
 unfold cless at *
 simp only [decide_eq_false_iff_not, not_or, not_and] at *
 omega
theorem zD0 (a b : Nat) : cless a b a b = false := by
 unfold cless
 simp
theorem zWz {a b c d : Nat} (h : cless a b c d = true) : cless c d a b = false := by
 unfold cless at *
 simp only [decide_eq_true_eq, decide_eq_false_iff_not, not_or, not_and] at *
 omega
theorem zV0 {a b c d x y : Nat} : cless (a + x) (b + y) (c + x) (d + y) = cless a b c d := by
 unfold cless
 rw [decide_eq_decide]
 omega
theorem zI8 (o x : Oc) : (lst2 o x).is = (o.is || x.is) := by
 unfold lst2 oless
 cases ho : o.is <;> cases hx : x.is <;> simp [ho, hx] <;> split <;> simp_all
theorem zT9 {o x : Oc} (h : o.is = true) : cless o.f o.w (lst2 o x).f (lst2 o x).w = false := by
 unfold lst2
 split
 ·rename_i h2
  unfold oless at h2
  simp [h] at h2
  exact zWz h2.2
 ·exact zD0 ..
theorem zUc {o x : Oc} (h : x.is = true) : cless x.f x.w (lst2 o x).f (lst2 o x).w = false := by
 unfold lst2
 split
 ·exact zD0 ..
 ·rename_i h2
  unfold oless at h2
  simp [h] at h2
  exact h2.2
theorem zOo (g : List Nat -> Oc) : ∀ (ls : List (List Nat)) (o : Oc), (ls.foldl (fun o l => lst2 o (g l)) o).is = (o.is || ls.any fun l => (g l).is)
 | [], o => by simp
 | l :: ls, o => by rw [List.foldl_cons, zOo g ls, zI8, List.any_cons, Bool.or_assoc]
theorem zLj (g : List Nat -> Oc) : ∀ (ls : List (List Nat)) (o : Oc), o.is = true -> cless o.f o.w (ls.foldl (fun o l => lst2 o (g l)) o).f (ls.foldl (fun o l => lst2 o (g l)) o).w = false
 | [], o, _ => zD0 ..
 | l :: ls, o, h => zE1 (zT9 h) (zLj g ls (lst2 o (g l)) (by rw [zI8, h]; rfl))
theorem zL7 (g : List Nat -> Oc) : ∀ (ls : List (List Nat)) (o : Oc) (l : List Nat), l ∈ ls -> (g l).is = true -> cless (g l).f (g l).w (ls.foldl (fun o l => lst2 o (g l)) o).f (ls.foldl (fun o l => lst2 o (g l)) o).w = false
 | l :: ls, o, x, hx, h => by
  rw [List.foldl_cons]
  rcases List.mem_cons.1 hx with rfl | hx
  ·exact zE1 (zUc h) (zLj g ls _ (by rw [zI8, h]; simp))
  ·exact zL7 g ls _ x hx h
section
variable (alw : Nat -> List Nat -> Bool) (las : Mor -> Bool) (fs : List Flt) (kiln : Nat) (days : List Nat)
inductive Pth : Nat -> Mor -> List (List Nat) -> Nat -> Nat -> Prop
 | last {m : Mor} : las m = true -> Pth 0 m [] 0 0
 | day {n : Nat} {m m1 : Mor} {acts : List Nat} {p : List (List Nat)} {f w : Nat} : acts ∈ exts [] fs.length -> alw (days.length - (n + 1)) acts = true -> dayE fs kiln m acts (days.getD (days.length - (n + 1)) 0) = (0, m1) -> Pth n m1 p f w -> Pth (n + 1) m (acts :: p) (f + spF acts) (w + spW acts)
end
section
variable {alw : Nat -> List Nat -> Bool} {las : Mor -> Bool} {fs : List Flt} {kiln : Nat} {days : List Nat}
theorem zOt {rec : Mor -> Oc} {d : Nat} {m m1 : Mor} {l : List Nat} (h1 : alw d l = true) (h2 : dayE fs kiln m l (days.getD d 0) = (0, m1)) : stpO alw fs kiln days rec d m l = ⟨(rec m1).f + spF l, (rec m1).w + spW l, (rec m1).is⟩ := by
 unfold stpO
 rw [if_neg (by simp [h1]), if_neg (by rw [h2]; simp), h2]
theorem zR3 {n : Nat} {m : Mor} {p : List (List Nat)} {f w : Nat} (h : Pth alw las fs kiln days n m p f w) : (bstO alw las fs kiln days n m).is = true ∧ cless f w (bstO alw las fs kiln days n m).f (bstO alw las fs kiln days n m).w = false := by
 induction h with
 | last h => exact ⟨h, zD0 ..⟩
 | @day n m m1 acts p f w h1 h2 h3 h4 ih =>
  obtain ⟨i1, i2⟩ := ih
  have e := zOt (rec := bstO alw las fs kiln days n) h2 h3
  have his : (stpO alw fs kiln days (bstO alw las fs kiln days n) (days.length - (n + 1)) m acts).is = true := by rw [e]; exact i1
  constructor
  ·show ((exts [] fs.length).foldl (fun o l => lst2 o (stpO alw fs kiln days (bstO alw las fs kiln days n) (days.length - (n + 1)) m l)) noOc).is = true
   rw [zOo, List.any_eq_true.2 ⟨acts, h1, his⟩, Bool.or_true]
  ·refine zE1 ?_ (zL7 (fun l => stpO alw fs kiln days (bstO alw las fs kiln days n) (days.length - (n + 1)) m l) (exts [] fs.length) noOc acts h1 his)
   rw [e]
   dsimp only
   rw [zV0]
   exact i2
end
theorem Grew.less {w w' : World} {rs : List Res} (h : Grew w w' rs) : Grew w w' [] := ⟨h.1, fun _ h => by simp at h, by simp⟩
theorem zFz (x : Flt) : x.cells.length = 4 := rfl
theorem zUk (x : Flt) : ∀ u ∈ x.cells, u.oneCell' = true := by
 intro u hu
 simp [Flt.cells] at hu
 rcases hu with h | h | h | h <;> subst h <;> simp [Value.oneCell']
theorem zY8 (x : Nat) : ∀ u ∈ ncell x, u.oneCell' = true := by
 intro u hu
 simp [ncell] at hu
 subst hu
 simp [Value.oneCell']
def oF (o : Oc) : Nat := if o.is then o.f else 0
def oE (o : Oc) : Nat := if o.is then 0 else 11
section
variable [I : Sys] {C : Ctx} {fr : List (Nat × Value)} {hp : List Res} {a : Act} {w : World}
theorem zAu (ha : At C fr hp a w) {A : Option Addr} {c n : Nat} {l : List Nat} [hr : InR A 3 1 n c (ints l) hp] (hn : n = l.length) : RdL ncell 1 w A l :=
 xB ha (cells := ncell) (size := 1) (e := 3) (c := c) (n := n) (l := l) (fun _ => rfl) (by rw [<- zJo]; exact hr.mem) hn
theorem yH (ha : At C fr hp a w) {A : Option Addr} {c n : Nat} {l : List Flt} [hr : InR A 49 4 n c (l.flatMap Flt.cells) hp] (hn : n = l.length) : RdL Flt.cells 4 w A l :=
 xB ha (cells := Flt.cells) (size := 4) (e := 49) (c := c) (n := n) (l := l) (fun _ => rfl) hr.mem hn
theorem zJ1 {fA dA : Option Addr} {fc dc kiln : Nat} {fs : List Flt} {days : List Nat} (hc : ChV fs kiln days) (w : World) (hF : RdL Flt.cells 4 w fA fs) (hD : RdL ncell 1 w dA days) :
  Calls Try.prog 15 #[.agg (CA fA fs.length fc kiln dA days.length dc).toArray] w fun e w' => ∃ (oA : Option Addr) (on oc : Nat), e = .returned (.tuple #[.slice oA on oc, .int .i64 ((oF (bstA fs kiln days) : Nat) : Int), .int .i64 ((oE (bstA fs kiln days) : Nat) : Int)]) ∧ Grew w w' [] := by
 refine (zK6 hc w hF hD).mono ?_
 rintro e w' ⟨oA, oc, mr, hcase, hg⟩
 rcases hcase with ⟨h1, _, h3⟩ | ⟨h1, _, h3⟩
 ·exact ⟨oA, mr.length, oc, by rw [h3]; simp [oF, oE, h1], hg.less⟩
 ·exact ⟨none, 0, 0, by rw [h3]; simp [oF, oE, h1], hg.less⟩
end
end Go.Proofs.Yteppiphdbondeaa.N
namespace Go.Proofs.Yteppiphdbondeaa.N
open Go Go.RowKit Go.Proofs
set_option linter.unusedSectionVars false
variable [I : Sys]
theorem F.ent57 : Enters Try.prog 57 := jF Try.func57 rfl (by kernel_rfl)
theorem zQq {α : Type} {cells : α -> List Value} (hs : ∀ x, (cells x).length = 1) (ho : ∀ x, ∀ u ∈ cells x, u.oneCell' = true) (p : Addr) (c : Nat) (l : List α) (hl : l.length <= 400000) (w : World) (hA : RdL cells 1 w (some p) l) : Calls Try.prog 57 #[.slice (some p) l.length c] w fun e w' => ∃ A' c', e = .returned (.slice A' l.length c') ∧ Grew w w' [.row 3 1 A' l.length c' (l.flatMap cells)] := by
 refine enter (N := 6) [(0, .slice (some p) l.length c)] Try.func57 rfl Try.ntmps57 rfl rfl ?_
 refine zD (zB (zE rfl rfl (zA (zC (zD (zB (zG4 rfl Try.underlying22 F.ti3 ?_)))))))
 intro b3
 refine zEa 1 (.head _) ?_
 refine zF rfl rfl (zCg (cells := cells) rfl rfl rfl Try.underlying22 F.ti3 rfl rfl hs ho (fun a w ha => hA.later ha.below) rfl (by unfold maxLen; omega) om ?_)
 intro A1 c1
 refine zE rfl rfl (zA (zC (zW ?_)))
 simp only [Nat.zero_add, List.nil_append]
 exact jI rfl (fun a w ha => jO rfl rfl ha) (fun a w ha => ⟨A1, c1, rfl, ha.grown sbl⟩)

theorem zSf {α β : Type} {cf : α -> List Value} {cd : β -> List Value} (hs4 : ∀ x, (cf x).length = 4) (ho4 : ∀ x, ∀ u ∈ cf x, u.oneCell' = true) (hs1 : ∀ x, (cd x).length = 1) (ho1 : ∀ x, ∀ u ∈ cd x, u.oneCell' = true) (fp dp : Addr) (fc dc : Nat) (kz : Int) (fs : List α) (days : List β) (hfl : fs.length <= 400000) (hdl : days.length <= 400000) (w : World) (hF : RdL cf 4 w (some fp) fs) (hD : RdL cd 1 w (some dp) days) : Calls Try.prog 24 #[.agg [.slice (some fp) fs.length fc, .int .i64 kz, .slice (some dp) days.length dc].toArray] w fun e w' => ∃ A c D dc', e = .returned (.agg [.slice A fs.length c, .int .i64 kz, .slice D days.length dc'].toArray) ∧ Grew w w' [.row 49 4 A fs.length c (fs.flatMap cf), .row 3 1 D days.length dc' (days.flatMap cd)] := by
 refine enter (N := 13) [(0, .agg [.slice (some fp) fs.length fc, .int .i64 kz, .slice (some dp) days.length dc].toArray)] Try.func24 rfl Try.ntmps24 rfl rfl ?_
 refine zD (zB (jV rfl rfl ?_))
 intro b1
 refine zT rfl F.ti27 ?_
 intro b2
 refine zA (zC (zD (kA [.b b2] F.follows 11 rfl [false, false, false, false, false, false, false, false, false, false, false] rfl ?_)))
 refine zG 1 rfl rfl rfl (zS rfl F.fi27_0 F.ti25) ?_
 refine zG 2 rfl rfl rfl (jN rfl F.one25) ?_
 refine zG 4 rfl rfl rfl (zS rfl F.fi27_1 F.ti3) ?_
 refine zG 5 rfl rfl rfl (jN rfl F.one3) ?_
 refine zG 6 rfl rfl rfl (zS rfl F.fi27_2 F.ti22) ?_
 refine zG 7 rfl rfl rfl (jN rfl F.one22) ?_
 refine an1 0 rfl ?_
 refine zG4 rfl Try.underlying25 F.ti49 ?_
 intro b3
 refine zEa 4 (.head _) ?_
 refine zA (anb (an1 3 rfl ?_))
 refine zCg (cells := cf) rfl rfl rfl Try.underlying25 F.ti49 rfl rfl hs4 ho4 (fun a w ha => hF.later ha.below) rfl (by unfold maxLen; omega) om ?_
 intro A2 c2
 simp only [Nat.zero_add, List.nil_append]
 refine zA (anb (an1 8 rfl ?_))
 refine kY (X := Option Addr × Nat) (vs := [_]) (p := fun _ => True) (val := fun y => .slice y.1 days.length y.2) (rs := fun y => [.row 3 1 y.1 days.length y.2 (days.flatMap cd)]) rfl rfl F.ent57 (fun a w ha => (zQq hs1 ho1 dp dc days hdl w (hD.later ha.below)).mono (fun e w' h => by obtain ⟨A', c', h1, h2⟩ := h; exact ⟨(A', c'), trivial, h1, h2⟩)) ?_
 rintro ⟨A3, c3⟩ -
 dsimp only [List.cons_append, List.nil_append]
 refine zA (anb (zG 9 rfl rfl rfl (xO (vs := [(0, _), (1, _), (2, _)]) (l' := [_, _, _]) rfl F.ti27 F.pl27 (.cons rfl rfl (.cons rfl rfl (.cons rfl rfl (.nil _)))) rfl) ?_))
 refine an1 10 rfl ?_
 refine zI rfl rfl F.ti27 rfl ?_
 refine zA (anb (adn (zC (zW ?_))))
 exact jI rfl (fun a w ha => by exact qQ (ha := ha) rfl rfl F.agg27 F.ti27 rfl) (fun a w ha => ⟨A2, c2, A3, c3, rfl, (ha.pck pkk).grown (List.Sublist.refl _)⟩)

theorem zQ4 {fA dA : Option Addr} {fc dc kiln : Nat} {fs : List Flt} {days : List Nat} (hf1 : 1 <= fs.length) (hf3 : fs.length <= 1000) (hd1 : 1 <= days.length) (hd4 : days.length <= 1000) (w : World) (hF : RdL Flt.cells 4 w fA fs) (hD : RdL ncell 1 w dA days) :
  Calls Try.prog 24 #[.agg (CA fA fs.length fc kiln dA days.length dc).toArray] w fun e w' => ∃ A c D dc', e = .returned (.agg [.slice A fs.length c, .int .i64 (kiln : Int), .slice D days.length dc'].toArray) ∧ Grew w w' [.row 49 4 A fs.length c (fs.flatMap Flt.cells), .row 3 1 D days.length dc' (ints days)] := by
 obtain ⟨fb, fo, rfl, _, _⟩ := hF om
 obtain ⟨db, d_o, rfl, _, _⟩ := hD om
 have h := zSf zFz zUk (fun _ => rfl) zY8 ⟨fb, fo, none⟩ ⟨db, d_o, none⟩ fc dc (kiln : Int) fs days om om w hF hD
 rw [<- zJo] at h
 exact h

theorem F.ent13 : Enters Try.prog 13 := jF Try.func13 rfl (by kernel_rfl)
theorem F.ent20 : Enters Try.prog 20 := jF Try.func20 rfl (by kernel_rfl)
theorem F.ent22 : Enters Try.prog 22 := jF Try.func22 rfl (by kernel_rfl)
theorem F.ent24 : Enters Try.prog 24 := jF Try.func24 rfl (by kernel_rfl)
end Go.Proofs.Yteppiphdbondeaa.N
namespace Go.Proofs.Yteppiphdbondeaa.N
open Go Go.RowKit Go.Proofs
set_option linter.unusedSectionVars false
section
variable [I : Sys] {C : Ctx} {fr : List (Nat × Value)} {hp hp' : List Res} {a : Act} {w : World} {ops : Array Oper} {Q : Exit -> Act -> World -> Prop} {rest : List Oper} {d : Nat} {ty : TypeId} {pos : String} {after : Array Edge}
theorem zBs {x y : Operand} {t e : TypeId} {A : Option Addr} {g o size n c m : Nat} {xs : List Value} (xs' : List Value) {v z : Value} (hx : ev fr x = some (.pointer (some ⟨g, o, none⟩))) (hy : ev fr y = some v) (hi : TI C.P t z 1 m) [hc : Cells v [v]]
  (hA : A = some ⟨g, 0, none⟩) (ho : o < xs.length) (hxs : xs.set o v = xs') [hr : InR A e size n c xs hp] [hu : UpR A e size n c xs (.row e size A n c xs') hp hp']
  (k : Lst C ops Q rest fr hp') : Lst C ops Q (⟨none, .store t x y, ty, pos, after, none⟩ :: rest) fr hp := by
 obtain ⟨i, hi, _, hsz, _⟩ := hi
 refine zD8 (fun _ _ _ => zCk ..) (fun a w ha => ?_) k
 have hown := ha.own _ hr.mem
 obtain ⟨hlen, hcase⟩ := hown
 rcases hcase with ⟨h1, _⟩ | ⟨g', cap, cur, hv, hB, hheap, hle, hmax, hcs, htake⟩
 ·injection h1 with e1
  rw [hA] at e1
  cases e1
 ·injection hv with e1 e2 e3
  rw [hA] at e1
  injection e1 with e1
  injection e1 with e1
  subst e1; subst e3
  have hlen' : o < cur.toList.length := by
   have h9 : n * size <= c * size := Nat.mul_le_mul_right _ hle
   simp only [Array.length_toList]
   omega
  have hs : Splice cur.toList o [v] (cur.toList.set o v) := ⟨by rw [List.set_eq_take_append_cons_drop, if_pos hlen', List.append_assoc]; rfl, by simp at hlen' ⊢; omega⟩
  obtain ⟨w', h1, h2, h3⟩ := zD5 hs (by simpa using hheap) hc.one C.P
  refine ⟨w', ?_, ha.turn hu.upd (by rw [hA]; exact h3) ⟨by rw [<- hxs, List.length_set]; exact hlen, .inr ⟨g, c, (cur.toList.set o v).toArray, by rw [hA], hB, h2, hle, hmax, by simp [hcs], ?_⟩⟩ (fun k hk => .inl hk)⟩
  ·simp [execOp, ha.eval hx, ha.eval hy, Instr.storeAt, Instr.sureAddr, storeVar, sizeOf, typeInfo, hi, hc.eq, hsz, h1]
  ·rw [<- hxs, <- htake, List.take_set]
theorem zFx {l : List Oper} (A : Option Addr) {e size n c : Nat} {xs : List Value} [hr : InR A e size n c xs hp] (hn : 0 < n) (k : ∀ g, A = some ⟨g, 0, none⟩ -> Lst C ops Q l fr hp) : Lst C ops Q l fr hp := fun a w ha => by
 obtain ⟨g, hg⟩ := zAt (ha.own _ hr.mem) hn
 exact k g hg a w ha
end
structure Dom (m x : Mor) : Prop where
 s : ∀ i, x.s.getD i 0 <= m.s.getD i 0
 w : ∀ i, m.w.testBit i = true -> x.w.testBit i = true
structure FDom (fs gs : List Flt) : Prop where
 len : gs.length = fs.length
 each : ∀ i, (gs.getD i default).power = (fs.getD i default).power ∧ (gs.getD i default).gain <= (fs.getD i default).gain
theorem zGv (l : List Nat) (i j v : Nat) : (l.set i v).getD j 0 = if i = j ∧ i < l.length then v else l.getD j 0 := by
 rw [List.getD_eq_getElem?_getD, List.getD_eq_getElem?_getD, List.getElem?_set]
 by_cases h : i = j
 ·subst h
  by_cases h2 : i < l.length
  ·simp [h2]
  ·simp [h2]
 ·simp [h]
theorem zRm {fs gs : List Flt} (hF : FDom fs gs) {m x : Mor} (hm : Dom m x) {a b : Nat × Mor} (h1 : a.1 <= b.1) (h2 : Dom a.2 b.2) (h3 : a.2.s.length = 3) (h4 : b.2.s.length = 3) (i kind : Nat) :
  (dStep fs m a i kind).1 <= (dStep gs x b i kind).1 ∧ Dom (dStep fs m a i kind).2 (dStep gs x b i kind).2 ∧ (dStep fs m a i kind).2.s.length = 3 ∧ (dStep gs x b i kind).2.s.length = 3 := by
 have hs := hm.s i
 obtain ⟨hp, hg⟩ := hF.each i
 rw [zBf, zBf]
 refine ⟨?_, ⟨fun j => ?_, fun j => ?_⟩, by simp [h3], by simp [h4]⟩
 ·unfold actOf
  dsimp only
  split
  ·dsimp only; omega
  ·split
   ·exact h1
   ·split <;> exact h1
 ·dsimp only
  rw [zGv, zGv, h3, h4]
  split
  ·unfold aftOf
   rw [hp]
   split
   ·omega
   ·split
    ·omega
    ·split <;> omega
  ·exact h2.s j
 ·dsimp only
  split
  ·unfold wWith
   rw [Nat.testBit_or, Nat.testBit_or, Bool.or_eq_true, Bool.or_eq_true]
   exact fun h => h.imp (h2.w j) id
  ·split
   ·unfold wOut
    rw [Nat.testBit_and, Nat.testBit_and, Bool.and_eq_true, Bool.and_eq_true]
    exact fun h => ⟨h2.w j h.1, h.2⟩
   ·exact h2.w j
theorem zLe {fs gs : List Flt} (hF : FDom fs gs) {m x : Mor} (hm : Dom m x) (h3 : m.s.length = 3) (h4 : x.s.length = 3) {acts : List Nat} {s t : Nat} (hs : s <= t) : ∀ k, (dRun fs m acts s k).1 <= (dRun gs x acts t k).1 ∧ Dom (dRun fs m acts s k).2 (dRun gs x acts t k).2 ∧ (dRun fs m acts s k).2.s.length = 3 ∧ (dRun gs x acts t k).2.s.length = 3
 | 0 => ⟨hs, hm, h3, h4⟩
 | k + 1 => by
  obtain ⟨i1, i2, i3, i4⟩ := zLe hF hm h3 h4 hs k
  rw [zAe, zAe]
  exact zRm hF hm i1 i2 i3 i4 k _
theorem zZa {fs : List Flt} {kiln : Nat} {m m1 : Mor} {acts : List Nat} {s : Nat} : dayE fs kiln m acts s = (0, m1) ↔ barred m acts acts.length = false ∧ firesN acts acts.length <= kiln ∧ (dRun fs m acts s acts.length).1 = 0 ∧ m1 = (dRun fs m acts s acts.length).2 := by
 unfold dayE
 by_cases h1 : barred m acts acts.length = true
 ·rw [if_pos h1]; simp [h1]
 ·rw [if_neg h1]
  by_cases h2 : kiln < firesN acts acts.length
  ·rw [if_pos h2]; simp; omega
  ·rw [if_neg h2]
   by_cases h3 : 0 < (dRun fs m acts s acts.length).1
   ·rw [if_pos h3]; simp; omega
   ·rw [if_neg h3]
    simp only [Prod.mk.injEq, true_and]
    constructor
    ·rintro rfl; exact ⟨by simpa using h1, by omega, by omega, rfl⟩
    ·rintro ⟨_, _, _, rfl⟩; rfl
theorem zS5 {fs gs : List Flt} (hF : FDom fs gs) {m x x1 : Mor} (hm : Dom m x) (h3 : m.s.length = 3) (h4 : x.s.length = 3) {acts : List Nat} {s t kiln kiln' : Nat} (hs : s <= t) (hk : kiln' <= kiln) (h : dayE gs kiln' x acts t = (0, x1)) :
  ∃ m1, dayE fs kiln m acts s = (0, m1) ∧ Dom m1 x1 ∧ m1.s.length = 3 ∧ x1.s.length = 3 := by
 obtain ⟨a1, a2, a3, rfl⟩ := zZa.1 h
 obtain ⟨b1, b2, b3, b4⟩ := zLe hF hm h3 h4 (acts := acts) hs acts.length
 refine ⟨_, zZa.2 ⟨?_, by omega, by omega, rfl⟩, b2, b3, b4⟩
 cases hb : barred m acts acts.length with
 | false => rfl
 | true =>
  unfold barred at hb a1
  obtain ⟨i, hi, h5⟩ := List.any_eq_true.1 hb
  rw [Bool.and_eq_true] at h5
  have := List.any_eq_false.1 a1 i hi
  rw [Bool.and_eq_true] at this
  exact absurd ⟨h5.1, hm.w i h5.2⟩ this
def DDom (days gays : List Nat) : Prop := gays.length = days.length ∧ ∀ i, days.getD i 0 <= gays.getD i 0
theorem zUm {alw : Nat -> List Nat -> Bool} {fs gs : List Flt} (hF : FDom fs gs) {kiln kiln' : Nat} {days gays : List Nat} (hk : kiln' <= kiln) (hd : DDom days gays) {n : Nat} {m x : Mor} {p : List (List Nat)} {f w : Nat} (hm : Dom m x) (h3 : m.s.length = 3) (h4 : x.s.length = 3)
  (h : Pth alw (fun _ => true) gs kiln' gays n x p f w) : Pth alw (fun _ => true) fs kiln days n m p f w := by
 induction h generalizing m with
 | last _ => exact .last rfl
 | @day n x x1 acts p f w h1 h2 h5 _ ih =>
  obtain ⟨hl, hdd⟩ := hd
  rw [hl] at h2 h5
  obtain ⟨m1, a1, a2, a3, a4⟩ := zS5 hF hm h3 h4 (hdd _) hk h5
  rw [hF.len] at h1
  exact .day h1 h2 a1 (ih a2 a3 a4)
theorem zGp {fs : List Flt} (h3 : fs.length <= 3) (hf : ∀ f ∈ fs, FltOk f) : (start fs).s.length = 3 := (vI h3 hf _ (Nat.le_refl _)).three
theorem zQj (days : List Nat) : DDom days days := ⟨rfl, fun _ => Nat.le_refl _⟩
theorem zLh (p : Nat -> Bool) (i : Nat) : ∀ k, ((List.range k).foldl (fun w j => if p j then wWith w j else w) 0).testBit i = true ↔ i < k ∧ p i = true
 | 0 => by simp
 | k + 1 => by
  rw [List.range_succ, List.foldl_append]
  simp only [List.foldl_cons, List.foldl_nil]
  have ih := zLh p i k
  by_cases hp : p k = true
  ·rw [if_pos hp]
   rw [show ∀ w, wWith w k = w ||| 2 ^ k from fun _ => rfl, Nat.testBit_or, Bool.or_eq_true, ih, Nat.testBit_two_pow]
   constructor
   ·rintro (⟨h1, h2⟩ | h)
    ·exact ⟨by omega, h2⟩
    ·obtain rfl : k = i := by simpa using h
     exact ⟨by omega, hp⟩
   ·rintro ⟨h1, h2⟩
    by_cases e : k = i
    ·exact .inr (by simp [e])
    ·exact .inl ⟨by omega, h2⟩
  ·rw [if_neg hp, ih]
   constructor
   ·rintro ⟨h1, h2⟩; exact ⟨by omega, h2⟩
   ·rintro ⟨h1, h2⟩
    refine ⟨?_, h2⟩
    rcases Nat.lt_or_ge i k with h | h
    ·exact h
    ·obtain rfl : i = k := by omega
     exact absurd h2 hp
theorem zJ4 {fs : List Flt} {i : Nat} : (start fs).w.testBit i = true ↔ i < fs.length ∧ (fs.getD i default).washed = true := zLh (fun j => (fs.getD j default).washed) i fs.length
theorem zD4 (fs : List Flt) (i : Nat) : (start fs).s.getD i 0 = (fs.getD i default).now := by
 unfold start startN
 dsimp only
 rw [List.take_length, List.getD_eq_getElem?_getD, List.getElem?_append, List.length_map, List.getD_eq_getElem?_getD]
 split
 ·rename_i h
  rw [List.getElem?_map, List.getElem?_eq_getElem h]
  rfl
 ·rename_i h
  rw [List.getElem?_eq_none (l := fs) om]
  cases e : (List.replicate (3 - fs.length) 0)[i - fs.length]? with
  | none => rfl
  | some v =>
   have := List.mem_of_getElem? e
   rw [List.mem_replicate] at this
   exact this.2
theorem zFc {fs : List Flt} {k j : Nat} {f f' : Flt} {v : Value} (hx : fs[k]? = some f) (hj : j < 4) (h : (Flt.cells f).set j v = Flt.cells f') : (fs.flatMap Flt.cells).set (k * 4 + j) v = (fs.set k f').flatMap Flt.cells := by
 induction fs generalizing k with
 | nil => simp at hx
 | cons g fs ih =>
  match k with
  | 0 =>
   obtain rfl : g = f := by simpa using hx
   rw [List.set_cons_zero, List.flatMap_cons, List.flatMap_cons, <- h, List.set_append_left _ _ (by rw [zFz]; omega)]
   congr 2
   omega
  | k + 1 =>
   rw [List.set_cons_succ, List.flatMap_cons, List.flatMap_cons, List.set_append_right _ _ (by rw [zFz]; omega), zFz, show (k + 1) * 4 + j - 4 = k * 4 + j from by omega, ih (by simpa using hx)]
end Go.Proofs.Yteppiphdbondeaa.N
namespace Go.Proofs.Yteppiphdbondeaa.N
open Go Go.RowKit Go.Proofs
set_option linter.unusedSectionVars false
variable [I : Sys]
theorem zGa {l : List Nat} {k x : Nat} (h : l[k]? = some x) : (ints l)[k]? = some (.int .i64 (x : Int)) := by
 unfold ints
 rw [List.getElem?_map, h]
 rfl

end Go.Proofs.Yteppiphdbondeaa.N
namespace Go.Proofs.Yteppiphdbondeaa.N
open Go Go.RowKit Go.Proofs
set_option linter.unusedSectionVars false
theorem zJr {s : Srch} : ∀ (n : Nat) (m : Mor), (s.bst n m).is = true -> Pth s.alw s.las s.fs s.kiln s.days n m (s.planL n m) (s.bst n m).f (s.bst n m).w
 | 0, m, h => .last h
 | n + 1, m, h => by
  obtain ⟨l, hl, hs⟩ := Srch.has h
  cases hf : (exts [] s.fs.length).find? (fun l => decide (s.stp n m l = s.bst (n + 1) m)) with
  | none => exact absurd hs (by simpa using List.find?_eq_none.1 hf l hl)
  | some l' =>
   have h1 : s.stp n m l' = s.bst (n + 1) m := by simpa using List.find?_some hf
   have h2 := List.mem_of_find?_eq_some hf
   obtain ⟨h3, h4, h5⟩ := Srch.stp_is (l := l') (by rw [h1]; exact h)
   have h6 : dayE s.fs s.kiln m l' (s.days.getD (s.days.length - (n + 1)) 0) = (0, (s.nxt n m l').2) := Prod.ext h3 rfl
   have h7 : s.stp n m l' = ⟨(s.bst n (s.nxt n m l').2).f + spF l', (s.bst n (s.nxt n m l').2).w + spW l', (s.bst n (s.nxt n m l').2).is⟩ := zOt h5 h6
   unfold Srch.planL
   rw [Srch.pick_of hf, <- h1, h7]
   exact .day h2 h5 h6 (zJr n _ h4)
def wsh (i : Nat) (b : Bool) (l : List Nat) : Bool := (b || l.getD i 0 == 2) && l.getD i 0 != 3
theorem Pth.free {alw : Nat -> List Nat -> Bool} {las : Mor -> Bool} {fs : List Flt} {kiln : Nat} {days : List Nat} {n : Nat} {m : Mor} {p : List (List Nat)} {f w : Nat} (h : Pth alw las fs kiln days n m p f w) : Pth alw (fun _ => true) fs kiln days n m p f w := by
 induction h with
 | last _ => exact .last rfl
 | day h1 h2 h3 _ ih => exact .day h1 h2 h3 ih
theorem zUi {fs : List Flt} {m : Mor} {a : Nat × Mor} {i kind j : Nat} (hi : i < 3) (hj : j < 3) : (dStep fs m a i kind).2.w.testBit j = if i = j then ((a.2.w.testBit j || kind == 2) && kind != 3) else a.2.w.testBit j := by
 unfold dStep
 dsimp only
 split
 ·rename_i h; subst h; simp
 ·split
  ·rename_i h; subst h
   dsimp only
   unfold wWith
   rw [Nat.testBit_or, Nat.testBit_two_pow]
   by_cases e : i = j <;> simp [e]
  ·split
   ·rename_i h; subst h
    dsimp only
    unfold wOut
    rw [Nat.testBit_and]
    have h7 : ∀ i : Fin 3, ∀ j : Fin 3, (7 - 2 ^ i.1).testBit j.1 = decide (i.1 ≠ j.1) := by decide
    rw [h7 ⟨i, hi⟩ ⟨j, hj⟩]
    by_cases e : i = j <;> simp [e]
   ·rename_i h1 h2 h3
    dsimp only
    have e2 : (kind == 2) = false := by simpa using h2
    have e3 : (kind != 3) = true := by simpa using h3
    rw [e2, e3]
    simp
theorem zQo {fs : List Flt} {m : Mor} {acts : List Nat} {s j : Nat} (hj : j < 3) : ∀ k, k <= 3 -> (dRun fs m acts s k).2.w.testBit j = if j < k then wsh j (m.w.testBit j) acts else m.w.testBit j
 | 0, _ => by simp [dRun]
 | k + 1, hk => by
  rw [zAe, zUi om hj, zQo hj k om]
  by_cases e : k = j
  ·subst e
   rw [if_pos rfl, if_neg (Nat.lt_irrefl _), if_pos (Nat.lt_succ_self _)]
   rfl
  ·rw [if_neg e]
   by_cases h : j < k
   ·rw [if_pos h, if_pos om]
   ·rw [if_neg h, if_neg om]
theorem zHz : ∀ (d : Nat) (l : List Nat), (∀ x ∈ l, x <= 3) -> ∀ m ∈ exts l d, ∀ x ∈ m, x <= 3
 | 0, l, h, m, hm => by
  simp only [exts, List.mem_singleton] at hm
  rw [hm]; exact h
 | d + 1, l, h, m, hm => by
  simp only [exts, List.mem_flatMap] at hm
  obtain ⟨k, hk, hm⟩ := hm
  have hk := List.mem_range.1 hk
  exact zHz d (l ++ [k]) (fun x hx => by
   rcases List.mem_append.1 hx with h1 | h1
   ·exact h x h1
   ·simp at h1; omega) m hm
def zl (l : List Nat) : List Int := l.map fun (n : Nat) => (n : Int)
theorem zUp (l : List Nat) : natL (zl l) = l := by
 unfold natL zl
 rw [List.map_map]
 exact (List.map_congr_left fun x _ => Int.toNat_natCast x).trans (List.map_id l)
theorem zH8 (l : List Nat) : (zl l).length = l.length := List.length_map ..
theorem zMj (n : Nat) : szd (n : Int) n n = 0 := by
 unfold szd
 rw [if_neg om, if_neg om]
theorem zVr {l : List Nat} (h : ∀ x ∈ l, x <= 3) : badK (zl l) = false := by
 unfold badK
 rw [List.any_eq_false]
 intro x hx
 obtain ⟨n, hn, rfl⟩ := List.mem_map.1 hx
 have := h n hn
 unfold btw
 simp
 omega
def Cap (fs : List Flt) (m : Mor) : Prop := ∀ i, m.s.getD i 0 <= (fs.getD i default).power
theorem zWo {f : Flt} {now i kind s : Nat} {m : Mor} (h : now <= f.power) : aftOf f now i kind s m <= f.power := by
 unfold aftOf
 split
 ·omega
 ·split
  ·exact Nat.min_le_left ..
  ·split
   ·exact Nat.le_refl _
   ·exact h
theorem zMn {fs : List Flt} {m : Mor} {acts : List Nat} {s : Nat} (h : Cap fs m) : ∀ k, Cap fs (dRun fs m acts s k).2
 | 0 => h
 | k + 1 => by
  intro j
  rw [zAe, zBf]
  dsimp only
  rw [zGv]
  split
  ·rename_i e
   rw [<- e.1]
   exact zWo (h k)
  ·exact zMn h k j
theorem zJy {fs : List Flt} (hf : ∀ f ∈ fs, FltOk f) : Cap fs (start fs) := by
 intro i
 rw [zD4]
 rcases Nat.lt_or_ge i fs.length with hi | hi
 ·rw [List.getD_eq_getElem?_getD, List.getElem?_eq_getElem hi]
  exact (hf _ (List.getElem_mem hi)).2.2.2
 ·rw [List.getD_eq_getElem?_getD, List.getElem?_eq_none hi]
  exact Nat.le_refl _
theorem zSe [I : Sys] {alw : Nat -> List Nat -> Bool} {las : Mor -> Bool} {fs : List Flt} {kiln : Nat} {days : List Nat} {n : Nat} {m : Mor} {p : List (List Nat)} {f w : Nat} (h3 : fs.length <= 3) (hf : ∀ f ∈ fs, FltOk f) (h : Pth alw las fs kiln days n m p f w) : n <= days.length -> MOk m -> Cap fs m ->
  ∃ outs mE, wk fs kiln days (p.map zl) (days.length - n) m = (0, outs, f) ∧ outs.length = n ∧ (strs fs m :: outs).getLast? = some (strs fs mE) ∧ las mE = true ∧ MOk mE ∧ (∀ i, i < fs.length -> mE.w.testBit i = p.foldl (wsh i) (m.w.testBit i)) ∧ p.length = n ∧ (∀ l ∈ p, l.length = fs.length ∧ ∀ x ∈ l, x <= 3) ∧ Cap fs mE := by
 induction h with
 | last h => exact fun _ hm hcap => ⟨[], _, rfl, rfl, rfl, h, hm, fun _ _ => rfl, rfl, fun l hl => (by cases hl), hcap⟩
 | @day n m m1 acts p f w h1 h2 h4 h5 ih =>
  intro hn hm hcap
  have hlen : acts.length = fs.length := by have := yG _ _ acts h1; simpa using this
  have hsm := zHz _ _ (by simp) acts h1
  have hm1 : MOk m1 := by have := (wB (kiln := kiln) (acts := acts) (sugar := days.getD (days.length - (n + 1)) 0) hf hm om h3).1; rw [h4] at this; exact this
  obtain ⟨outs, mE, a1, a2, a3, a4, a5, a6, a7, a8, a9⟩ := ih om hm1 (by obtain ⟨_, _, _, rfl⟩ := zZa.1 h4; exact zMn hcap _)
  have hd : days.length - (n + 1) + 1 = days.length - n := by omega
  refine ⟨strs fs m1 :: outs, mE, ?_, by rw [List.length_cons, a2], ?_, a4, a5, fun i hi => ?_, by rw [List.length_cons, a7], fun l hl => ?_, a9⟩
  ·rw [List.map_cons]
   unfold wk
   rw [zH8, hlen, zMj, zUp, h4, hd, a1, zVr hsm]
   simp only [ne_eq, not_true_eq_false, if_false, Bool.false_eq_true]
   rw [Nat.add_comm]
  ·rw [List.getLast?_cons_cons]; exact a3
  ·rw [a6 i hi, List.foldl_cons]
   obtain ⟨_, _, _, rfl⟩ := zZa.1 h4
   rw [zQo om _ om, if_pos om]
  ·rcases List.mem_cons.1 hl with rfl | hl
   ·exact ⟨hlen, hsm⟩
   ·exact a8 l hl
def agF (fs : List Flt) (mE : Mor) (p : List (List Nat)) : List Flt := (List.range fs.length).map fun i => ⟨(fs.getD i default).power, (fs.getD i default).gain, mE.s.getD i 0, p.foldl (wsh i) (fs.getD i default).washed⟩
theorem vL (fs : List Flt) (mE : Mor) (p : List (List Nat)) : (agF fs mE p).length = fs.length := by simp [agF]
theorem zRh {fs : List Flt} {mE : Mor} {p : List (List Nat)} {i : Nat} (hi : i < fs.length) : (agF fs mE p)[i]? = some ⟨(fs.getD i default).power, (fs.getD i default).gain, mE.s.getD i 0, p.foldl (wsh i) (fs.getD i default).washed⟩ := by
 unfold agF
 rw [List.getElem?_map, List.getElem?_range hi]
 rfl
theorem zMv {fs : List Flt} {i : Nat} (h : fs.length <= i) : fs.getD i default = default := by
 rw [List.getD_eq_getElem?_getD, List.getElem?_eq_none h]; rfl
theorem zQf [I : Sys] {fs : List Flt} {kiln : Nat} {days : List Nat} (hc : ChV fs kiln days) (h : (bstG fs kiln days).is = true) :
  ∃ outs mE, workE fs kiln days ((planG fs kiln days).map zl) = (0, outs, (bstG fs kiln days).f) ∧ outs.length = days.length + 1 ∧ outs.getLast? = some (strs fs mE) ∧ MOk mE ∧
   (∀ i, i < fs.length -> (fs.getD i default).now <= mE.s.getD i 0 ∧ ((planG fs kiln days).foldl (wsh i) (fs.getD i default).washed = true -> (fs.getD i default).washed = true)) ∧
   (planG fs kiln days).length = days.length ∧ (∀ l ∈ planG fs kiln days, l.length = fs.length ∧ ∀ x ∈ l, x <= 3) ∧ (bstA fs kiln days).is = true ∧ (bstA fs kiln days).f <= (bstG fs kiln days).f ∧
   Cap fs mE ∧
   (workE (agF fs mE (planG fs kiln days)) kiln days ((planG fs kiln days).map zl)).1 = 0 := by
 have hp : Pth (fun _ _ => true) (agnL (start fs)) fs kiln days days.length (start fs) (planG fs kiln days) (bstG fs kiln days).f (bstG fs kiln days).w := zJr (s := agnS none none 0 0 kiln fs days 0) _ _ h
 have hm0 : MOk (start fs) := vI hc.f3 hc.ff _ (Nat.le_refl _)
 obtain ⟨outs, mE, a1, a2, a3, a4, a5, a6, a7, a8, a9⟩ := zSe hc.f3 hc.ff hp (Nat.le_refl _) hm0 (zJy hc.ff)
 rw [Nat.sub_self] at a1
 have hW : ∀ gs : List Flt, ∀ o f, wk gs kiln days ((planG fs kiln days).map zl) 0 (start gs) = (0, o, f) -> workE gs kiln days ((planG fs kiln days).map zl) = (0, strs gs (start gs) :: o, f) := by
  intro gs o f e
  unfold workE
  rw [List.length_map, a7, zMj, e]
  simp
 have hbit : ∀ i, i < fs.length -> (start fs).w.testBit i = (fs.getD i default).washed := by
  intro i hi
  rw [Bool.eq_iff_iff, zJ4]
  exact ⟨fun h => h.2, fun h => ⟨hi, h⟩⟩
 unfold agnL at a4
 rw [Bool.and_eq_true] at a4
 have hs : ∀ i, (start fs).s.getD i 0 <= mE.s.getD i 0 := by
  intro i
  rcases Nat.lt_or_ge i 3 with hi | hi
  ·have := List.all_eq_true.1 a4.1 i (List.mem_range.2 hi)
   simpa using this
  ·rw [List.getD_eq_getElem?_getD, List.getElem?_eq_none (by rw [hm0.three]; exact hi)]
   exact Nat.zero_le _
 have hw : ∀ i, mE.w.testBit i = true -> (start fs).w.testBit i = true := by
  intro i hi
  have h0 : mE.w &&& (7 - (start fs).w) = 0 := by simpa using a4.2
  have h9 : (mE.w &&& (7 - (start fs).w)).testBit i = false := by rw [h0]; exact Nat.zero_testBit i
  rw [Nat.testBit_and, hi, Bool.true_and] at h9
  have hi3 : i < 3 := by
   rcases Nat.lt_or_ge i 3 with h | h
   ·exact h
   ·have h8 := a5.w
    rw [Nat.testBit_lt_two_pow (Nat.lt_of_lt_of_le h8 (show 2 ^ 3 <= 2 ^ i from Nat.pow_le_pow_right (by decide) h))] at hi
    cases hi
  have h7 : ∀ x : Fin 8, ∀ j : Fin 3, (7 - x.1).testBit j.1 = !x.1.testBit j.1 := by decide
  have h6 := h7 ⟨(start fs).w, hm0.w⟩ ⟨i, hi3⟩
  dsimp only at h6
  rw [h6] at h9
  simpa using h9
 have hfold : ∀ i, i < fs.length -> (planG fs kiln days).foldl (wsh i) (fs.getD i default).washed = mE.w.testBit i := fun i hi => by rw [a6 i hi, hbit i hi]
 have hb := zR3 hp.free
 refine ⟨strs fs (start fs) :: outs, mE, hW fs outs _ a1, by rw [List.length_cons, a2], a3, a5, fun i hi => ⟨by have := hs i; rwa [zD4] at this, fun e => ?_⟩, a7, a8, hb.1, ?_, a9, ?_⟩
 ·rw [<- hbit i hi]
  rw [hfold i hi] at e
  exact hw i e
 ·have h2 := hb.2
  show (bstO (fun _ _ => true) (fun _ => true) fs kiln days days.length (start fs)).f <= _
  unfold cless at h2
  simp at h2
  omega
 ·have hgd : ∀ i, i < fs.length -> (agF fs mE (planG fs kiln days)).getD i default = ⟨(fs.getD i default).power, (fs.getD i default).gain, mE.s.getD i 0, mE.w.testBit i⟩ := fun i hi => by
   rw [List.getD_eq_getElem?_getD, zRh hi, hfold i hi]; rfl
  have hgo : ∀ i, fs.length <= i -> (agF fs mE (planG fs kiln days)).getD i default = fs.getD i default := fun i hi => by
   rw [zMv hi, zMv (by rw [vL]; exact hi)]
  have hF : FDom (agF fs mE (planG fs kiln days)) fs := ⟨(vL ..).symm, fun i => by
   rcases Nat.lt_or_ge i fs.length with hi | hi
   ·rw [hgd i hi]; exact ⟨rfl, Nat.le_refl _⟩
   ·rw [hgo i hi]; exact ⟨rfl, Nat.le_refl _⟩⟩
  have hffs : ∀ f ∈ agF fs mE (planG fs kiln days), FltOk f := fun f hf => by
   obtain ⟨i, hi, rfl⟩ := List.mem_map.1 hf
   have hi := List.mem_range.1 hi
   have ho := hc.ff _ (show fs.getD i default ∈ fs by rw [List.getD_eq_getElem?_getD, List.getElem?_eq_getElem hi]; exact List.getElem_mem hi)
   exact ⟨ho.1, ho.2.1, ho.2.2.1, a9 i⟩
  have hD : Dom (start (agF fs mE (planG fs kiln days))) (start fs) := ⟨fun i => by
   rw [zD4 (agF fs mE (planG fs kiln days))]
   rcases Nat.lt_or_ge i fs.length with hi | hi
   ·rw [hgd i hi]; exact hs i
   ·rw [hgo i hi, zD4]; exact Nat.le_refl _, fun i hi => by
   rw [zJ4, vL] at hi
   rw [hgd i hi.1] at hi
   exact hw i hi.2⟩
  have hl3 : (agF fs mE (planG fs kiln days)).length <= 3 := by rw [vL]; exact hc.f3
  have hp2 := zUm hF (Nat.le_refl kiln) (zQj days) hD (zGp hl3 hffs) (zGp hc.f3 hc.ff) hp.free
  obtain ⟨o2, m2, b1, _⟩ := zSe hl3 hffs hp2 (Nat.le_refl _) (vI hl3 hffs _ (Nat.le_refl _)) (zJy hffs)
  rw [Nat.sub_self] at b1
  rw [hW _ _ _ b1]
def mixF (fs : List Flt) (mE : Mor) (p : List (List Nat)) (i : Nat) : List Flt := (agF fs mE p).take i ++ fs.drop i
section
variable {fs : List Flt} {mE : Mor} {p : List (List Nat)} {i : Nat}
theorem zAd (hi : i <= fs.length) : (mixF fs mE p i).length = fs.length := by
 unfold mixF
 rw [List.length_append, List.length_take, vL, List.length_drop]
 omega
theorem zXx (hi : i < fs.length) : (mixF fs mE p i)[i]? = fs[i]? := by
 unfold mixF
 rw [List.getElem?_append_right (by rw [List.length_take, vL]; omega), List.length_take, vL, List.getElem?_drop, show i + (i - min i fs.length) = i from by omega]
theorem zOx {g : Flt} (hi : i < fs.length) (hg : (agF fs mE p)[i]? = some g) : (mixF fs mE p i).set i g = mixF fs mE p (i + 1) := by
 unfold mixF
 rw [List.set_append_right _ _ (by rw [List.length_take, vL]; omega), List.length_take, vL, show i - min i fs.length = 0 from by omega, List.drop_eq_getElem_cons hi, List.set_cons_zero, List.take_add_one, hg, List.append_assoc]
 rfl
theorem zVv : mixF fs mE p fs.length = agF fs mE p := by
 unfold mixF
 rw [List.drop_length, List.append_nil, List.take_of_length_le (by rw [vL]; exact Nat.le_refl _)]
theorem ChV.ag {kiln : Nat} {days : List Nat} (hc : ChV fs kiln days) (hcap : Cap fs mE) : ChV (agF fs mE p) kiln days :=
 ⟨by rw [vL]; exact hc.f1, by rw [vL]; exact hc.f3, fun f hf => by
  obtain ⟨i, hi, rfl⟩ := List.mem_map.1 hf
  have hi := List.mem_range.1 hi
  have ho := hc.ff _ (show fs.getD i default ∈ fs by rw [List.getD_eq_getElem?_getD, List.getElem?_eq_getElem hi]; exact List.getElem_mem hi)
  exact ⟨ho.1, ho.2.1, ho.2.2.1, hcap i⟩, hc.k3, hc.d1, hc.d4, hc.dd⟩
end
def zmeta (m : Meta) : MetaZ := (m.1, m.2.1, zl m.2.2)
theorem zPz (m : Meta) : zmcell (zmeta m) = mcell m := by
 unfold zmcell zmeta mcell
 dsimp only
 rw [zH8]
section
variable [I : Sys] {C : Ctx} {fr : List (Nat × Value)} {hp hp' : List Res} {a : Act} {w : World} {ops : Array Oper} {Q : Exit -> Act -> World -> Prop}
theorem zHk {l : List Oper} (p : hp.Perm hp') (h : Lst C ops Q l fr hp') : Lst C ops Q l fr hp := fun a w ha => h a w (ha.permed p)
theorem zXk {A : Option Addr} {l : List Nat} (h : RdL ncell 1 w A l) : RdL zcell 1 w A (zl l) := fun hl => by
 rw [zH8] at hl
 obtain ⟨b, o, h1, h2, h3⟩ := h hl
 refine ⟨b, o, h1, h2, fun k x hk j u hu => ?_⟩
 unfold zl at hk
 rw [List.getElem?_map] at hk
 obtain ⟨n, hn, rfl⟩ := Option.map_eq_some_iff.1 hk
 exact h3 k n hn j u hu
theorem zQ5 (ha : At C fr hp a w) {A : Option Addr} {c : Nat} {mr : List Meta} (h1 : Res.row 22 1 A mr.length c (mr.reverse.map mcell) ∈ hp) (h2 : ∀ m ∈ mr, mrow m ∈ hp) : RdZ w A (mr.reverse.map zmeta) where
 outer := by
  refine xB ha (cells := fun m => [zmcell m]) (size := 1) (e := 22) (c := c) (n := mr.length) (fun _ => rfl) ?_ (by simp)
  rw [show (mr.reverse.map zmeta).flatMap (fun m => [zmcell m]) = mr.reverse.map mcell from ?_]
  ·exact h1
  ·rw [List.flatMap_map]
   induction mr.reverse with
   | nil => rfl
   | cons m l ih => rw [List.flatMap_cons, ih, List.map_cons, zPz]; rfl
 inner := fun m hm => by
  obtain ⟨x, hx, rfl⟩ := List.mem_map.1 hm
  exact zXk (zIw ha (fun _ => rfl) (h2 x (List.mem_reverse.1 hx)))
theorem zOu (ha : At C fr hp a w) {m : Meta} (hm : mrow m ∈ hp) (hl : 0 < m.2.2.length) : ∃ g, m.1 = some ⟨g, 0, none⟩ := zAt (ha.own _ hm) hl
theorem zAa {mr : List Meta} {k : Nat} {m : Meta} (h : mr.reverse[k]? = some m) : (mr.reverse.map mcell)[k]? = some (mcell m) := by rw [List.getElem?_map, h]; rfl
end
end Go.Proofs.Yteppiphdbondeaa.N
namespace Go.Proofs.Yteppiphdbondeaa.N
open Go Go.RowKit Go.Proofs
set_option linter.unusedSectionVars false
variable [I : Sys]
theorem F.ent32 : Enters Try.prog 32 := jF Try.func32 rfl (by kernel_rfl)
set_option maxRecDepth 4000 in
theorem zNs [R : ReaC] (nA : Option Addr) (nc : Nat) (nums : List Int) (w : World) (hN : RdL icell 1 w nA nums) (hR : RdC w) : Calls Try.prog 8 #[.slice nA nums.length nc] w fun e w' => e = .returned (.bool true) ∧ Grew w w' [] := by
 refine enter (N := 213) [(0, .slice nA nums.length nc)] Try.func8 rfl Try.ntmps8 rfl rfl ?_
 refine zD (zB (zE rfl rfl (zA (zC (zD (zB (zF rfl rfl (kY (X := Nat) (vs := [_]) (p := fun _ => True) (val := fun b => .pointer (some ⟨b, 0, none⟩)) (rs := fun b => [.blk b (hatO nA nums.length nc 0 11400714819323198485)]) rfl rfl F.ent13 (fun a w ha => (zSs nA nums.length nc w).mono (fun e w' h => by obtain ⟨b, h1, h2⟩ := h; exact ⟨b, trivial, h1, h2⟩)) ?_))))))))
 intro hb _
 dsimp only [List.cons_append, List.nil_append]
 refine qX (X := Nat × Nat × Nat × List Flt × List Nat × Option Addr × Option Addr × Nat × Nat) (first := []) (cap := []) (vs := [_]) (p := fun y => y.1 <= 101 ∧ y.2.1 < 18446744073709551616 ∧ ChV y.2.2.2.1 y.2.2.1 y.2.2.2.2.1) (val := fun y => .agg [.slice y.2.2.2.2.2.1 y.2.2.2.1.length y.2.2.2.2.2.2.2.1, .int .i64 (y.2.2.1 : Int), .slice y.2.2.2.2.2.2.1 y.2.2.2.2.1.length y.2.2.2.2.2.2.2.2].toArray) (rs := fun y => [.row 49 4 y.2.2.2.2.2.1 y.2.2.2.1.length y.2.2.2.2.2.2.2.1 (y.2.2.2.1.flatMap Flt.cells), .row 3 1 y.2.2.2.2.2.2.1 y.2.2.2.2.1.length y.2.2.2.2.2.2.2.2 (ints y.2.2.2.2.1), .blk hb (hatO nA nums.length nc y.1 y.2.1)]) rfl rfl rfl F.ent22 (fun a w ha => (zWm (C := ⟨Try.prog, _, _, _, _⟩) (T := []) (tk := 0) rfl rfl hN om om ha).mono (fun e w' h => by obtain ⟨t', s', k', f', d', A', D', c', dc', h1, h2, h3, h4, h5⟩ := h; exact ⟨(t', s', k', f', d', A', D', c', dc'), ⟨by omega, h2, h3⟩, h4, h5⟩)) ?_
 rintro ⟨tk, st, kiln, fs, days, A, D, c, dc⟩ ⟨htk, hst, hc⟩
 dsimp only at htk hst hc ⊢
 refine zT rfl F.ti27 ?_
 intro b3
 refine zI rfl rfl F.ti27 rfl ?_
 refine zA (zC (zD (zB ?_)))
 have hf1 := hc.f1
 have hf3 := hc.f3
 have hd1 := hc.d1
 have hd4 := hc.d4
 refine jE rfl rfl F.agg27 F.ti27 ?_
 refine kY (X := Option Addr × Nat × List Meta × Nat) (vs := [_]) (p := fun g => (g.2.2.2 = 0 ∧ (bstG fs kiln days).is = true ∧ g.2.2.1.reverse.map (·.2.2) = (planG fs kiln days)) ∨ (g.2.2.2 = 11 ∧ g.2.2.1 = [])) (val := fun g => .tuple #[.slice (if g.2.2.2 = 0 then g.1 else none) g.2.2.1.length (if g.2.2.2 = 0 then g.2.1 else 0), .int .i64 ((if g.2.2.2 = 0 then (bstG fs kiln days).f else 0 : Nat) : Int), .int .i64 (g.2.2.2 : Int)]) (rs := fun g => .row 22 1 g.1 g.2.2.1.length g.2.1 (g.2.2.1.reverse.map mcell) :: g.2.2.1.map mrow) rfl rfl F.ent33 (fun a w ha => (zOv hc w (yH (A := A) ha rfl) (zAu (A := D) ha rfl)).mono (fun e w' h => ?_)) ?_
 ·obtain ⟨oA, oc, mr, h1 | h1, h2⟩ := h
  ·exact ⟨(oA, oc, mr, 0), .inl ⟨rfl, h1.1, h1.2.1⟩, h1.2.2, h2⟩
  ·obtain ⟨h3, rfl, h5⟩ := h1
   exact ⟨(oA, oc, [], 11), .inr ⟨rfl, rfl⟩, h5, h2⟩
 rintro ⟨oA, oc, mr, er⟩ hor
 dsimp only at hor ⊢
 refine zHk (List.Perm.cons _ List.perm_append_comm) ?_
 simp only [List.cons_append, List.nil_append]
 rcases hor with ⟨rfl, hG, hpl⟩ | ⟨rfl, rfl⟩
 ·simp only [if_true]
  refine zF rfl rfl (zO rfl rfl rfl (zO rfl rfl rfl (zO rfl rfl rfl (zE rfl rfl (zE rfl rfl (zE rfl rfl (zA (zC (zD (zB (jE rfl rfl F.agg27 F.ti27 ?_)))))))))))
  refine kY (X := Option Addr × Nat × Nat) (vs := [_]) (p := fun _ => True) (val := fun g => .tuple #[.slice g.1 g.2.1 g.2.2, .int .i64 ((oF (bstA fs kiln days) : Nat) : Int), .int .i64 ((oE (bstA fs kiln days) : Nat) : Int)]) (rs := fun _ => []) rfl rfl F.ent15 (fun a w ha => (zJ1 hc w (yH (A := A) ha rfl) (zAu (A := D) ha rfl)).mono (fun e w' h => by obtain ⟨oA', on', oc', h1, h2⟩ := h; exact ⟨(oA', on', oc'), trivial, h1, h2⟩)) ?_
  rintro ⟨oA0, on0, oc0⟩ -
  dsimp only [List.nil_append]
  refine zF rfl rfl (zO rfl rfl rfl (zO rfl rfl rfl (zO rfl rfl rfl (zE rfl rfl (zE rfl rfl (zE rfl rfl (zA (zC (zD (zD (zB (zF rfl rfl (zJ (v := .bool false) rfl rfl rfl (fun w => by rw [jU, decide_eq_false (by simp)]) ?_)))))))))))))
  refine zA (zC (kD rfl (zV (zC (zD (zB ?_))))))
  obtain ⟨outs, mE, b1, b2, b3', b4, b5, b6, b7, b8, b9, b10, b11⟩ := zQf hc hG
  have hml : mr.length = days.length := by rw [<- b6, <- hpl]; simp
  have hmi : ∀ m ∈ mr, m.2.2.length = fs.length := fun m hm => (b7 m.2.2 (by rw [<- hpl]; exact List.mem_map_of_mem (List.mem_reverse.2 hm))).1
  have hms : ∀ m ∈ mr.reverse.map zmeta, m.2.2.length < 1000000 := fun m hm => by
   obtain ⟨x, hx, rfl⟩ := List.mem_map.1 hm
   have := hmi x (List.mem_reverse.1 hx)
   unfold zmeta
   rw [zH8]
   omega
  have hplz : (mr.reverse.map zmeta).map (·.2.2) = (planG fs kiln days).map zl := by rw [<- hpl, List.map_map, List.map_map]; rfl
  rw [show oE (bstA fs kiln days) = 0 from by unfold oE; rw [b8]; rfl, show oF (bstA fs kiln days) = (bstA fs kiln days).f from by unfold oF; rw [b8]; rfl]
  refine jE rfl rfl F.agg27 F.ti27 ?_
  refine zF rfl rfl (kY (X := Option Addr × Nat × List Meta) (vs := [_, _]) (p := fun g => g.2.2.reverse.map (·.2.2) = outs) (val := fun g => .tuple #[.slice g.1 g.2.2.length g.2.1, .int .i64 (((bstG fs kiln days).f : Nat) : Int), .int .i64 ((0 : Nat) : Int)]) (rs := fun g => .row 22 1 g.1 g.2.2.length g.2.1 (g.2.2.reverse.map mcell) :: g.2.2.map mrow) rfl rfl F.ent17 (fun a w ha => ?_) ?_)
  ·have h := zK0 (fc := c) (dc := dc) (pc := oc) (ms := mr.reverse.map zmeta) hc (by simp; omega) hms w (yH (A := A) ha rfl) (zAu (A := D) ha rfl) (zQ5 ha (InR.mem (A := oA)) (by intro x hx; repeat (first | exact List.mem_map_of_mem hx | apply List.Mem.tail)))
   rw [hplz, b1, show (mr.reverse.map zmeta).length = mr.length from by simp] at h
   refine h.mono (fun e w' h => ?_)
   obtain ⟨pA, pc, qr, h1, h2, h3⟩ := h
   exact ⟨(pA, pc, qr), h1, h2, h3⟩
  rintro ⟨pA, pc, qr⟩ hq
  dsimp only at hq ⊢
  refine zHk (List.Perm.cons _ List.perm_append_comm) ?_
  simp only [List.cons_append]
  have hql : qr.length = days.length + 1 := by rw [<- b2, <- hq]; simp
  refine zFx pA om ?_
  intro gp hgp
  refine zFx oA om ?_
  intro go hgo
  obtain ⟨mL, hmL⟩ : ∃ m, qr.reverse[days.length]? = some m := ⟨_, List.getElem?_eq_getElem (by simp; omega)⟩
  have hmLs : mL.2.2 = strs fs mE := by
   rw [<- hq, List.getLast?_eq_getElem?, List.length_map, List.length_reverse, hql, List.getElem?_map, show days.length + 1 - 1 = days.length from rfl, hmL] at b3'
   simpa using b3'
  have hmLl : mL.2.2.length = fs.length := by rw [hmLs]; unfold strs; rw [List.length_take, b4.three]; omega
  have hmLm : mL ∈ qr := List.mem_reverse.1 (List.mem_of_getElem? hmL)
  refine zGx (fun a w ha => zOu ha (m := mL) (by have := List.mem_map_of_mem (f := mrow) hmLm; simp only [List.mem_cons, List.mem_append]; simp [this]) om) ?_
  rintro ⟨gl, hgl⟩
  refine zF rfl rfl (zO rfl rfl rfl (zO rfl rfl rfl (zO rfl rfl rfl (zE rfl rfl (zE rfl rfl (zE rfl rfl (zA (zC (zD (zD (kA [] F.follows 50 rfl [false, false, false, false, false, false, false, false, false, false, false, false, false, false, false, false, false, false, false, false, false, false, false, false, false, false, false, false, false, false, false, false, false, false, false, false, false, false, false, false, false, false, false, false, false, false, false, false, false, false] rfl ?_)))))))))))
  refine zG 0 rfl rfl rfl (zU rfl) ?_
  refine zG 1 rfl rfl rfl (kP (v := .bool false) rfl rfl (fun w => by rw [qC, decide_eq_false om])) ?_
  refine zG 2 rfl rfl rfl (zU rfl) ?_
  refine jH 3 rfl rfl rfl rfl rfl kr kr kr sbl (zU rfl) rfl ?_
  refine jH 4 rfl rfl rfl rfl rfl kr kr kr sbl (kP (v := .bool false) rfl rfl (fun w => by rw [qC, decide_eq_false om])) rfl ?_
  refine zG 5 rfl rfl rfl (qS rfl rfl) ?_
  refine zG 6 rfl rfl rfl (zU rfl) ?_
  refine jH 7 rfl rfl rfl rfl rfl kr kr kr sbl (zU rfl) rfl ?_
  refine jH 8 rfl rfl rfl rfl rfl kr kr kr sbl (kP (v := .bool false) rfl rfl (fun w => by rw [qC, decide_eq_false om])) rfl ?_
  refine zG 9 rfl rfl rfl (qS rfl rfl) ?_
  refine zG 10 rfl rfl rfl (zU rfl) ?_
  refine jH 11 rfl rfl rfl rfl rfl kr kr kr sbl (zU rfl) rfl ?_
  refine jH 12 rfl rfl rfl rfl rfl kr kr kr sbl (zU rfl) rfl ?_
  refine jH 13 rfl rfl rfl rfl rfl kr kr kr sbl (kP (v := .bool false) rfl rfl (fun w => by rw [qC, decide_eq_false om])) rfl ?_
  refine zG 14 rfl rfl rfl (qS rfl rfl) ?_
  refine zG 15 rfl rfl rfl (zU rfl) ?_
  refine jH 16 rfl rfl rfl rfl rfl kr kr kr sbl (zU rfl) rfl ?_
  refine jH 17 rfl rfl rfl rfl rfl kr kr kr sbl (zU rfl) rfl ?_
  refine jH 18 rfl rfl rfl rfl rfl kr kr kr sbl (kP (v := .bool false) rfl rfl (fun w => by rw [kK, decide_eq_false om])) rfl ?_
  refine zG 19 rfl rfl rfl (qS rfl rfl) ?_
  refine zG 20 rfl rfl rfl (zU rfl) ?_
  refine jH 21 rfl rfl rfl rfl rfl kr kr kr sbl (zU rfl) rfl ?_
  refine jH 22 rfl rfl rfl rfl rfl kr kr kr sbl (xR rfl Try.underlying29) rfl ?_
  refine jH 23 rfl rfl rfl rfl rfl kr kr kr sbl (zS rfl F.fi27_2 F.ti22) rfl ?_
  refine jH 24 rfl rfl rfl rfl rfl kr kr kr sbl (jN rfl F.one22) rfl ?_
  refine jH 25 rfl rfl rfl rfl rfl kr kr kr sbl (xR rfl Try.underlying22) rfl ?_
  refine jH 26 rfl rfl rfl rfl rfl kr kr kr sbl (kP (v := .int .i64 ((days.length : Int) + 1)) rfl rfl (fun w => jP w (jC _ om om))) rfl ?_
  refine jH 27 rfl rfl rfl rfl rfl kr kr kr sbl (kP (v := .bool false) rfl rfl (fun w => by rw [qC, decide_eq_false om])) rfl ?_
  refine zG 28 rfl rfl rfl (qS rfl rfl) ?_
  refine zG 29 rfl rfl rfl (zU rfl) ?_
  refine jH 30 rfl rfl rfl rfl rfl kr kr kr sbl (zU rfl) rfl ?_
  refine jH 31 rfl rfl rfl rfl rfl kr kr kr sbl (xR rfl Try.underlying29) rfl ?_
  refine jH 32 rfl rfl rfl rfl rfl kr kr kr sbl (zS rfl F.fi27_2 F.ti22) rfl ?_
  refine jH 33 rfl rfl rfl rfl rfl kr kr kr sbl (jN rfl F.one22) rfl ?_
  refine jH 34 rfl rfl rfl rfl rfl kr kr kr sbl (xR rfl Try.underlying22) rfl ?_
  refine jH 35 rfl rfl rfl rfl rfl kr kr kr sbl (kP (v := .bool false) rfl rfl (fun w => by rw [qC, decide_eq_false om])) rfl ?_
  refine zG 36 rfl rfl rfl (qS rfl rfl) ?_
  refine zG 37 rfl rfl rfl (zU rfl) ?_
  refine jH 38 rfl rfl rfl rfl rfl kr kr kr sbl (zU rfl) rfl ?_
  refine jH 39 rfl rfl rfl rfl rfl kr kr kr sbl (zU rfl) rfl ?_
  refine jH 40 rfl rfl rfl rfl rfl kr kr kr sbl (xR rfl Try.underlying29) rfl ?_
  refine jH 41 rfl rfl rfl rfl rfl kr kr kr sbl (kP (v := .int .i64 (days.length : Int)) rfl rfl (fun w => xJ w (by rw [jC _ om om]; omega))) rfl ?_
  refine jH 42 rfl rfl rfl rfl rfl kr kr kr sbl (qV (j := days.length) (show _ = some (Value.slice (some ⟨gp, 0, none⟩) qr.length pc) from by rw [<- hgp]; rfl) rfl Try.underlying29 F.ti22 rfl om) rfl ?_
  refine jH 43 rfl rfl rfl rfl rfl kr kr kr sbl (kN (v := .slice mL.1 mL.2.2.length mL.2.1) rfl F.one22 (fun a w ha => vC ha (InR.mem (A := pA)) hgp (by rw [show 0 + days.length * 1 = days.length from by omega]; exact zAa hmL))) rfl ?_
  refine jH 44 rfl rfl rfl rfl rfl kr kr kr sbl (xR rfl Try.underlying22) rfl ?_
  refine jH 45 rfl rfl rfl rfl rfl kr kr kr sbl (zS rfl F.fi27_0 F.ti25) rfl ?_
  refine jH 46 rfl rfl rfl rfl rfl kr kr kr sbl (jN rfl F.one25) rfl ?_
  refine jH 47 rfl rfl rfl rfl rfl kr kr kr sbl (xR rfl Try.underlying25) rfl ?_
  refine jH 48 rfl rfl rfl rfl rfl kr kr kr sbl (kP (v := .bool false) rfl rfl (fun w => by rw [qC, decide_eq_false om])) rfl ?_
  refine zG 49 rfl rfl rfl (qS rfl rfl) ?_
  refine adn (zC (kD rfl (zV (zC (zD (zB (jE rfl rfl F.agg27 F.ti27 ?_)))))))
  refine kY (X := Option Addr × Nat × Option Addr × Nat) (vs := [_]) (p := fun _ => True) (val := fun g => .agg [.slice g.1 fs.length g.2.1, .int .i64 (kiln : Int), .slice g.2.2.1 days.length g.2.2.2].toArray) (rs := fun g => [.row 49 4 g.1 fs.length g.2.1 (fs.flatMap Flt.cells), .row 3 1 g.2.2.1 days.length g.2.2.2 (ints days)]) rfl rfl F.ent24 (fun a w ha => (zQ4 hc.f1 (by have := hc.f3; omega) hc.d1 (by have := hc.d4; omega) w (yH (A := A) ha rfl) (zAu (A := D) ha rfl)).mono (fun e w' h => by obtain ⟨A', c', D', dc', h1, h2⟩ := h; exact ⟨(A', c', D', dc'), trivial, h1, h2⟩)) ?_
  rintro ⟨A2, c2, D2, dc2⟩ -
  dsimp only [List.cons_append, List.nil_append]
  refine zT rfl F.ti27 ?_
  intro b13
  refine zI rfl rfl F.ti27 rfl ?_
  refine zA (zC (zD (zD (zB (zFx A2 hf1 ?_)))))
  intro g2 hg2
  refine zFx A hf1 ?_
  intro gA hgA
  have hmn : ∀ i, i < fs.length -> mL.2.2[i]? = some (mE.s.getD i 0) := fun i hi => by
   rw [hmLs]
   unfold strs
   rw [List.getElem?_take, if_pos hi, List.getD_eq_getElem?_getD, List.getElem?_eq_getElem (by rw [b4.three]; omega)]
   rfl
  refine zE rfl rfl (zA (zC (jD (wD (G := Nat) (fun i => i <= fs.length) (fun i => fs.length - i) (fun i => [(3, .pointer (some ⟨b3, 0, none⟩)), (4, .slice oA mr.length oc), (10, .slice pA qr.length pc), (13, .pointer (some ⟨b13, 0, none⟩)), (14, .int .i64 (i : Int))]) (fun i => .row 49 4 A2 fs.length c2 ((mixF fs mE (planG fs kiln days) i).flatMap Flt.cells) :: .row 3 1 D2 days.length dc2 (ints days) :: .blk b13 (.cells [.slice A2 fs.length c2, .int .i64 (kiln : Int), .slice D2 days.length dc2].toArray 27 (0, 0)) :: .row 22 1 oA mr.length oc (mr.reverse.map mcell) :: .row 22 1 pA qr.length pc (qr.reverse.map mcell) :: .blk b3 (.cells [.slice A fs.length c, .int .i64 (kiln : Int), .slice D days.length dc].toArray 27 (0, 0)) :: .row 49 4 A fs.length c (fs.flatMap Flt.cells) :: .row 3 1 D days.length dc (ints days) :: (mr.map mrow ++ qr.map mrow)) 0 (Nat.zero_le _) sbn pkk ?_))))
  intro i hi0
  (try dsimp only at hi0 ⊢)
  refine zD (zD (zB (zF rfl rfl (zM rfl rfl F.fi27_0 F.ti25 ?_))))
  refine zP rfl rfl F.one25 ?_
  refine kE rfl rfl Try.underlying25 ?_
  refine zJ rfl rfl rfl kK ?_
  refine zA (zC (zR rfl (fun hc2 => ?_) (fun hc2 => ?_)))
  ·have hi : i < fs.length := by omega
   obtain ⟨f, hx⟩ : ∃ x, fs[i]? = some x := ⟨_, List.getElem?_eq_getElem hi⟩
   have hgd : fs.getD i default = f := by rw [List.getD_eq_getElem?_getD, hx]; rfl
   obtain ⟨hnow, hwd⟩ := b5 i hi
   rw [hgd] at hnow hwd
   have hxm := (zXx (mE := mE) (p := (planG fs kiln days)) hi).trans hx
   have hag := zRh (mE := mE) (p := (planG fs kiln days)) hi
   rw [hgd] at hag
   obtain ⟨pw, gn, nw, wd⟩ := f
   dsimp only at hnow hwd hag
   have hLi := hmn i hi
   have hx1 : ((mixF fs mE (planG fs kiln days) i).set i (⟨pw, gn, mE.s.getD i 0, wd⟩ : Flt))[i]? = some ⟨pw, gn, mE.s.getD i 0, wd⟩ := by rw [List.getElem?_set_self (by rw [zAd om]; exact hi)]
   refine zV (zC (zD (jD (zD (kA [.r A2] F.follows 15 rfl [false, false, false, false, false, false, false, false, false, false, false, false, false, false, false] rfl ?_)))))
   refine zG 0 rfl rfl rfl (zS rfl F.fi27_0 F.ti25) ?_
   refine zG 1 rfl rfl rfl (jN rfl F.one25) ?_
   refine zG 2 rfl rfl rfl (zU rfl) ?_
   refine zG 3 rfl rfl rfl (zU rfl) ?_
   refine zG 4 rfl rfl rfl (zU rfl) ?_
   refine zG 5 rfl rfl rfl (xR rfl Try.underlying29) ?_
   refine zG 6 rfl rfl rfl (kP (v := .int .i64 (days.length : Int)) rfl rfl (fun w => xJ w (by rw [jC _ om om]; omega))) ?_
   refine zG 7 rfl rfl rfl (qV (j := days.length) (show _ = some (Value.slice (some ⟨gp, 0, none⟩) qr.length pc) from by rw [<- hgp]; rfl) rfl Try.underlying29 F.ti22 rfl om) ?_
   refine zG 8 rfl rfl rfl (kN (v := .slice mL.1 mL.2.2.length mL.2.1) rfl F.one22 (fun a w ha => vC ha (InR.mem (A := pA)) hgp (by rw [show 0 + days.length * 1 = days.length from by omega]; exact zAa hmL))) ?_
   refine zG 9 rfl rfl rfl (zU rfl) ?_
   refine zG 10 rfl rfl rfl (qV (j := i) (show _ = some (Value.slice (some ⟨gl, 0, none⟩) mL.2.2.length mL.2.1) from by rw [<- hgl]; rfl) rfl Try.underlying22 F.ti3 rfl om) ?_
   refine zG 11 rfl rfl rfl (kN (v := .int .i64 ((mE.s.getD i 0 : Nat) : Int)) rfl F.one3 (fun a w ha => vC ha (show mrow mL ∈ _ from (by repeat (first | exact List.mem_append_right _ (List.mem_map_of_mem hmLm) | apply List.Mem.tail))) hgl (by rw [show 0 + i * 1 = i from by omega]; exact zGa hLi))) ?_
   refine an1 12 rfl ?_
   refine kW (j := i) rfl (show _ = some (Value.slice (some ⟨g2, 0, none⟩) fs.length c2) from by rw [<- hg2]; rfl) rfl Try.underlying25 F.ti49 rfl hi ?_
   refine zA (anb (an1 13 rfl ?_))
   refine xZ (b := g2) (o := 0 + i * 4) rfl rfl F.fi49_2 F.ti3 ?_
   refine zA (anb (an1 14 rfl ?_))
   refine zBs (A := A2) (((mixF fs mE (planG fs kiln days) i).set i (⟨pw, gn, mE.s.getD i 0, wd⟩ : Flt)).flatMap Flt.cells) (show _ = some (Value.pointer (some ⟨g2, 0 + i * 4 + 2, none⟩)) from rfl) rfl F.ti3 hg2 (by rw [zAm, zAd om]; omega) (by rw [show 0 + i * 4 + 2 = i * 4 + 2 from by omega]; exact zFc hxm om rfl) ?_
   refine zA (anb (adn (zC (zD (zB (zM rfl rfl F.fi27_0 F.ti25 ?_))))))
   refine zP rfl rfl F.one25 ?_
   refine zF rfl rfl (kW (j := i) rfl (show _ = some (Value.slice (some ⟨gA, 0, none⟩) fs.length c) from by rw [<- hgA]; rfl) rfl Try.underlying25 F.ti49 rfl hi ?_)
   refine xZ (b := gA) (o := 0 + i * 4) rfl rfl F.fi49_3 F.ti4 ?_
   refine kL (v := .bool (decide (wd = true))) rfl rfl F.one4 (fun a w ha => by
    obtain ⟨b9, o9, h1, _, h3⟩ := yH (A := A) (l := fs) ha rfl om
    rw [hgA] at h1
    cases h1
    rw [Bool.decide_eq_true]
    exact h3 i _ hx 3 _ rfl) ?_
   refine zE rfl rfl (zA (zC (zD (zD (zB (zE rfl rfl (zA (zC (jD (wD (G := Nat) (fun d => d <= mr.length) (fun d => mr.length - d) (fun d => [(3, .pointer (some ⟨b3, 0, none⟩)), (4, .slice oA mr.length oc), (10, .slice pA qr.length pc), (13, .pointer (some ⟨b13, 0, none⟩)), (14, .int .i64 (i : Int)), (15, .bool (decide (((planG fs kiln days).take d).foldl (wsh i) wd = true))), (16, .int .i64 (d : Int))]) (fun d => .row 49 4 A2 fs.length c2 (((mixF fs mE (planG fs kiln days) i).set i (⟨pw, gn, mE.s.getD i 0, wd⟩ : Flt)).flatMap Flt.cells) :: .row 3 1 D2 days.length dc2 (ints days) :: .blk b13 (.cells [.slice A2 fs.length c2, .int .i64 (kiln : Int), .slice D2 days.length dc2].toArray 27 (0, 0)) :: .row 22 1 oA mr.length oc (mr.reverse.map mcell) :: .row 22 1 pA qr.length pc (qr.reverse.map mcell) :: .blk b3 (.cells [.slice A fs.length c, .int .i64 (kiln : Int), .slice D days.length dc].toArray 27 (0, 0)) :: .row 49 4 A fs.length c (fs.flatMap Flt.cells) :: .row 3 1 D days.length dc (ints days) :: (mr.map mrow ++ qr.map mrow)) 0 (Nat.zero_le _) sbn pkk ?_))))))))))
   intro d hd0
   (try dsimp only at hd0 ⊢)
   refine zD (zD (zB (zF rfl rfl (zF rfl rfl (kE rfl rfl Try.underlying29 ?_)))))
   refine zJ rfl rfl rfl kK ?_
   refine zA (zC (zR rfl (fun hc3 => ?_) (fun hc3 => ?_)))
   ·have hd : d < mr.length := by omega
    obtain ⟨m, hm⟩ : ∃ x, mr.reverse[d]? = some x := ⟨_, List.getElem?_eq_getElem (by simp; omega)⟩
    have hmm : m ∈ mr := List.mem_reverse.1 (List.mem_of_getElem? hm)
    have hml' := hmi m hmm
    have hPd : (planG fs kiln days)[d]? = some m.2.2 := by rw [<- hpl, List.getElem?_map, hm]; rfl
    have hstep : ((planG fs kiln days).take (d + 1)).foldl (wsh i) wd = wsh i (((planG fs kiln days).take d).foldl (wsh i) wd) m.2.2 := by rw [List.take_add_one, hPd, List.foldl_append]; rfl
    obtain ⟨x, hxi⟩ : ∃ x, m.2.2[i]? = some x := ⟨_, List.getElem?_eq_getElem om⟩
    have hxg : m.2.2.getD i 0 = x := by rw [List.getD_eq_getElem?_getD, hxi]; rfl
    have hw9 : (wsh i (((planG fs kiln days).take d).foldl (wsh i) wd) m.2.2 = true) ↔ (((planG fs kiln days).take d).foldl (wsh i) wd = true ∨ x = 2) ∧ x ≠ 3 := by unfold wsh; rw [hxg]; simp
    refine zMd (fun a w ha => zOu ha (m := m) (by repeat (first | exact List.mem_append_left _ (List.mem_map_of_mem hmm) | apply List.Mem.tail)) om) ?_
    rintro ⟨gm, hgm⟩
    refine zV (zC (zD (jD (zD (zD (kA [] F.follows 9 rfl [false, false, false, false, false, false, false, false, false] rfl ?_))))))
    refine zG 0 rfl rfl rfl (zU rfl) ?_
    refine zG 1 rfl rfl rfl (zU rfl) ?_
    refine zG 2 rfl rfl rfl (qV (j := d) (show _ = some (Value.slice (some ⟨go, 0, none⟩) mr.length oc) from by rw [<- hgo]; rfl) rfl Try.underlying29 F.ti22 rfl om) ?_
    refine zG 3 rfl rfl rfl (kN (v := .slice m.1 m.2.2.length m.2.1) rfl F.one22 (fun a w ha => vC ha (InR.mem (A := oA)) hgo (by rw [show 0 + d * 1 = d from by omega]; exact zAa hm))) ?_
    refine zG 4 rfl rfl rfl (xR rfl Try.underlying22) ?_
    refine zG 5 rfl rfl rfl (zS rfl F.fi27_0 F.ti25) ?_
    refine zG 6 rfl rfl rfl (jN rfl F.one25) ?_
    refine zG 7 rfl rfl rfl (xR rfl Try.underlying25) ?_
    refine zG 8 rfl rfl rfl (kP (v := .bool false) rfl rfl (fun w => by rw [qC, decide_eq_false om])) ?_
    refine adn (zC (kD rfl (zV (zC (zB (wE 21 174 (.bool (decide (wsh i (((planG fs kiln days).take d).foldl (wsh i) wd) m.2.2 = true))) ?_ ?_))))))
    ·refine zF rfl rfl (zF rfl rfl (vZ (t := 155) rfl (fun hg155 => ?_) (fun hg155 => ?_)))
     ·refine zY rfl rfl rfl (zY rfl rfl rfl (zY rfl rfl rfl (zY rfl rfl rfl (zY rfl rfl rfl (zY rfl rfl rfl (zY rfl rfl rfl (zY rfl rfl rfl (jB rfl rfl rfl (zF rfl rfl (zL rfl rfl (zF rfl rfl (zL rfl rfl (zF rfl rfl (zL rfl rfl (kW (j := d) rfl (show _ = some (Value.slice (some ⟨go, 0, none⟩) mr.length oc) from by rw [<- hgo]; rfl) rfl Try.underlying29 F.ti22 rfl hd ?_)))))))))))))))
      refine zL rfl rfl (kL (v := .slice m.1 m.2.2.length m.2.1) rfl rfl F.one22 (fun a w ha => vC ha (InR.mem (A := oA)) hgo (by rw [show 0 + d * 1 = d from by omega]; exact zAa hm)) ?_)
      refine zL rfl rfl (zF rfl rfl (zL rfl rfl (kW (j := i) rfl (show _ = some (Value.slice (some ⟨gm, 0, none⟩) m.2.2.length m.2.1) from by rw [<- hgm]; rfl) rfl Try.underlying22 F.ti3 rfl om ?_)))
      refine zL rfl rfl (kL (v := .int .i64 (x : Int)) rfl rfl F.one3 (fun a w ha => vC ha (show mrow m ∈ _ from (by repeat (first | exact List.mem_append_left _ (List.mem_map_of_mem hmm) | apply List.Mem.tail))) hgm (by rw [show 0 + i * 1 = i from by omega]; exact zGa hxi)) ?_)
      refine zL rfl rfl (zJ rfl rfl rfl qC ?_)
      refine jB rfl rfl rfl (zA ?_)
      exact xF (.cons (by refine congrArg (fun b => some (Value.bool b)) ?_; rw [Bool.eq_iff_iff, decide_eq_true_eq (p := wsh _ _ _ = true), hw9]; simp [hg155] <;> omega) sbn) sbl
     ·refine zL rfl rfl (zF rfl rfl (zL rfl rfl (zF rfl rfl (zL rfl rfl (kW (j := d) rfl (show _ = some (Value.slice (some ⟨go, 0, none⟩) mr.length oc) from by rw [<- hgo]; rfl) rfl Try.underlying29 F.ti22 rfl hd ?_)))))
      refine zL rfl rfl (kL (v := .slice m.1 m.2.2.length m.2.1) rfl rfl F.one22 (fun a w ha => vC ha (InR.mem (A := oA)) hgo (by rw [show 0 + d * 1 = d from by omega]; exact zAa hm)) ?_)
      refine zL rfl rfl (zF rfl rfl (zL rfl rfl (kW (j := i) rfl (show _ = some (Value.slice (some ⟨gm, 0, none⟩) m.2.2.length m.2.1) from by rw [<- hgm]; rfl) rfl Try.underlying22 F.ti3 rfl om ?_)))
      refine zL rfl rfl (kL (v := .int .i64 (x : Int)) rfl rfl F.one3 (fun a w ha => vC ha (show mrow m ∈ _ from (by repeat (first | exact List.mem_append_left _ (List.mem_map_of_mem hmm) | apply List.Mem.tail))) hgm (by rw [show 0 + i * 1 = i from by omega]; exact zGa hxi)) ?_)
      refine zL rfl rfl (zJ rfl rfl rfl jU ?_)
      refine jR rfl rfl rfl (zF rfl rfl (vZ (t := 165) rfl (fun hg165 => ?_) (fun hg165 => ?_)))
      ·refine zL rfl rfl (zF rfl rfl (zL rfl rfl (zF rfl rfl (zL rfl rfl (kW (j := d) rfl (show _ = some (Value.slice (some ⟨go, 0, none⟩) mr.length oc) from by rw [<- hgo]; rfl) rfl Try.underlying29 F.ti22 rfl hd ?_)))))
       refine zL rfl rfl (kL (v := .slice m.1 m.2.2.length m.2.1) rfl rfl F.one22 (fun a w ha => vC ha (InR.mem (A := oA)) hgo (by rw [show 0 + d * 1 = d from by omega]; exact zAa hm)) ?_)
       refine zL rfl rfl (zF rfl rfl (zL rfl rfl (kW (j := i) rfl (show _ = some (Value.slice (some ⟨gm, 0, none⟩) m.2.2.length m.2.1) from by rw [<- hgm]; rfl) rfl Try.underlying22 F.ti3 rfl om ?_)))
       refine zL rfl rfl (kL (v := .int .i64 (x : Int)) rfl rfl F.one3 (fun a w ha => vC ha (show mrow m ∈ _ from (by repeat (first | exact List.mem_append_left _ (List.mem_map_of_mem hmm) | apply List.Mem.tail))) hgm (by rw [show 0 + i * 1 = i from by omega]; exact zGa hxi)) ?_)
       refine zL rfl rfl (zJ rfl rfl rfl qC ?_)
       refine jB rfl rfl rfl (zA ?_)
       exact xF (.cons (by refine congrArg (fun b => some (Value.bool b)) ?_; rw [Bool.eq_iff_iff, decide_eq_true_eq (p := wsh _ _ _ = true), hw9]; simp [hg155] <;> omega) sbn) sbl
      ·refine zY rfl rfl rfl (zY rfl rfl rfl (zY rfl rfl rfl (zY rfl rfl rfl (zY rfl rfl rfl (zY rfl rfl rfl (zY rfl rfl rfl (zY rfl rfl rfl (jR rfl rfl rfl (zA ?_)))))))))
       exact xF (.cons (by refine congrArg (fun b => some (Value.bool b)) ?_; rw [Bool.eq_iff_iff, decide_eq_true_eq (p := wsh _ _ _ = true), hw9]; simp [hg155] <;> omega) sbn) sbl
    refine zE rfl rfl (zA (zN (zC (zB (zF rfl rfl (zJ rfl rfl rfl (fun w => jP w (jC _ om om)) ?_))))))
    refine zE rfl rfl (zA (xY (d + 1) om tdo (by (try dsimp only); rw [hstep]; repeat (first | exact Sub.nil _ | refine Sub.cons rfl ?_)) pkk))
   ·obtain rfl : d = mr.length := by omega
    rw [show (planG fs kiln days).take mr.length = (planG fs kiln days) from List.take_of_length_le om]
    refine kH (zX (zX (jL (zC (zD (zD (kA [] F.follows 25 rfl [false, false, false, false, false, false, false, false, false, false, false, false, false, false, false, false, false, false, false, false, false, false, false, false, false] rfl ?_)))))))
    refine zG 0 rfl rfl rfl (zS rfl F.fi27_0 F.ti25) ?_
    refine zG 1 rfl rfl rfl (jN rfl F.one25) ?_
    refine zG 2 rfl rfl rfl (zU rfl) ?_
    refine zG 3 rfl rfl rfl (qV (j := i) (show _ = some (Value.slice (some ⟨g2, 0, none⟩) fs.length c2) from by rw [<- hg2]; rfl) rfl Try.underlying25 F.ti49 rfl hi) ?_
    refine zG 4 rfl rfl rfl (qP (b := g2) (o := 0 + i * 4) rfl F.fi49_2 F.ti3) ?_
    refine zG1 5 rfl rfl rfl kr kr kr sbl (kN (v := .int .i64 ((mE.s.getD i 0 : Nat) : Int)) rfl F.one3 (fun a w ha => (by
     obtain ⟨b9, o9, h1, _, h3⟩ := yH (A := A2) (l := ((mixF fs mE (planG fs kiln days) i).set i (⟨pw, gn, mE.s.getD i 0, wd⟩ : Flt))) ha (by rw [List.length_set, zAd om]) (by first | omega | (rw [List.length_set, zAd om]; omega))
     rw [hg2] at h1
     cases h1
     exact h3 i _ hx1 2 _ rfl))) rfl ?_
    refine zG 6 rfl rfl rfl (zS rfl F.fi27_0 F.ti25) ?_
    refine zG 7 rfl rfl rfl (jN rfl F.one25) ?_
    refine zG 8 rfl rfl rfl (zU rfl) ?_
    refine zG 9 rfl rfl rfl (qV (j := i) (show _ = some (Value.slice (some ⟨gA, 0, none⟩) fs.length c) from by rw [<- hgA]; rfl) rfl Try.underlying25 F.ti49 rfl hi) ?_
    refine zG 10 rfl rfl rfl (qP (b := gA) (o := 0 + i * 4) rfl F.fi49_2 F.ti3) ?_
    refine zG1 11 rfl rfl rfl kr kr kr sbl (kN (v := .int .i64 (nw : Int)) rfl F.one3 (fun a w ha => (by
     obtain ⟨b9, o9, h1, _, h3⟩ := yH (A := A) (l := fs) ha rfl (by first | omega | (rw [List.length_set, zAd om]; omega))
     rw [hgA] at h1
     cases h1
     exact h3 i _ hx 2 _ rfl))) rfl ?_
    refine zG 12 rfl rfl rfl (kP (v := .bool false) rfl rfl (fun w => by rw [kK, decide_eq_false om])) ?_
    refine zG 13 rfl rfl rfl (zU rfl) ?_
    refine jH 14 rfl rfl rfl rfl rfl kr kr kr sbl (zU rfl) rfl ?_
    refine jH 15 rfl rfl rfl rfl rfl kr kr kr sbl (zU rfl) rfl ?_
    refine zJe (t := 190) rfl (fun hg190 => ?_) (fun hg190 => ?_)
    ·refine jH 16 rfl rfl rfl rfl rfl kr kr kr sbl (zS rfl F.fi27_0 F.ti25) rfl ?_
     refine jH 17 rfl rfl rfl rfl rfl kr kr kr sbl (jN rfl F.one25) rfl ?_
     refine jH 18 rfl rfl rfl rfl rfl kr kr kr sbl (zU rfl) rfl ?_
     refine jH 19 rfl rfl rfl rfl rfl kr kr kr sbl (qV (j := i) (show _ = some (Value.slice (some ⟨gA, 0, none⟩) fs.length c) from by rw [<- hgA]; rfl) rfl Try.underlying25 F.ti49 rfl hi) rfl ?_
     refine jH 20 rfl rfl rfl rfl rfl kr kr kr sbl (qP (b := gA) (o := 0 + i * 4) rfl F.fi49_3 F.ti4) rfl ?_
     refine jH 21 rfl rfl rfl rfl rfl kr kr kr sbl (kN (v := .bool true) rfl F.one4 (fun a w ha => by rw [<- hwd hg190]; exact (by
      obtain ⟨b9, o9, h1, _, h3⟩ := yH (A := A) (l := fs) ha rfl (by first | omega | (rw [List.length_set, zAd om]; omega))
      rw [hgA] at h1
      cases h1
      exact h3 i _ hx 3 _ rfl))) rfl ?_
     refine jH 22 rfl rfl rfl rfl rfl kr kr kr sbl (zF6 rfl) rfl ?_
     refine jH 23 rfl rfl rfl rfl rfl kr kr kr sbl (zEt rfl rfl) rfl ?_
     refine zG 24 rfl rfl rfl (qS rfl rfl) ?_
     refine adn (zC (kD rfl (zV (zC (zB (zM rfl rfl F.fi27_0 F.ti25 ?_))))))
     refine zP rfl rfl F.one25 ?_
     refine zF rfl rfl (zF rfl rfl (kW (j := i) rfl (show _ = some (Value.slice (some ⟨g2, 0, none⟩) fs.length c2) from by rw [<- hg2]; rfl) rfl Try.underlying25 F.ti49 rfl hi ?_))
     refine xZ (b := g2) (o := 0 + i * 4) rfl rfl F.fi49_3 F.ti4 ?_
     refine zBs (A := A2) ((mixF fs mE (planG fs kiln days) (i + 1)).flatMap Flt.cells) (show _ = some (Value.pointer (some ⟨g2, 0 + i * 4 + 3, none⟩)) from rfl) rfl F.ti4 hg2 (by rw [zAm, List.length_set, zAd om]; omega) (by rw [show 0 + i * 4 + 3 = i * 4 + 3 from by omega, <- zOx hi hag, <- List.set_set (a := ⟨pw, gn, mE.s.getD i 0, wd⟩) (b := (⟨pw, gn, mE.s.getD i 0, (planG fs kiln days).foldl (wsh i) wd⟩ : Flt))]; exact zFc hx1 om (by rw [Bool.decide_eq_true]; rfl)) ?_
     refine zA (zN (zC (zB (zF rfl rfl (zJ rfl rfl rfl (fun w => jP w (jC _ om om)) ?_)))))
     refine zE rfl rfl (zA (xY (i + 1) om tdo sbn pkk))
    ·refine qN 16 rfl rfl rfl rfl rfl kr kr kr sbl rfl ?_
     refine qN 17 rfl rfl rfl rfl rfl kr kr kr sbl rfl ?_
     refine qN 18 rfl rfl rfl rfl rfl kr kr kr sbl rfl ?_
     refine qN 19 rfl rfl rfl rfl rfl kr kr kr sbl rfl ?_
     refine qN 20 rfl rfl rfl rfl rfl kr kr kr sbl rfl ?_
     refine qN 21 rfl rfl rfl rfl rfl kr kr kr sbl rfl ?_
     refine qN 22 rfl rfl rfl rfl rfl kr kr kr sbl rfl ?_
     refine jH 23 rfl rfl rfl rfl rfl kr kr kr sbl (qS rfl rfl) rfl ?_
     refine zG 24 rfl rfl rfl (qS rfl rfl) ?_
     refine adn (zC (kD rfl (zV (zC (zB (zM rfl rfl F.fi27_0 F.ti25 ?_))))))
     refine zP rfl rfl F.one25 ?_
     refine zF rfl rfl (zF rfl rfl (kW (j := i) rfl (show _ = some (Value.slice (some ⟨g2, 0, none⟩) fs.length c2) from by rw [<- hg2]; rfl) rfl Try.underlying25 F.ti49 rfl hi ?_))
     refine xZ (b := g2) (o := 0 + i * 4) rfl rfl F.fi49_3 F.ti4 ?_
     refine zBs (A := A2) ((mixF fs mE (planG fs kiln days) (i + 1)).flatMap Flt.cells) (show _ = some (Value.pointer (some ⟨g2, 0 + i * 4 + 3, none⟩)) from rfl) rfl F.ti4 hg2 (by rw [zAm, List.length_set, zAd om]; omega) (by rw [show 0 + i * 4 + 3 = i * 4 + 3 from by omega, <- zOx hi hag, <- List.set_set (a := ⟨pw, gn, mE.s.getD i 0, wd⟩) (b := (⟨pw, gn, mE.s.getD i 0, (planG fs kiln days).foldl (wsh i) wd⟩ : Flt))]; exact zFc hx1 om (by rw [Bool.decide_eq_true]; rfl)) ?_
     refine zA (zN (zC (zB (zF rfl rfl (zJ rfl rfl rfl (fun w => jP w (jC _ om om)) ?_)))))
     refine zE rfl rfl (zA (xY (i + 1) om tdo sbn pkk))
  ·obtain rfl : i = fs.length := by omega
   rw [zVv]
   refine kH (zX (zX (jL (zC (zD (zB (jE rfl rfl F.agg27 F.ti27 ?_)))))))
   refine zF rfl rfl (jM (v := .int .i64 ((0 : Nat) : Int)) (vs := [_, _]) rfl rfl F.ent32 (fun a w ha => ?_) ?_)
   ·have h := zNi (fA := A2) (fc := c2) (dA := D2) (dc := dc2) (pc := oc) (ms := mr.reverse.map zmeta) (hc.ag (mE := mE) (p := (planG fs kiln days)) b10) (by simp; omega) hms w (yH (A := A2) ha (vL ..).symm) (zAu (A := D2) ha rfl) (zQ5 ha (InR.mem (A := oA)) (by intro x hx; repeat (first | exact List.mem_append_left _ (List.mem_map_of_mem hx) | apply List.Mem.tail)))
    rw [hplz, b11, vL, show (mr.reverse.map zmeta).length = mr.length from by simp] at h
    exact h
   refine zJ (v := .bool true) rfl rfl rfl (fun w => by rw [jU, decide_eq_true (by rfl)]) ?_
   refine zF rfl rfl (zL rfl rfl (jM (v := .bool true) (vs := []) rfl rfl F.ent20 (fun a w ha => zE8 w (hR.later ha.below)) ?_))
   refine jB rfl rfl rfl (zE rfl rfl (zA (zC (zW ?_))))
   exact jI rfl (fun a w ha => jO rfl rfl ha) (fun a w ha => ⟨rfl, ha.grown nsl⟩)
 ·refine zF rfl rfl (zO rfl rfl rfl (zO rfl rfl rfl (zO rfl rfl rfl (zE rfl rfl (zE rfl rfl (zE rfl rfl (zA (zC (zD (zB (jE rfl rfl F.agg27 F.ti27 ?_)))))))))))
  refine kY (X := Option Addr × Nat × Nat) (vs := [_]) (p := fun _ => True) (val := fun g => .tuple #[.slice g.1 g.2.1 g.2.2, .int .i64 ((oF (bstA fs kiln days) : Nat) : Int), .int .i64 ((oE (bstA fs kiln days) : Nat) : Int)]) (rs := fun _ => []) rfl rfl F.ent15 (fun a w ha => (zJ1 hc w (yH (A := A) ha rfl) (zAu (A := D) ha rfl)).mono (fun e w' h => by obtain ⟨oA', on', oc', h1, h2⟩ := h; exact ⟨(oA', on', oc'), trivial, h1, h2⟩)) ?_
  rintro ⟨oA0, on0, oc0⟩ -
  dsimp only [List.nil_append]
  refine zF rfl rfl (zO rfl rfl rfl (zO rfl rfl rfl (zO rfl rfl rfl (zE rfl rfl (zE rfl rfl (zE rfl rfl (zA (zC (zD (zD (zB (zF rfl rfl (zJ (v := .bool true) rfl rfl rfl (fun w => by rw [jU, decide_eq_true (by simp)]) ?_)))))))))))))
  refine zA (zC (kX rfl (zD ?_)))
  rcases his : (bstA fs kiln days).is with _ | _
  ·refine zB ?_
   rw [show oE (bstA fs kiln days) = 11 from by unfold oE; rw [his]; rfl]
   refine zF rfl rfl (zJ (v := .bool true) rfl rfl rfl (fun w => by rw [jU, decide_eq_true (by simp)]) ?_)
   refine zF rfl rfl (zL rfl rfl (zF rfl rfl (zL rfl rfl (kE rfl rfl Try.underlying29 ?_))))
   refine zL rfl rfl (zJ (v := .bool true) rfl rfl rfl (fun w => by rw [jU, decide_eq_true (by simp)]) ?_)
   refine jB rfl rfl rfl (zF rfl rfl (zL rfl rfl (zF rfl rfl (zL rfl rfl (zJ (v := .bool false) rfl rfl rfl (fun w => by rw [jU, decide_eq_false om]) ?_)))))
   refine zL rfl rfl (zF rfl rfl (zL rfl rfl (zF rfl rfl (zL rfl rfl (zF rfl rfl (zL rfl rfl (zJ (v := .bool true) rfl rfl rfl (fun w => by rw [jU, decide_eq_true (by rfl)]) ?_)))))))
   refine zL rfl rfl (jR rfl rfl rfl (jB rfl rfl rfl (zF rfl rfl (zL rfl rfl (jM (v := .bool true) (vs := []) rfl rfl F.ent20 (fun a w ha => zE8 w (hR.later ha.below)) ?_)))))
   refine jB rfl rfl rfl (zE rfl rfl (zA (zC (zW (zZ ?_)))))
   exact jI rfl (fun a w ha => jO rfl rfl ha) (fun a w ha => ⟨rfl, ha.grown nsl⟩)
  ·refine zB ?_
   rw [show oE (bstA fs kiln days) = 0 from by unfold oE; rw [his]; rfl]
   refine zF rfl rfl (zJ (v := .bool true) rfl rfl rfl (fun w => by rw [jU, decide_eq_true (by simp)]) ?_)
   refine zF rfl rfl (zL rfl rfl (zF rfl rfl (zL rfl rfl (kE rfl rfl Try.underlying29 ?_))))
   refine zL rfl rfl (zJ (v := .bool true) rfl rfl rfl (fun w => by rw [jU, decide_eq_true (by simp)]) ?_)
   refine jB rfl rfl rfl (zF rfl rfl (zL rfl rfl (zF rfl rfl (zL rfl rfl (zJ (v := .bool true) rfl rfl rfl (fun w => by rw [jU, decide_eq_true (by rfl)]) ?_)))))
   refine zL rfl rfl (zF rfl rfl (zY rfl rfl rfl (zY rfl rfl rfl (zY rfl rfl rfl (zL rfl rfl (jB rfl rfl rfl (jB rfl rfl rfl (zF rfl rfl (zL rfl rfl (jM (v := .bool true) (vs := []) rfl rfl F.ent20 (fun a w ha => zE8 w (hR.later ha.below)) ?_))))))))))
   refine jB rfl rfl rfl (zE rfl rfl (zA (zC (zW (zZ (jI rfl (fun a w ha => jO rfl rfl ha) (fun a w ha => ?_)))))))
   exact ⟨rfl, ha.grown nsl⟩

end Go.Proofs.Yteppiphdbondeaa.N
namespace Go.Proofs.Yteppiphdbondeaa.N
open Go Go.RowKit Go.Conc
set_option linter.unusedSectionVars false

def seenZ (W : World) : World := { seenW W with output := gout [0] }
theorem zQ0 (W : World) : Hid (Viewed W) (fun _ => False) W (seenZ W) := by
 have h := zR5 W
 exact ⟨h.1, h.2, h.3, h.4, h.5, h.6, h.7, h.8, h.9, h.10⟩
theorem zPk {W : World} {p : Addr} {u : Value} (h : W.cell? p = some u) : (seenZ W).cell? p = some u := zPo h
section
variable {P : Program} {W : World} {f : FuncId} {args : Array Value} {Post : Value -> World -> Prop}
theorem zNj {F : Nat -> Prop} {w w' v' : World} (hk : Kept F (fun _ => False) w w') (hv : Hid F (fun _ => False) w' v') (hb : Bas W (Viewed W) (fun i => i = 0) (fun _ => F) w) (hv0 : Below (seenZ W).heap.size (seenZ W) v') : Below W.heap.size W w' := by
 refine ⟨hk.os.trans hb.os, hk.tape.trans hb.tape, hk.output.trans hb.output, Nat.le_trans hb.size hk.size, fun b hlt => ?_⟩
 by_cases hF : F b
 ·rw [hk.block b (Nat.lt_of_lt_of_le hlt hb.size) (.inl hF)]
  exact (hb.held b (hb.new b hlt hF)).2.1
 ·rw [<- hv.same b hF (fun x => x), hv0.block b (by simpa [seenZ, seenW] using hlt)]
  show (seenW W).heap[b]? = _
  rw [zAn]
  cases h : W.heap[b]? with
  | none => rfl
  | some o =>
   cases o with
   | view p t => exact absurd ((hb.held b ⟨p, t, h⟩).2.2 0 rfl) hF
   | _ => rfl
def sig0 : Cst := ⟨0, 0, 0, [], 0, false, false, false, 0, 0, .rest, [], [], fun _ => none, []⟩
theorem zPm : sig0.blank := ⟨fun _ => rfl, rfl, rfl, rfl, rfl, rfl, rfl, rfl, rfl⟩
theorem zUo (low : Nat) : Cok low sig0 := by
 refine ⟨List.nodup_nil, rfl, fun j => ?_, fun j p h => (by cases h), fun b hb => (by cases hb), fun h => (by cases h), fun h => (by cases h), fun h => (by cases h), by decide, rfl, .nil, zPm⟩
 constructor
 ·intro h; cases h
 ·rintro ⟨p, h⟩; cases h
theorem zV2 {low : Nat} {tW : TypeId} {msg : Nat -> Value} {σ : Cst} (hok : Cok low σ) (h : σ.gh 0 = some [0]) : Alone (Cp low tW msg) σ ∧ σ.lent = [] ∧ ∀ c, ¬ (Cst.ts σ).Ca c := by
 rw [wZ] at h
 have hp := hok.phase
 cases hm : σ.mn <;> rw [hm] at h <;> simp [Mn.enc] at h
 unfold Cst.phase at hp
 rw [hm] at hp
 obtain ⟨h1, h2, h3, h4, h5, h6, h7, h8, h9⟩ := hp
 refine ⟨?_, h9, fun c hc => ?_⟩
 ·refine ⟨fun j hj => zAg hj h1, ?_⟩
  show (Cst.ts σ).D 0 = 0
  simp [Cst.ts, hm, Mn.deaf]
 ·rcases hc with ⟨h, _⟩ | ⟨h, _⟩ <;> omega
theorem zI0 {low : Nat} {tW : TypeId} {msg : Nat -> Value} (hK : low = W.heap.size) (noInit : P.inits.idxOf? f = none)
  (h : @Calls P (zSys P (Cp low tW msg)) f args (seenZ W) fun e v' => ∃ x, e = .returned x ∧ Below (seenZ W).heap.size (seenZ W) v' ∧ ∀ W', Below W.heap.size W W' -> Post x W') :
  ∃ N last o w' t', runNT P (N + 1) (solo (G (Frame.enter P f args .normal) []) W) #[] = (.ended o w', t') ∧ runN P N (solo (G (Frame.enter P f args .normal) []) W) = .next last ∧ step P last = .ended o w' ∧ Go.Conc.Good P Post last o w' t' := by
 refine zWj (K := Cp low tW msg) (σ := sig0) (γ := [0]) zWa hK (zQ0 W) rfl (zUo low) rfl (fun j hj => zAb hj rfl) (fun b hb => (by cases hb)) rfl rfl (@Gs.mono P (zSys P (Cp low tW msg)) _ _ _ _ (h []) fun g v' hs => ?_)
 obtain ⟨e, fr, v₀, ⟨x, rfl, hb, hp⟩, hr, rfl, hfn, hm, hd, hkd, fn, hf, ht, hres⟩ := hs
 have hb' : Below (seenZ W).heap.size (seenZ W) v' := hb.trans (hr.mono hb.size)
 refine ⟨rfl, ⟨[0], hb'.output, fun σ hok hg => zV2 hok hg⟩, fun F w hv hbas => ?_⟩
 obtain ⟨w', h1, h2, h3, h4, h5⟩ := ht.ok (hres v' (Rl.refl v')) hv
 have hno : P.inits.idxOf? fr.fn = none := by rw [hfn]; exact noInit
 refine ⟨x, w', seen P fr.fn ((results fn fr.tmps).events P v' #[]), ?_, ?_, hp w' (zNj h4 h3 hbas hb')⟩
 ·rw [<- h2]
  simp [G, stepG, unwind, doReturn, hm, hd, hkd, hf, h1, hno, GStep.after]
 ·rw [<- hv.size]
  exact fun e he => h5 e (Go.Conc.mem_seen he)
end
theorem zAl {H : Type} {enc : TypeId × Value -> H} {a : Assume} {C : Checked} {os : Os} {f : FuncId} {fn : Func} {s : ChangeSpec} {conds : List PathCond} {apart fresh handsOn again : Bool} (tW : TypeId) (msg : Nat -> Value)
  (own : ownKnob C.prog.godebug = none) (started : os.Started) (noInit : C.prog.inits.idxOf? f = none) (hfn : C.prog.funcs[f]? = some fn)
  (witness : ∃ (w : World) (tape : Tape) (i : Input), w.os = os ∧ (w.forCall tape i).Shaped C.prog ∧ i.vars = [] ∧ Input.okWide C.prog (w.forCall tape i) .any w.heap.size f i ∧
   s.pre6 enc C.prog fn conds apart (w.forCall tape i).memory i.args ∧ a.holds C.prog (lone (Frame.enter C.prog f i.args .normal) [] (w.forCall tape i)))
  (contract : ∀ (W : World) (base : Nat) (args : Array Value) (ds gs : List (DataW H)) (before : List MemPlace),
   (∀ (j : Nat) t v, fn.params[j]? = some t -> args[j]? = some v -> Value.okWide C.prog W .any base t v) ->
   DataW.Whole enc C.prog fn.params.toList s.vars apart W args.toList ds gs before ->
   conds.all (PathCond.test C.prog ⟨fn.params.toList, ds, s.plain.varTypes C.prog, gs⟩) = true ->
   (DataW.weightsEach C.prog (fn.params.toList ++ s.plain.varTypes C.prog) (ds ++ gs)).all (· <= reachBytes) = true ->
   a.holds C.prog (lone (Frame.enter C.prog f args .normal) [] W) ->
   @Calls C.prog (zSys C.prog (Cp W.heap.size tW msg)) f args (seenZ W) fun e v' => ∃ x, e = .returned x ∧ Below (seenZ W).heap.size (seenZ W) v' ∧ ∀ W', Below W.heap.size W W' -> s.post enc C.prog fn apart fresh handsOn again W args x W') :
  ReturnsInLeavingWide a C os f .any (s.pre6 enc C.prog fn conds apart) (s.post enc C.prog fn apart fresh handsOn again) := by
 refine returnsInLeavingWide_of_good own started witness ?_
 intro w tape i _ _ _ hok hpre hholds
 obtain ⟨_, _, _, fn', hfn', _, _, _, _, hval⟩ := hok
 have e : fn' = fn := Option.some.inj (hfn'.symm.trans hfn)
 subst e
 obtain ⟨⟨ds, gs, before, hw, hc⟩, hz⟩ := hpre
 have hw' := DataW.Whole.of_heap (w' := w.forCall tape i) (by rfl) hw
 have hcalls := contract (w.forCall tape i) w.heap.size i.args ds gs before hval hw' hc (hz.weights hw) hholds
 obtain ⟨M, last, o, w', t', h1, h2, h3, h4⟩ := zI0 rfl noInit hcalls
 exact ⟨M, last, o, w', t', h1, h2, h3, h4.mono fun v hp => ChangeSpec.post_blind hp⟩
end Go.Proofs.Yteppiphdbondeaa.N
/- What rows of laws about char share: the program's closed facts, and the law from its call in company. -/
namespace Go.Proofs.Yteppiphdbondeaa.N
open Go Go.ChangeShapes Go.WideShapes Go.ChangeAt Go.RowKit Go.Proofs Go.Proofs.Yteppiphdbondeaa Go.Proofs.Yteppiphdbondeaa.Rows
set_option linter.unusedSectionVars false
theorem own_ : ownKnob Try.prog.godebug = Option.none := by kernel_rfl
theorem zMh : laidOutB Try.prog = true := by kernel_rfl
theorem zVg : Try.prog.cellsOf 3 = 1 := by kernel_rfl
theorem zQ7 : Try.prog.underlying 22 = some (.slice 3) := by kernel_rfl
theorem zYl : Try.prog.underlying 3 = some (.int .i64) := by kernel_rfl
theorem zYu : Try.prog.underlying 4 = some .bool := by kernel_rfl
theorem zU2 : Try.prog.readableRec 22 = true := by kernel_rfl
set_option maxRecDepth 100000 in
theorem zYy : 22 < Try.prog.types.size := of_decide_eq_true (by kernel_rfl)
theorem zTw {α : Type} {cells : α -> List Value} {size : Nat} {W : World} {A : Option Addr} {l : List α} (h : RdL cells size W A l) : RdL cells size (seenZ W) A l := fun hl => by
 obtain ⟨b, o, h1, h2, h3⟩ := h hl
 exact ⟨b, o, h1, by simpa [seenZ, seenW] using h2, fun k x hk j u hu => zPk (h3 k x hk j u hu)⟩
abbrev ZS (W : World) : Sys := zSys Try.prog (Cp W.heap.size 131 msgM)
set_option maxRecDepth 100000 in
theorem zI5 {H : Type} {enc : TypeId × Value -> H} {f : FuncId} {fn : Func} {s : ChangeSpec} (hp : fn.params = #[22]) (hr : fn.resultTypes = #[4]) (hs : s.vars = []) (hfn : ∀ d : DataW H, s.fn H [d] = { results := [.lit (.bool true)], args := [d] })
  (W : World) (law : ∀ (nA : Option Addr) (nc : Nat) (nums : List Int), RdL icell 1 (seenZ W) nA nums -> @Calls Try.prog (ZS W) f #[.slice nA nums.length nc] (seenZ W) fun e w' => e = .returned (.bool true) ∧ Grew (seenZ W) w' [])
  (base : Nat) (args : Array Value) (ds gs : List (DataW H)) (before : List MemPlace)
  (hval : ∀ (j : Nat) t v, fn.params[j]? = some t -> args[j]? = some v -> Value.okWide Try.prog W .any base t v)
  (hW : DataW.Whole enc Try.prog fn.params.toList s.vars false W args.toList ds gs before) :
  @Calls Try.prog (ZS W) f args (seenZ W) fun e v' => ∃ x, e = .returned x ∧ Below (seenZ W).heap.size (seenZ W) v' ∧ ∀ W', Below W.heap.size W W' -> s.post enc Try.prog fn false true false false W args x W' := by
 have hW' := hW
 obtain ⟨p, q, hA, hV, rfl, _, _⟩ := hW
 rw [hs] at hV
 rw [hp] at hA hval
 obtain ⟨v0, d0, rfl, rfl, h0⟩ := trodAll_one hA
 obtain ⟨rfl, rfl⟩ := trodVars_none hV
 obtain ⟨a0, len, cap, rfl⟩ := okWide_slice zQ7 (hval 0 22 v0 rfl rfl)
 have h0k := h0
 obtain ⟨fuel, hf⟩ := h0
 clear hA
 simp only [List.append_nil] at hW'
 have hlt : ∀ x ∈ p, x.block < W.heap.size := fun x hx => by simpa using hW'.lt x hx
 have hargs : ∀ (W' : World), Below W.heap.size W W' -> DataW.Trod enc Try.prog W' 0 (fun b => decide (b < W.heap.size)) true 22 (.slice a0 len cap) d0 p :=
  fun W' hn => Below.trod zMh zU2 zYy h0k hn hlt
 have close : ∀ nums : List Int, nums.length = len -> RdL icell 1 W a0 nums -> @Calls Try.prog (ZS W) f #[.slice a0 len cap] (seenZ W) fun e v' => ∃ x, e = .returned x ∧ Below (seenZ W).heap.size (seenZ W) v' ∧ ∀ W', Below W.heap.size W W' -> s.post enc Try.prog fn false true false false W #[.slice a0 len cap] x W' := by
  intro nums hn hR
  have hl := law a0 cap nums (zTw hR)
  rw [hn] at hl
  refine @Calls.mono _ (ZS W) _ _ _ _ _ hl fun e v' ⟨he, hg⟩ => ⟨_, he, hg.1, fun W' hb => ?_⟩
  refine ⟨_, _, _, [], p, [], hW', ?_, ?_, ?_, hb.frame _, fun h => Bool.noConfusion h⟩
  ·rw [show s.fn H ([d0] ++ []) = _ from hfn d0, hr]; exact trodAll_mk1 (shut_bool zYu true)
  ·rw [show s.fn H ([d0] ++ []) = _ from hfn d0, hp]; exact trodAll_mk1 (hargs W' hb)
  ·rw [show s.fn H ([d0] ++ []) = _ from hfn d0, hs]; rfl
 rcases open_ints zQ7 zYl zVg hf with ⟨hcs, hx⟩ | ⟨a, len', cap', zs, hcs, _, hl, hm, hz, hx, hcell, hwz⟩
 ·simp [Value.cells] at hcs
  obtain ⟨rfl, rfl, rfl⟩ := hcs
  exact close [] rfl (fun h => absurd h (by simp))
 ·simp [Value.cells] at hcs
  obtain ⟨rfl, rfl, rfl⟩ := hcs
  simp only [Prod.mk.injEq] at hx
  obtain ⟨rfl, rfl⟩ := hx
  simp only [if_true] at hz
  obtain ⟨b, off, spot⟩ := a
  refine close (zs.take len) (by rw [List.length_take]; omega) (fun hpos => ?_)
  rw [List.length_take] at hpos
  have hspot : spot = Option.none := by simpa [Addr.add] using World.cell?_spot (hcell 0 om)
  subst hspot
  refine ⟨b, off, rfl, hlt (.cell b off) (MemPlace.mem_row.2 ⟨0, by omega, by simp⟩), fun k x hk j u hu => ?_⟩
  rw [List.getElem?_take] at hk
  split at hk
  ·rename_i hkl
   cases j with
   | zero =>
    simp [icell] at hu
    subst hu
    have := hcell k om
    rw [List.getD_eq_getElem?_getD, hk] at this
    rw [Nat.mul_one, Nat.add_zero]
    rw [add_plain] at this
    exact this
   | succ j => simp [icell] at hu
  ·cases hk
def orderN : List Nat := [104, 97, 114, 110, 101, 115, 115, 32, 55, 101, 48, 57, 54, 53, 99, 53, 56, 54, 50, 48, 53, 101, 50, 57, 53, 97, 99, 57, 53, 56, 98, 100, 52, 101, 101, 55, 102, 54, 99, 102, 55, 100, 53, 102, 53, 50, 97, 49, 57, 102, 99, 99, 102, 52, 99, 49, 50, 48, 99, 54, 56, 48, 48, 100, 102, 98, 98, 53, 99, 54, 49, 48, 32, 99, 117, 116, 32, 97, 116, 32, 109, 117, 115, 99, 111, 118, 97, 100, 111, 47, 109, 117, 115, 99, 111, 118, 97, 100, 111, 108, 97, 119, 48, 52, 46, 67, 104, 97, 114, 70, 101, 119, 101, 115, 116, 32, 109, 117, 115, 99, 111, 118, 97, 100, 111, 47, 109, 117, 115, 99, 111, 118, 97, 100, 111, 108, 97, 119, 48, 52, 46, 67, 104, 97, 114, 70, 105, 114, 115, 116, 32, 109, 117, 115, 99, 111, 118, 97, 100, 111, 47, 109, 117, 115, 99, 111, 118, 97, 100, 111, 108, 97, 119, 48, 52, 46, 67, 104, 97, 114, 66, 117, 121, 32, 109, 117, 115, 99, 111, 118, 97, 100, 111, 47, 109, 117, 115, 99, 111, 118, 97, 100, 111, 108, 97, 119, 48, 52, 46, 67, 104, 97, 114, 83, 116, 114, 111, 110, 103, 101, 114, 32, 109, 117, 115, 99, 111, 118, 97, 100, 111, 47, 109, 117, 115, 99, 111, 118, 97, 100, 111, 108, 97, 119, 48, 52, 46, 67, 104, 97, 114, 67, 108, 101, 97, 114, 101, 100, 32, 109, 117, 115, 99, 111, 118, 97, 100, 111, 47, 109, 117, 115, 99, 111, 118, 97, 100, 111, 108, 97, 119, 48, 52, 46, 67, 104, 97, 114, 65, 103, 97, 105, 110, 32, 109, 117, 115, 99, 111, 118, 97, 100, 111, 47, 109, 117, 115, 99, 111, 118, 97, 100, 111, 108, 97, 119, 48, 52, 46, 67, 104, 97, 114, 78, 101, 101, 100, 101, 100, 32, 109, 117, 115, 99, 111, 118, 97, 100, 111, 47, 109, 117, 115, 99, 111, 118, 97, 100, 111, 108, 97, 119, 48, 52, 46, 67, 104, 97, 114, 76, 101, 102, 116, 32, 109, 117, 115, 99, 111, 118, 97, 100, 111, 47, 109, 117, 115, 99, 111, 118, 97, 100, 111, 108, 97, 119, 48, 52, 46, 67, 104, 97, 114, 77, 111, 115, 116, 32, 109, 117, 115, 99, 111, 118, 97, 100, 111, 47, 109, 117, 115, 99, 111, 118, 97, 100, 111, 108, 97, 119, 48, 52, 46, 67, 104, 97, 114, 75, 110, 111, 119, 110]
def wordsN : List (List Nat) := [[104, 97, 114, 110, 101, 115, 115], [55, 101, 48, 57, 54, 53, 99, 53, 56, 54, 50, 48, 53, 101, 50, 57, 53, 97, 99, 57, 53, 56, 98, 100, 52, 101, 101, 55, 102, 54, 99, 102, 55, 100, 53, 102, 53, 50, 97, 49, 57, 102, 99, 99, 102, 52, 99, 49, 50, 48, 99, 54, 56, 48, 48, 100, 102, 98, 98, 53, 99, 54, 49, 48], [99, 117, 116], [97, 116], [109, 117, 115, 99, 111, 118, 97, 100, 111, 47, 109, 117, 115, 99, 111, 118, 97, 100, 111, 108, 97, 119, 48, 52, 46, 67, 104, 97, 114, 70, 101, 119, 101, 115, 116], [109, 117, 115, 99, 111, 118, 97, 100, 111, 47, 109, 117, 115, 99, 111, 118, 97, 100, 111, 108, 97, 119, 48, 52, 46, 67, 104, 97, 114, 70, 105, 114, 115, 116], [109, 117, 115, 99, 111, 118, 97, 100, 111, 47, 109, 117, 115, 99, 111, 118, 97, 100, 111, 108, 97, 119, 48, 52, 46, 67, 104, 97, 114, 66, 117, 121], [109, 117, 115, 99, 111, 118, 97, 100, 111, 47, 109, 117, 115, 99, 111, 118, 97, 100, 111, 108, 97, 119, 48, 52, 46, 67, 104, 97, 114, 83, 116, 114, 111, 110, 103, 101, 114], [109, 117, 115, 99, 111, 118, 97, 100, 111, 47, 109, 117, 115, 99, 111, 118, 97, 100, 111, 108, 97, 119, 48, 52, 46, 67, 104, 97, 114, 67, 108, 101, 97, 114, 101, 100], [109, 117, 115, 99, 111, 118, 97, 100, 111, 47, 109, 117, 115, 99, 111, 118, 97, 100, 111, 108, 97, 119, 48, 52, 46, 67, 104, 97, 114, 65, 103, 97, 105, 110], [109, 117, 115, 99, 111, 118, 97, 100, 111, 47, 109, 117, 115, 99, 111, 118, 97, 100, 111, 108, 97, 119, 48, 52, 46, 67, 104, 97, 114, 78, 101, 101, 100, 101, 100], [109, 117, 115, 99, 111, 118, 97, 100, 111, 47, 109, 117, 115, 99, 111, 118, 97, 100, 111, 108, 97, 119, 48, 52, 46, 67, 104, 97, 114, 76, 101, 102, 116], [109, 117, 115, 99, 111, 118, 97, 100, 111, 47, 109, 117, 115, 99, 111, 118, 97, 100, 111, 108, 97, 119, 48, 52, 46, 67, 104, 97, 114, 77, 111, 115, 116], [109, 117, 115, 99, 111, 118, 97, 100, 111, 47, 109, 117, 115, 99, 111, 118, 97, 100, 111, 108, 97, 119, 48, 52, 46, 67, 104, 97, 114, 75, 110, 111, 119, 110]]
set_option maxRecDepth 100000 in
theorem zXf : Try.prog.initOrder = String.ofList (orderN.map Char.ofNat) := by kernel_rfl
theorem zVx : Try.prog.initOrder.toList = orderN.map Char.ofNat := by rw [zXf, String.toList_ofList]
def wordN (k : Nat) : List Char := (wordsN.getD k []).map Char.ofNat
def wordR : List (List Char) := (wordsN.drop 3).map (·.map Char.ofNat)
set_option maxRecDepth 100000 in
theorem zUz : wordsSigns Try.prog.initOrder.toList = wordN 0 :: wordN 1 :: wordN 2 :: wordR := by
 rw [zVx]
 kernel_rfl
theorem zQr {a b : List Char} {r : List (List Char)} (h1 : (a == "harness".toList || a == "ownmain".toList) = true) (h2 : isSumSigns b = true) : behindMainWord (a :: b :: r) = r := by
 unfold behindMainWord
 dsimp only
 rw [h1, h2]
 rfl
theorem zMa : behindMainWord (wordsSigns Try.prog.initOrder.toList) = wordN 2 :: wordR := by
 rw [zUz]
 exact zQr kr kr
theorem zVd {P : Program} {c : List Char} {rest : List (List Char)} (h : behindMainWord (wordsSigns P.initOrder.toList) = c :: rest) (h1 : (c == "gc".toList || c == "spec".toList) = false) (h2 : (c == "cut".toList) = true) : P.make = some .cut := by
 unfold Program.make
 rw [h]
 dsimp only
 rw [h1, h2]
 rfl
theorem zXc {P : Program} {c : List Char} {rest : List (List Char)} (h : behindMainWord (wordsSigns P.initOrder.toList) = c :: rest) (h1 : (stripLifts liftWords (c :: rest)).1 = []) (h2 : ((stripLifts liftWords (c :: rest)).2.head? == some "cut".toList) = true) (h3 : P.laysLater = false) (h4 : P.bearsReflect = false) (h5 : P.doorFits [] = true) : P.mayEnter = true := by
 unfold Program.mayEnter
 rw [h]
 dsimp only
 rw [h1, h2, h3, h4, h5]
 simp
theorem zT1 {P : Program} {c : List Char} {rest : List (List Char)} (h : behindMainWord (wordsSigns P.initOrder.toList) = c :: rest) (h1 : (stripLifts liftWords (c :: rest)).1 = []) (h2 : (c == "carried".toList) = false) : P.liftsFinal = false := by
 have e : (some c == some "carried".toList) = false := h2
 unfold Program.liftsFinal Program.headLifts
 dsimp only
 rw [h, h1, List.head?_cons, e]
 simp
theorem zIj : (stripLifts liftWords (wordN 2 :: wordR)).1 = [] := by kernel_rfl
set_option maxRecDepth 100000 in
theorem zY2 : Try.prog.make = some .cut := zVd zMa (by kernel_rfl) (by kernel_rfl)
set_option maxRecDepth 100000 in
theorem zWw : Try.prog.liftsFinal = false := zT1 zMa zIj (by kernel_rfl)
set_option maxRecDepth 100000 in
theorem zQb : Try.prog.laysLater = false := by kernel_rfl
set_option maxRecDepth 100000 in
theorem zKr : Try.prog.bearsReflect = false := by kernel_rfl
set_option maxRecDepth 100000 in
theorem zY6 : Try.prog.doorFits [] = true := by kernel_rfl
set_option maxRecDepth 100000 in
theorem may_ : Try.prog.mayEnter = true := zXc zMa zIj (by kernel_rfl) zQb zKr zY6
set_option maxRecDepth 100000 in
theorem zPu : mapsRowed Try.prog = true := by kernel_rfl
set_option maxRecDepth 100000 in
theorem zPt : Try.prog.plainKeys = false := by kernel_rfl
set_option maxRecDepth 100000 in
theorem zNa : Try.prog.stopsHeard = true := by kernel_rfl
end Go.Proofs.Yteppiphdbondeaa.N
namespace Go.Proofs.Yteppiphdbondeaa.N
open Go Go.RowKit Go.Proofs
set_option linter.unusedSectionVars false
theorem zS8 (W : World) : @RdC (ZS W) (reaC_main W.heap.size) (seenZ W) := ⟨by show W.heap.size <= (seenZ W).heap.size; simp [seenZ, seenW], rfl⟩
end Go.Proofs.Yteppiphdbondeaa.N
