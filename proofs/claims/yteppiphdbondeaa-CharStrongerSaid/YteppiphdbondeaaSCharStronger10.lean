/- Parts of the walk of the law CharStronger: T28, Sx7, ChA, ChG, T29, T30, ChU, ChY, ChD, ChAC, ChAG, ChAH, T39, T41, ChRow, RowC, RowC2. -/
import Derived.Test.YteppiphdbondeaaSCharStronger09
import Derived.Test.YteppiphdbondeaaProg
import Derived.Test.YteppiphdbondeaaSCharStronger05
import Derived.DeepKeys3
import Derived.Test.YteppiphdbondeaaSCharStronger08
import Derived.ArgAppend
import Derived.Deep.Upon
import Derived.Test.YteppiphdbondeaaSCharStronger03
import Derived.Test.YteppiphdbondeaaRows
import Derived.ChangeSame
import Derived.ChangeVars
import Derived.JoinedOf
import Derived.RowKit
import Derived.RowKitTokens
import Derived.WitnessAt
import Derived.Stop.Joined
import Derived.ProofKit
import Derived.SizedLaws
import Derived.OpenShut
import Derived.Conc.Holds
namespace Go.Proofs.Yteppiphdbondeaa.N
open Go Go.RowKit Go.Proofs
set_option linter.unusedSectionVars false
variable [I : Sys]
theorem F.ent14 : Enters Try.prog 14 := jD Try.func14 rfl (by kernel_rfl)
theorem F.ent27 : Enters Try.prog 27 := jD Try.func27 rfl (by kernel_rfl)
theorem zOr {C : Ctx} {fr : List (Nat × Value)} {T : List Res} {a : Act} {w : World} (hC : C.P = Try.prog) {hb tk st nc : Nat} {nA : Option Addr} {nums : List Int} (hB : C.w0.heap.size = C.B) (hN : RdL icell 1 C.w0 nA nums) (htk : tk <= 900000) (hst : st < 18446744073709551616) (ha : At C fr (.blk hb (hatO nA nums.length nc (tk) (st)) :: T) a w) : Calls C.P 27 #[.pointer (some ⟨hb, 0, none⟩)] w fun e w' => ∃ (tk' st' : Nat) (f : Flt), tk' <= tk + 10 ∧ st' < 18446744073709551616 ∧ FltOk f ∧ e = .returned (.agg [.int .i64 (f.power : Int), .int .i64 (f.gain : Int), .int .i64 (f.now : Int), .bool f.washed].toArray) ∧ At C fr (.blk hb (hatO nA nums.length nc (tk') (st')) :: T) a w' := by
 obtain ⟨P, B, w0, N0, ds⟩ := C
 obtain rfl : P = Try.prog := hC
 (try dsimp only at hB)
 (try dsimp only at hN)
 refine vQ (N := 30) [(0, .pointer (some ⟨hb, 0, none⟩))] ha Try.func27 rfl Try.ntmps27 rfl rfl ?_
 refine zD (zB (zT rfl F.ti49 ?_))
 intro b2
 refine zA (zC (zD (zB (zF rfl rfl (kF (vs := [(0, _), (1, _), (2, _), (3, _), (4, _), (5, _)]) rfl rfl Try.underlying22 F.ti3 rfl rfl rfl ?_)))))
 intro b5
 refine vL [1, 2, 2, 3, 3, 4] rfl rfl rfl hB hN hst om (by simp) (by simp) (InB.mem (b := b5)) ?_
 rintro s1 pw hs1 hpw
 simp only [List.mem_cons, List.not_mem_nil, or_false] at hpw
 refine jZ (vs := [(0, _)]) (l' := [_, _, _, _]) rfl rfl F.ti49 F.pl49 (.cons rfl rfl (.nil _)) rfl ?_
 refine zT rfl F.ti49 ?_
 intro b3
 refine zI rfl rfl F.ti49 rfl ?_
 refine zA (zC (zD (xV (G := Nat × Nat) (fun g => g.1 < 18446744073709551616 ∧ g.2 <= pw) (fun g => [(0, .pointer (some ⟨hb, 0, none⟩)), (2, .pointer (some ⟨b2, 0, none⟩)), (3, .pointer (some ⟨b3, 0, none⟩))]) (fun g => .blk hb (hatO nA nums.length nc (tk + 1 + 1 + 1) (g.1)) :: .blk b3 (.cells [.int .i64 (pw : Int), .int .i64 (g.2 : Int), .int .i64 (pw : Int), .bool false].toArray 49 (0, 0)) :: .blk b2 (.cells [.int .i64 0, .int .i64 0, .int .i64 0, .bool false].toArray 49 (0, 0)) :: T) ?_ ?_)))
 ·refine kB [.b b3, .b hb] F.follows 13 rfl [false, false, false, false, false, false, false, false, false, false, false, false, false] rfl ?_
  refine zG 0 rfl rfl rfl (jG rfl) ?_
  refine zG 1 rfl rfl rfl (jG rfl) ?_
  refine zG 2 rfl rfl rfl (zO rfl F.fi49_0 F.ti3) ?_
  refine zG 7 rfl rfl rfl (zO rfl F.fi49_0 F.ti3) ?_
  refine qI 3 8 kr rfl rfl rfl rfl ?_ ?_
  ·refine zR rfl rfl F.one3 ?_
   refine zA (anb (qI 4 8 kr rfl rfl rfl rfl ?_ ?_))
   ·refine vE rfl rfl rfl hB hN hs1 om om ?_
    rintro s2 g1 hs2 hg1
    refine zA (anb (qI 5 8 kr rfl rfl rfl rfl ?_ ?_))
    ·refine kF (vs := [(0, _), (1, _), (2, _), (3, _)]) rfl rfl Try.underlying22 F.ti3 rfl rfl rfl ?_
     intro b13
     refine zA (anb (qI 6 8 kr rfl rfl rfl rfl ?_ ?_))
     ·refine vL [0, 1, 1, g1] rfl rfl rfl hB hN hs2 om (by simp) (by simp) (InB.mem (b := b13)) ?_
      rintro s3 gn hs3 hgn
      simp only [List.mem_cons, List.not_mem_nil, or_false] at hgn
      refine zA (anb (an1 8 rfl ?_))
      refine zR rfl rfl F.one3 ?_
      refine zA (anb (zG 9 rfl rfl rfl (zO rfl F.fi49_1 F.ti3) ?_))
      refine an1 10 rfl ?_
      refine zI rfl rfl F.ti3 rfl ?_
      refine zA (anb (zG 11 rfl rfl rfl (zO rfl F.fi49_2 F.ti3) ?_))
      refine an1 12 rfl ?_
      refine zI rfl rfl F.ti3 rfl ?_
      refine zA (anb (adn ?_))
      exact jU (s3, gn) ⟨hs3, by dsimp only; omega⟩ sbn pkk
     ·refine zR rfl rfl F.one3 ?_
      refine zA (anb (an1 6 rfl ?_))
      refine vL [0, 1, 1, g1] rfl rfl rfl hB hN hs2 om (by simp) (by simp) (InB.mem (b := b13)) ?_
      rintro s3 gn hs3 hgn
      simp only [List.mem_cons, List.not_mem_nil, or_false] at hgn
      refine zA (anb (zG 9 rfl rfl rfl (zO rfl F.fi49_1 F.ti3) ?_))
      refine an1 10 rfl ?_
      refine zI rfl rfl F.ti3 rfl ?_
      refine zA (anb (zG 11 rfl rfl rfl (zO rfl F.fi49_2 F.ti3) ?_))
      refine an1 12 rfl ?_
      refine zI rfl rfl F.ti3 rfl ?_
      refine zA (anb (adn ?_))
      exact jU (s3, gn) ⟨hs3, by dsimp only; omega⟩ sbn pkk
    ·refine zR rfl rfl F.one3 ?_
     refine zA (anb (an1 5 rfl ?_))
     refine kF (vs := [(0, _), (1, _), (2, _), (3, _)]) rfl rfl Try.underlying22 F.ti3 rfl rfl rfl ?_
     intro b13
     refine zA (anb (an1 6 rfl ?_))
     refine vL [0, 1, 1, g1] rfl rfl rfl hB hN hs2 om (by simp) (by simp) (InB.mem (b := b13)) ?_
     rintro s3 gn hs3 hgn
     simp only [List.mem_cons, List.not_mem_nil, or_false] at hgn
     refine zA (anb (zG 9 rfl rfl rfl (zO rfl F.fi49_1 F.ti3) ?_))
     refine an1 10 rfl ?_
     refine zI rfl rfl F.ti3 rfl ?_
     refine zA (anb (zG 11 rfl rfl rfl (zO rfl F.fi49_2 F.ti3) ?_))
     refine an1 12 rfl ?_
     refine zI rfl rfl F.ti3 rfl ?_
     refine zA (anb (adn ?_))
     exact jU (s3, gn) ⟨hs3, by dsimp only; omega⟩ sbn pkk
   ·refine zR rfl rfl F.one3 ?_
    refine zA (anb (an1 4 rfl ?_))
    refine vE rfl rfl rfl hB hN hs1 om om ?_
    rintro s2 g1 hs2 hg1
    refine zA (anb (an1 5 rfl ?_))
    refine kF (vs := [(0, _), (1, _), (2, _), (3, _)]) rfl rfl Try.underlying22 F.ti3 rfl rfl rfl ?_
    intro b13
    refine zA (anb (an1 6 rfl ?_))
    refine vL [0, 1, 1, g1] rfl rfl rfl hB hN hs2 om (by simp) (by simp) (InB.mem (b := b13)) ?_
    rintro s3 gn hs3 hgn
    simp only [List.mem_cons, List.not_mem_nil, or_false] at hgn
    refine zA (anb (zG 9 rfl rfl rfl (zO rfl F.fi49_1 F.ti3) ?_))
    refine an1 10 rfl ?_
    refine zI rfl rfl F.ti3 rfl ?_
    refine zA (anb (zG 11 rfl rfl rfl (zO rfl F.fi49_2 F.ti3) ?_))
    refine an1 12 rfl ?_
    refine zI rfl rfl F.ti3 rfl ?_
    refine zA (anb (adn ?_))
    exact jU (s3, gn) ⟨hs3, by dsimp only; omega⟩ sbn pkk
  ·refine zR rfl rfl F.one3 ?_
   refine zA (anb (an1 3 rfl ?_))
   refine zR rfl rfl F.one3 ?_
   refine zA (anb (an1 4 rfl ?_))
   refine vE rfl rfl rfl hB hN hs1 om om ?_
   rintro s2 g1 hs2 hg1
   refine zA (anb (an1 5 rfl ?_))
   refine kF (vs := [(0, _), (1, _), (2, _), (3, _)]) rfl rfl Try.underlying22 F.ti3 rfl rfl rfl ?_
   intro b13
   refine zA (anb (an1 6 rfl ?_))
   refine vL [0, 1, 1, g1] rfl rfl rfl hB hN hs2 om (by simp) (by simp) (InB.mem (b := b13)) ?_
   rintro s3 gn hs3 hgn
   simp only [List.mem_cons, List.not_mem_nil, or_false] at hgn
   refine zA (anb (zG 9 rfl rfl rfl (zO rfl F.fi49_1 F.ti3) ?_))
   refine an1 10 rfl ?_
   refine zI rfl rfl F.ti3 rfl ?_
   refine zA (anb (zG 11 rfl rfl rfl (zO rfl F.fi49_2 F.ti3) ?_))
   refine an1 12 rfl ?_
   refine zI rfl rfl F.ti3 rfl ?_
   refine zA (anb (adn ?_))
   exact jU (s3, gn) ⟨hs3, by dsimp only; omega⟩ sbn pkk
 ·rintro ⟨s3, gn⟩ ⟨hs3, hgn⟩
  dsimp only at hs3 hgn ⊢
  refine zC (zD (zD (zB (zF rfl rfl (zBt rfl rfl rfl hB hN hs3 om om om ?_)))))
  rintro s4 sb hs4
  refine zA (zC (kY rfl (fun hc0 => ?_) (fun hc0 => ?_)))
  ·refine zB (zF rfl rfl (zL rfl rfl F.fi49_0 F.ti3 ?_))
   refine zR rfl rfl F.one3 ?_
   refine vE rfl rfl rfl hB hN hs4 om om ?_
   rintro s5 nw hs5 hnw
   refine zL rfl rfl F.fi49_2 F.ti3 ?_
   refine zI rfl rfl F.ti3 rfl ?_
   refine zA (zC (zD (zB (zF rfl rfl (zBt rfl rfl rfl hB hN hs5 om om om ?_)))))
   rintro s6 wb hs6
   refine zL rfl rfl F.fi49_3 F.ti4 ?_
   refine zI rfl rfl F.ti4 rfl ?_
   refine zA (zC (zD (zB (jB rfl rfl F.agg49 F.ti49 ?_))))
   refine zI rfl rfl F.ti49 rfl ?_
   refine zA (zC (zU ?_))
   exact jH rfl (fun a w ha => by exact qM (ha := ha) rfl rfl F.agg49 F.ti49 rfl) (fun _ _ ha' => ⟨tk + 1 + 1 + 1 + 1 + 1 + 1, s6, ⟨pw, gn, nw, wb⟩, by omega, hs6, ⟨by show 1 <= pw; omega, by show pw <= 4; omega, by show gn <= pw; omega, by show nw <= pw; omega⟩, rfl, ha.back (ha'.pck pkk)⟩)
  ·refine zV (zC (zD (zB (zF rfl rfl (zBt rfl rfl rfl hB hN hs4 om om om ?_)))))
   rintro s6 wb hs6
   refine zL rfl rfl F.fi49_3 F.ti4 ?_
   refine zI rfl rfl F.ti4 rfl ?_
   refine zA (zC (zD (zB (jB rfl rfl F.agg49 F.ti49 ?_))))
   refine zI rfl rfl F.ti49 rfl ?_
   refine zA (zC (zU ?_))
   exact jH rfl (fun a w ha => by exact qM (ha := ha) rfl rfl F.agg49 F.ti49 rfl) (fun _ _ ha' => ⟨tk + 1 + 1 + 1 + 1 + 1, s6, ⟨pw, gn, pw, wb⟩, by omega, hs6, ⟨by show 1 <= pw; omega, by show pw <= 4; omega, by show gn <= pw; omega, by show pw <= pw; omega⟩, rfl, ha.back (ha'.pck pkk)⟩)

theorem zLs {C : Ctx} {fr : List (Nat × Value)} {T : List Res} {a : Act} {w : World} (hC : C.P = Try.prog) {hb tk st nc : Nat} {nA : Option Addr} {nums : List Int} (hB : C.w0.heap.size = C.B) (hN : RdL icell 1 C.w0 nA nums) (htk : tk <= 800000) (hst : st < 18446744073709551616) {nf ny : Nat} (hf1 : 1 <= nf) (hf3 : nf <= 3) (hy1 : 1 <= ny) (hy4 : ny <= 4) (ha : At C fr (.blk hb (hatO nA nums.length nc (tk) (st)) :: T) a w) : Calls C.P 14 #[.pointer (some ⟨hb, 0, none⟩), .int .i64 (nf : Int), .int .i64 (ny : Int)] w fun e w' => ∃ (tk' st' kiln : Nat) (fs : List Flt) (days : List Nat) (A D : Option Addr) (c dc : Nat), tk' <= tk + 100 ∧ st' < 18446744073709551616 ∧ fs.length <= nf ∧ days.length <= ny ∧ ChV fs kiln days ∧ e = .returned (.agg [.slice A fs.length c, .int .i64 (kiln : Int), .slice D days.length dc].toArray) ∧ At C fr (.row 49 4 A fs.length c (fs.flatMap Flt.cells) :: .row 3 1 D days.length dc (ints days) :: .blk hb (hatO nA nums.length nc (tk') (st')) :: T) a w' := by
 obtain ⟨P, B, w0, N0, ds⟩ := C
 obtain rfl : P = Try.prog := hC
 (try dsimp only at hB)
 (try dsimp only at hN)
 refine vQ (N := 59) [(0, .pointer (some ⟨hb, 0, none⟩)), (1, .int .i64 (nf : Int)), (2, .int .i64 (ny : Int))] ha Try.func14 rfl Try.ntmps14 rfl rfl ?_
 refine zD (zB (zT rfl F.ti27 ?_))
 intro b6
 refine zA (zC (zD (zB (zF rfl rfl (kF (vs := [(0, _), (1, _), (2, _), (3, _)]) rfl rfl Try.underlying22 F.ti3 rfl rfl rfl ?_)))))
 intro b13
 refine vL [0, 1, 1, 2] rfl rfl rfl hB hN hst om (by simp) (by simp) (InB.mem (b := b13)) ?_
 rintro s0 kiln hs0 hkiln
 simp only [List.mem_cons, List.not_mem_nil, or_false] at hkiln
 refine jZ (vs := [(1, _)]) (l' := [_, _, _]) rfl rfl F.ti27 F.pl27 (.cons rfl rfl (.nil _)) rfl ?_
 refine zT rfl F.ti27 ?_
 intro b7
 refine zI rfl rfl F.ti27 rfl ?_
 refine zA (zC (zD (zB (zE rfl rfl (zA (zC (zD (zD (zB (zF rfl rfl (zF rfl rfl (zEf (lo := 1) (hi := nf) rfl rfl rfl hB hN hs0 om om om ?_))))))))))))
 rintro s1 n0 hs1 hn0a hn0b
 refine zE rfl rfl (zA (zC (jC (zN7 49 4 ?_))))
 refine zAa (G := Nat × Nat × Nat × Option Addr × Nat × List Flt × Nat) (fun g => g.1 + g.2.2.2.2.2.1.length = n0 ∧ (∀ x ∈ g.2.2.2.2.2.1, FltOk x) ∧ g.2.1 <= tk + 2 + 10 * g.2.2.2.2.2.1.length ∧ g.2.2.1 < 18446744073709551616 ∧ g.2.2.2.2.2.2 <= 4 * g.2.2.2.2.2.1.length) (fun g => g.1) (fun g => [(0, .pointer (some ⟨hb, 0, none⟩)), (1, .int .i64 (nf : Int)), (2, .int .i64 (ny : Int)), (6, .pointer (some ⟨b6, 0, none⟩)), (7, .pointer (some ⟨b7, 0, none⟩)), (8, .int .i64 (g.2.2.2.2.2.2 : Int)), (9, .int .i64 (g.1 : Int))]) (fun g => .row 49 4 g.2.2.2.1 g.2.2.2.2.2.1.length g.2.2.2.2.1 (g.2.2.2.2.2.1.flatMap Flt.cells) :: .blk b7 (.cells [.slice g.2.2.2.1 g.2.2.2.2.2.1.length g.2.2.2.2.1, .int .i64 (kiln : Int), .slice none 0 0].toArray 27 (0, 0)) :: .blk b6 (.cells [.slice none 0 0, .int .i64 0, .slice none 0 0].toArray 27 (0, 0)) :: .blk hb (hatO nA nums.length nc (g.2.1) (g.2.2.1)) :: T) (n0, tk + 1 + 1, s1, none, 0, [], 0) ⟨by simp, by simp, by simp, hs1, by simp⟩ sbn pkk ?_
 rintro ⟨i, t1, s2, A1, c1, fs, sm⟩ ⟨hil, hlo, ht1, hs2, hsm⟩
 (try dsimp only at hil hlo ht1 hs2 hsm ⊢)
 refine zD (zD (zB (zF rfl rfl (zJ rfl rfl rfl zAp ?_))))
 refine zA (zC (zS rfl (fun hc0 => ?_) (fun hc0 => ?_)))
 ·obtain ⟨i, rfl⟩ : ∃ i', i = i' + 1 := ⟨i - 1, by omega⟩
  refine zV (zC (zD (jC (zD (zB (zF rfl rfl (wC (X := Nat × Nat × Flt) (vs := [_]) hb (fun y => hatO nA nums.length nc (y.1) (y.2.1)) (fun y => y.1 <= t1 + 10 ∧ y.2.1 < 18446744073709551616 ∧ FltOk y.2.2) (fun y => .agg [.int .i64 (y.2.2.power : Int), .int .i64 (y.2.2.gain : Int), .int .i64 (y.2.2.now : Int), .bool y.2.2.washed].toArray) rfl rfl F.ent27 (fun a w ha => (zOr (C := ⟨Try.prog, B, w0, _, _⟩) rfl hB hN (tk := t1) (st := s2) om hs2 ha).mono (fun e w' h => by obtain ⟨t', s', x, h1, h2, h3, h4, h5⟩ := h; exact ⟨(t', s', x), ⟨h1, h2, h3⟩, h4, h5⟩)) ?_)))))))
  rintro ⟨t2, s3, ⟨pw, gn, nw, wd⟩⟩ ⟨ht2, hs3, hfo⟩
  dsimp only at ht2 hs3 hfo ⊢
  refine zT rfl F.ti49 ?_
  intro b10
  refine zI rfl rfl F.ti49 rfl ?_
  refine zA (zC (xV (G := Option Addr × Nat) (fun _ => True) (fun x => [(0, .pointer (some ⟨hb, 0, none⟩)), (1, .int .i64 (nf : Int)), (2, .int .i64 (ny : Int)), (6, .pointer (some ⟨b6, 0, none⟩)), (7, .pointer (some ⟨b7, 0, none⟩)), (8, .int .i64 ((sm + pw : Nat) : Int)), (9, .int .i64 ((i + 1 : Nat) : Int))]) (fun x => .row 49 4 x.1 (fs.length + 1) x.2 (fs.flatMap Flt.cells ++ [.int .i64 (pw : Int), .int .i64 (gn : Int), .int .i64 (nw : Int), .bool wd]) :: .blk b7 (.cells [.slice x.1 (fs.length + 1) x.2, .int .i64 (kiln : Int), .slice none 0 0].toArray 27 (0, 0)) :: .blk b6 (.cells [.slice none 0 0, .int .i64 0, .slice none 0 0].toArray 27 (0, 0)) :: .blk hb (hatO nA nums.length nc (t2) (s3)) :: T) ?_ ?_))
  ·refine kB [.b b7, .r A1] F.follows 12 rfl [false, false, false, false, false, false, false, false, false, false, false, false] rfl ?_
   have hpw4 : pw <= 4 := hfo.2.1
   refine zG 0 rfl rfl rfl (zO rfl F.fi27_0 F.ti25) ?_
   refine zG 2 rfl rfl rfl (kU rfl F.agg49 F.ti49) ?_
   refine zG 5 rfl rfl rfl (jG rfl) ?_
   refine zG 6 rfl rfl rfl (zO rfl F.fi49_0 F.ti3) ?_
   refine zG 7 rfl rfl rfl (jN rfl F.one3) ?_
   refine zG 8 rfl rfl rfl (qQ (v := .int .i64 ((sm + pw : Nat) : Int)) rfl rfl (fun w => jP w (jA _ om om))) ?_
   refine qI 1 3 kr rfl rfl rfl rfl ?_ ?_
   ·refine zR rfl rfl F.one25 ?_
    refine zA (anb (an1 3 rfl ?_))
    refine yB (vs := [(0, .agg ([.int .i64 (pw : Int), .int .i64 (gn : Int), .int .i64 (nw : Int), .bool wd] : List Value).toArray)]) [.int .i64 (pw : Int), .int .i64 (gn : Int), .int .i64 (nw : Int), .bool wd] rfl rfl Try.underlying25 F.ti49 rfl rfl rfl (Lit.agg (l1 := [.int .i64 (pw : Int), .int .i64 (gn : Int), .int .i64 (nw : Int), .bool wd]) (l := []) rfl rfl) ?_
    intro b28
    refine zA (anb (an1 4 rfl ?_))
    refine qB rfl rfl rfl Try.underlying25 F.ti49 rfl rfl rfl (by unfold maxLen; omega) om ?_
    intro A2 c2
    refine zA (anb (zG 9 rfl rfl rfl (zO rfl F.fi27_0 F.ti25) ?_))
    refine an1 10 rfl ?_
    refine zI rfl rfl F.ti25 rfl ?_
    refine zA (anb (zG 11 rfl rfl rfl (kR rfl) ?_))
    refine adn ?_
    exact jU (A2, c2) trivial sbn pkk
   ·refine yB (vs := [(0, .agg ([.int .i64 (pw : Int), .int .i64 (gn : Int), .int .i64 (nw : Int), .bool wd] : List Value).toArray)]) [.int .i64 (pw : Int), .int .i64 (gn : Int), .int .i64 (nw : Int), .bool wd] rfl rfl Try.underlying25 F.ti49 rfl rfl rfl (Lit.agg (l1 := [.int .i64 (pw : Int), .int .i64 (gn : Int), .int .i64 (nw : Int), .bool wd]) (l := []) rfl rfl) ?_
    intro b28
    refine zA (anb (an1 1 rfl ?_))
    refine zR rfl rfl F.one25 ?_
    refine zA (anb (an1 4 rfl ?_))
    refine qB rfl rfl rfl Try.underlying25 F.ti49 rfl rfl rfl (by unfold maxLen; omega) om ?_
    intro A2 c2
    refine zA (anb (zG 9 rfl rfl rfl (zO rfl F.fi27_0 F.ti25) ?_))
    refine an1 10 rfl ?_
    refine zI rfl rfl F.ti25 rfl ?_
    refine zA (anb (zG 11 rfl rfl rfl (kR rfl) ?_))
    refine adn ?_
    exact jU (A2, c2) trivial sbn pkk
  ·rintro ⟨A2, c2⟩ -
   have hpw4 : pw <= 4 := hfo.2.1
   (try dsimp only)
   refine zN (zC (zB (zF rfl rfl (zJ rfl rfl rfl (fun w => xG w (show IntKind.i64.wrap (((i + 1 : Nat) : Int) - 1) = (i : Int) from by rw [jA _ om om]; omega)) ?_))))
   refine zE rfl rfl (zA (xU (i, t2, s3, A2, c2, fs ++ [⟨pw, gn, nw, wd⟩], sm + pw) ⟨by simp; omega, fun y hy => ?_, by simp; omega, hs3, by simp; omega⟩ tdo (by dsimp only; (try rw [List.length_append, List.length_singleton]); repeat (first | exact Sub.nil _ | refine Sub.cons rfl ?_)) (by dsimp only; rw [List.length_append, List.length_singleton]; rw [List.flatMap_append, List.flatMap_singleton]; repeat (first | exact Pck.nil _ | exact Pck.refl _ | (apply Pck.cons; focus ((repeat (first | exact Rem.here _ | apply Rem.there)); done)) | refine Pck.skip _ ?_))))
   rcases List.mem_append.1 hy with h | h
   ·exact hlo y h
   ·simp at h; subst h; exact hfo
 ·obtain rfl : i = 0 := by omega
  have hn0 : fs.length = n0 := by omega
  have hfl1 : 1 <= fs.length := by omega
  have hfl2 : fs.length <= nf := by omega
  refine kG (zW (zW (jK (zC (zD (zD (zB (zF rfl rfl (zF rfl rfl (zEf (lo := 1) (hi := ny) rfl rfl rfl hB hN hs2 om om om ?_))))))))))
  rintro s4 m0 hs4 hm0a hm0b
  refine zE rfl rfl (zA (zC (jC (zN7 3 1 ?_))))
  refine zAa (G := Nat × Nat × Nat × Option Addr × Nat × List Nat) (fun g => g.1 + g.2.2.2.2.2.length = m0 ∧ (∀ x ∈ g.2.2.2.2.2, x <= 12) ∧ g.2.1 <= t1 + 1 + 3 * g.2.2.2.2.2.length ∧ g.2.2.1 < 18446744073709551616) (fun g => g.1) (fun g => [(0, .pointer (some ⟨hb, 0, none⟩)), (1, .int .i64 (nf : Int)), (2, .int .i64 (ny : Int)), (6, .pointer (some ⟨b6, 0, none⟩)), (7, .pointer (some ⟨b7, 0, none⟩)), (8, .int .i64 (sm : Int)), (11, .int .i64 (g.1 : Int))]) (fun g => .row 3 1 g.2.2.2.1 g.2.2.2.2.2.length g.2.2.2.2.1 (ints g.2.2.2.2.2) :: .row 49 4 A1 fs.length c1 (fs.flatMap Flt.cells) :: .blk b7 (.cells [.slice A1 fs.length c1, .int .i64 (kiln : Int), .slice g.2.2.2.1 g.2.2.2.2.2.length g.2.2.2.2.1].toArray 27 (0, 0)) :: .blk b6 (.cells [.slice none 0 0, .int .i64 0, .slice none 0 0].toArray 27 (0, 0)) :: .blk hb (hatO nA nums.length nc (g.2.1) (g.2.2.1)) :: T) (m0, t1 + 1, s4, none, 0, []) ⟨by simp, by simp, by simp, hs4⟩ sbn pkk ?_
  rintro ⟨i, t3, s5, A3, c3, ds⟩ ⟨hjl, hdo, ht3, hs5⟩
  (try dsimp only at hjl hdo ht3 hs5 ⊢)
  refine zD (zD (zB (zF rfl rfl (zJ rfl rfl rfl zAp ?_))))
  refine zA (zC (zS rfl (fun hc1 => ?_) (fun hc1 => ?_)))
  ·obtain ⟨i, rfl⟩ : ∃ i', i = i' + 1 := ⟨i - 1, by omega⟩
   refine zV (zC (zD (jC (xV (G := Option Addr × Nat × Nat × Nat) (fun x => x.2.2.1 < 18446744073709551616 ∧ x.2.2.2 <= 12) (fun x => [(0, .pointer (some ⟨hb, 0, none⟩)), (1, .int .i64 (nf : Int)), (2, .int .i64 (ny : Int)), (6, .pointer (some ⟨b6, 0, none⟩)), (7, .pointer (some ⟨b7, 0, none⟩)), (8, .int .i64 (sm : Int)), (11, .int .i64 ((i + 1 : Nat) : Int))]) (fun x => .row 3 1 x.1 (ds.length + 1) x.2.1 (ints ds ++ [.int .i64 (x.2.2.2 : Int)]) :: .row 49 4 A1 fs.length c1 (fs.flatMap Flt.cells) :: .blk b7 (.cells [.slice A1 fs.length c1, .int .i64 (kiln : Int), .slice x.1 (ds.length + 1) x.2.1].toArray 27 (0, 0)) :: .blk b6 (.cells [.slice none 0 0, .int .i64 0, .slice none 0 0].toArray 27 (0, 0)) :: .blk hb (hatO nA nums.length nc (t3 + 1 + 1 + 1) (x.2.2.1)) :: T) ?_ ?_))))
   ·refine kB [.b b7, .b hb, .r A3] F.follows 17 rfl [false, false, false, false, false, false, false, false, false, false, false, false, false, false, false, false, false] rfl ?_
    refine zG 0 rfl rfl rfl (zO rfl F.fi27_2 F.ti22) ?_
    refine zG 2 rfl rfl rfl (jG rfl) ?_
    refine zG 3 rfl rfl rfl (jG rfl) ?_
    refine zG 4 rfl rfl rfl (jG rfl) ?_
    refine zG 5 rfl rfl rfl (qQ (v := .int .i64 ((sm / 2 : Nat) : Int)) rfl rfl (fun w => zV4 w om (by rw [show ((sm : Int).tdiv 2) = ((sm / 2 : Nat) : Int) from (Int.ofNat_tdiv sm 2).symm]; exact jA _ om om))) ?_
    refine zG 8 rfl rfl rfl (jG rfl) ?_
    refine zG 9 rfl rfl rfl (jG rfl) ?_
    refine qI 1 6 kr rfl rfl rfl rfl ?_ ?_
    ·refine zR rfl rfl F.one22 ?_
     refine zA (anb (an1 6 rfl ?_))
     refine zN6 rfl rfl rfl ?_
     rw [show (if (1 : Int) < ((sm / 2 : Nat) : Int) then ((sm / 2 : Nat) : Int) else 1) = ((max 1 (sm / 2) : Nat) : Int) from by split <;> omega]
     refine zA (anb (an1 7 rfl ?_))
     refine vE rfl rfl rfl hB hN hs5 om om ?_
     rintro s6 y1 hs6 hy1
     refine zA (anb (an1 10 rfl ?_))
     refine vE rfl rfl rfl hB hN hs6 om om ?_
     rintro s7 y2 hs7 hy2
     refine zA (anb (an1 11 rfl ?_))
     refine kF (vs := [(0, _), (1, _), (2, _), (3, _), (4, _)]) rfl rfl Try.underlying22 F.ti3 rfl rfl rfl ?_
     intro b53
     refine zA (anb (an1 12 rfl ?_))
     refine vL [0, 1, 2, y1, y2] rfl rfl rfl hB hN hs7 om (by simp) (by simp) (InB.mem (b := b53)) ?_
     rintro s8 d1 hs8 hd1
     simp only [List.mem_cons, List.not_mem_nil, or_false] at hd1
     have hd12 : d1 <= 12 := by omega
     refine zA (anb (an1 13 rfl ?_))
     refine kF (vs := [(0, _)]) rfl rfl Try.underlying22 F.ti3 rfl rfl rfl ?_
     intro b55
     refine zA (anb (an1 14 rfl ?_))
     refine qB rfl rfl rfl Try.underlying22 F.ti3 rfl rfl rfl (by unfold maxLen; omega) om ?_
     intro A4 c4
     refine zA (anb (zG 15 rfl rfl rfl (zO rfl F.fi27_2 F.ti22) ?_))
     refine an1 16 rfl ?_
     refine zI rfl rfl F.ti22 rfl ?_
     refine zA (anb (adn ?_))
     exact jU (A4, c4, s8, d1) ⟨hs8, hd12⟩ sbn pkk
    ·refine zN6 rfl rfl rfl ?_
     rw [show (if (1 : Int) < ((sm / 2 : Nat) : Int) then ((sm / 2 : Nat) : Int) else 1) = ((max 1 (sm / 2) : Nat) : Int) from by split <;> omega]
     refine zA (anb (qI 1 7 kr rfl rfl rfl rfl ?_ ?_))
     ·refine zR rfl rfl F.one22 ?_
      refine zA (anb (an1 7 rfl ?_))
      refine vE rfl rfl rfl hB hN hs5 om om ?_
      rintro s6 y1 hs6 hy1
      refine zA (anb (an1 10 rfl ?_))
      refine vE rfl rfl rfl hB hN hs6 om om ?_
      rintro s7 y2 hs7 hy2
      refine zA (anb (an1 11 rfl ?_))
      refine kF (vs := [(0, _), (1, _), (2, _), (3, _), (4, _)]) rfl rfl Try.underlying22 F.ti3 rfl rfl rfl ?_
      intro b53
      refine zA (anb (an1 12 rfl ?_))
      refine vL [0, 1, 2, y1, y2] rfl rfl rfl hB hN hs7 om (by simp) (by simp) (InB.mem (b := b53)) ?_
      rintro s8 d1 hs8 hd1
      simp only [List.mem_cons, List.not_mem_nil, or_false] at hd1
      have hd12 : d1 <= 12 := by omega
      refine zA (anb (an1 13 rfl ?_))
      refine kF (vs := [(0, _)]) rfl rfl Try.underlying22 F.ti3 rfl rfl rfl ?_
      intro b55
      refine zA (anb (an1 14 rfl ?_))
      refine qB rfl rfl rfl Try.underlying22 F.ti3 rfl rfl rfl (by unfold maxLen; omega) om ?_
      intro A4 c4
      refine zA (anb (zG 15 rfl rfl rfl (zO rfl F.fi27_2 F.ti22) ?_))
      refine an1 16 rfl ?_
      refine zI rfl rfl F.ti22 rfl ?_
      refine zA (anb (adn ?_))
      exact jU (A4, c4, s8, d1) ⟨hs8, hd12⟩ sbn pkk
     ·refine vE rfl rfl rfl hB hN hs5 om om ?_
      rintro s6 y1 hs6 hy1
      refine zA (anb (qI 1 10 kr rfl rfl rfl rfl ?_ ?_))
      ·refine zR rfl rfl F.one22 ?_
       refine zA (anb (an1 10 rfl ?_))
       refine vE rfl rfl rfl hB hN hs6 om om ?_
       rintro s7 y2 hs7 hy2
       refine zA (anb (an1 11 rfl ?_))
       refine kF (vs := [(0, _), (1, _), (2, _), (3, _), (4, _)]) rfl rfl Try.underlying22 F.ti3 rfl rfl rfl ?_
       intro b53
       refine zA (anb (an1 12 rfl ?_))
       refine vL [0, 1, 2, y1, y2] rfl rfl rfl hB hN hs7 om (by simp) (by simp) (InB.mem (b := b53)) ?_
       rintro s8 d1 hs8 hd1
       simp only [List.mem_cons, List.not_mem_nil, or_false] at hd1
       have hd12 : d1 <= 12 := by omega
       refine zA (anb (an1 13 rfl ?_))
       refine kF (vs := [(0, _)]) rfl rfl Try.underlying22 F.ti3 rfl rfl rfl ?_
       intro b55
       refine zA (anb (an1 14 rfl ?_))
       refine qB rfl rfl rfl Try.underlying22 F.ti3 rfl rfl rfl (by unfold maxLen; omega) om ?_
       intro A4 c4
       refine zA (anb (zG 15 rfl rfl rfl (zO rfl F.fi27_2 F.ti22) ?_))
       refine an1 16 rfl ?_
       refine zI rfl rfl F.ti22 rfl ?_
       refine zA (anb (adn ?_))
       exact jU (A4, c4, s8, d1) ⟨hs8, hd12⟩ sbn pkk
      ·refine vE rfl rfl rfl hB hN hs6 om om ?_
       rintro s7 y2 hs7 hy2
       refine zA (anb (qI 1 11 kr rfl rfl rfl rfl ?_ ?_))
       ·refine zR rfl rfl F.one22 ?_
        refine zA (anb (an1 11 rfl ?_))
        refine kF (vs := [(0, _), (1, _), (2, _), (3, _), (4, _)]) rfl rfl Try.underlying22 F.ti3 rfl rfl rfl ?_
        intro b53
        refine zA (anb (an1 12 rfl ?_))
        refine vL [0, 1, 2, y1, y2] rfl rfl rfl hB hN hs7 om (by simp) (by simp) (InB.mem (b := b53)) ?_
        rintro s8 d1 hs8 hd1
        simp only [List.mem_cons, List.not_mem_nil, or_false] at hd1
        have hd12 : d1 <= 12 := by omega
        refine zA (anb (an1 13 rfl ?_))
        refine kF (vs := [(0, _)]) rfl rfl Try.underlying22 F.ti3 rfl rfl rfl ?_
        intro b55
        refine zA (anb (an1 14 rfl ?_))
        refine qB rfl rfl rfl Try.underlying22 F.ti3 rfl rfl rfl (by unfold maxLen; omega) om ?_
        intro A4 c4
        refine zA (anb (zG 15 rfl rfl rfl (zO rfl F.fi27_2 F.ti22) ?_))
        refine an1 16 rfl ?_
        refine zI rfl rfl F.ti22 rfl ?_
        refine zA (anb (adn ?_))
        exact jU (A4, c4, s8, d1) ⟨hs8, hd12⟩ sbn pkk
       ·refine kF (vs := [(0, _), (1, _), (2, _), (3, _), (4, _)]) rfl rfl Try.underlying22 F.ti3 rfl rfl rfl ?_
        intro b53
        refine zA (anb (qI 1 12 kr rfl rfl rfl rfl ?_ ?_))
        ·refine zR rfl rfl F.one22 ?_
         refine zA (anb (an1 12 rfl ?_))
         refine vL [0, 1, 2, y1, y2] rfl rfl rfl hB hN hs7 om (by simp) (by simp) (InB.mem (b := b53)) ?_
         rintro s8 d1 hs8 hd1
         simp only [List.mem_cons, List.not_mem_nil, or_false] at hd1
         have hd12 : d1 <= 12 := by omega
         refine zA (anb (an1 13 rfl ?_))
         refine kF (vs := [(0, _)]) rfl rfl Try.underlying22 F.ti3 rfl rfl rfl ?_
         intro b55
         refine zA (anb (an1 14 rfl ?_))
         refine qB rfl rfl rfl Try.underlying22 F.ti3 rfl rfl rfl (by unfold maxLen; omega) om ?_
         intro A4 c4
         refine zA (anb (zG 15 rfl rfl rfl (zO rfl F.fi27_2 F.ti22) ?_))
         refine an1 16 rfl ?_
         refine zI rfl rfl F.ti22 rfl ?_
         refine zA (anb (adn ?_))
         exact jU (A4, c4, s8, d1) ⟨hs8, hd12⟩ sbn pkk
        ·refine vL [0, 1, 2, y1, y2] rfl rfl rfl hB hN hs7 om (by simp) (by simp) (InB.mem (b := b53)) ?_
         rintro s8 d1 hs8 hd1
         simp only [List.mem_cons, List.not_mem_nil, or_false] at hd1
         have hd12 : d1 <= 12 := by omega
         refine zA (anb (qI 1 13 kr rfl rfl rfl rfl ?_ ?_))
         ·refine zR rfl rfl F.one22 ?_
          refine zA (anb (an1 13 rfl ?_))
          refine kF (vs := [(0, _)]) rfl rfl Try.underlying22 F.ti3 rfl rfl rfl ?_
          intro b55
          refine zA (anb (an1 14 rfl ?_))
          refine qB rfl rfl rfl Try.underlying22 F.ti3 rfl rfl rfl (by unfold maxLen; omega) om ?_
          intro A4 c4
          refine zA (anb (zG 15 rfl rfl rfl (zO rfl F.fi27_2 F.ti22) ?_))
          refine an1 16 rfl ?_
          refine zI rfl rfl F.ti22 rfl ?_
          refine zA (anb (adn ?_))
          exact jU (A4, c4, s8, d1) ⟨hs8, hd12⟩ sbn pkk
         ·refine kF (vs := [(0, _)]) rfl rfl Try.underlying22 F.ti3 rfl rfl rfl ?_
          intro b55
          refine zA (anb (an1 1 rfl ?_))
          refine zR rfl rfl F.one22 ?_
          refine zA (anb (an1 14 rfl ?_))
          refine qB rfl rfl rfl Try.underlying22 F.ti3 rfl rfl rfl (by unfold maxLen; omega) om ?_
          intro A4 c4
          refine zA (anb (zG 15 rfl rfl rfl (zO rfl F.fi27_2 F.ti22) ?_))
          refine an1 16 rfl ?_
          refine zI rfl rfl F.ti22 rfl ?_
          refine zA (anb (adn ?_))
          exact jU (A4, c4, s8, d1) ⟨hs8, hd12⟩ sbn pkk
   ·rintro ⟨A4, c4, s8, d1⟩ ⟨hs8, hd12⟩
    dsimp only at hs8 hd12 ⊢
    refine zN (zC (zB (zF rfl rfl (zJ rfl rfl rfl (fun w => xG w (show IntKind.i64.wrap (((i + 1 : Nat) : Int) - 1) = (i : Int) from by rw [jA _ om om]; omega)) ?_))))
    refine zE rfl rfl (zA (xU (i, t3 + 1 + 1 + 1, s8, A4, c4, ds ++ [d1]) ⟨by simp; omega, fun y hy => ?_, by simp; omega, hs8⟩ tdo (by dsimp only; (try rw [List.length_append, List.length_singleton]); repeat (first | exact Sub.nil _ | refine Sub.cons rfl ?_)) (by dsimp only; rw [List.length_append, List.length_singleton]; rw [zRy]; repeat (first | exact Pck.nil _ | exact Pck.refl _ | (apply Pck.cons; focus ((repeat (first | exact Rem.here _ | apply Rem.there)); done)) | refine Pck.skip _ ?_))))
    rcases List.mem_append.1 hy with h | h
    ·exact hdo y h
    ·simp at h; subst h; exact hd12
  ·obtain rfl : i = 0 := by omega
   refine kG (zW (zW (jK (zC (zD (zB (jB rfl rfl F.agg27 F.ti27 ?_)))))))
   refine zI rfl rfl F.ti27 rfl ?_
   refine zA (zC (zU ?_))
   exact jH rfl (fun a w ha => by exact qM (ha := ha) rfl rfl F.agg27 F.ti27 rfl) (fun _ _ ha' => ⟨t3, s5, kiln, fs, ds, A1, A3, c1, c3, by omega, hs5, hfl2, by omega, ⟨hfl1, by omega, hlo, by omega, by omega, by omega, hdo⟩, rfl, ha.back (ha'.pck pkk)⟩)

theorem zWq {C : Ctx} {fr : List (Nat × Value)} {T : List Res} {a : Act} {w : World} (hC : C.P = Try.prog) {hb tk st nc : Nat} {nA : Option Addr} {nums : List Int} (hB : C.w0.heap.size = C.B) (hN : RdL icell 1 C.w0 nA nums) (htk : tk <= 700000) (hst : st < 18446744073709551616) (ha : At C fr (.blk hb (hatO nA nums.length nc (tk) (st)) :: T) a w) : Calls C.P 22 #[.pointer (some ⟨hb, 0, none⟩)] w fun e w' => ∃ (tk' st' kiln : Nat) (fs : List Flt) (days : List Nat) (A D : Option Addr) (c dc : Nat), tk' <= tk + 101 ∧ st' < 18446744073709551616 ∧ ChV fs kiln days ∧ e = .returned (.agg [.slice A fs.length c, .int .i64 (kiln : Int), .slice D days.length dc].toArray) ∧ At C fr (.row 49 4 A fs.length c (fs.flatMap Flt.cells) :: .row 3 1 D days.length dc (ints days) :: .blk hb (hatO nA nums.length nc (tk') (st')) :: T) a w' := by
 obtain ⟨P, B, w0, N0, ds⟩ := C
 obtain rfl : P = Try.prog := hC
 (try dsimp only at hB)
 (try dsimp only at hN)
 refine vQ (N := 9) [(0, .pointer (some ⟨hb, 0, none⟩))] ha Try.func22 rfl Try.ntmps22 rfl rfl ?_
 refine zD (zB (zT rfl F.ti27 ?_))
 intro b2
 refine zA (zC (zD (zD (zB (zF rfl rfl (zBt rfl rfl rfl hB hN hst om om om ?_))))))
 rintro s1 sb hs1
 refine zA (zC (kY rfl (fun hc0 => ?_) (fun hc0 => ?_)))
 ·refine zD (zB (zF rfl rfl (zEq (X := Nat × Nat × Nat × List Flt × List Nat × Option Addr × Option Addr × Nat × Nat) (vs := [_, _, _]) hb (fun y => hatO nA nums.length nc y.1 y.2.1) (fun y => [.row 49 4 y.2.2.2.2.2.1 y.2.2.2.1.length y.2.2.2.2.2.2.2.1 (y.2.2.2.1.flatMap Flt.cells), .row 3 1 y.2.2.2.2.2.2.1 y.2.2.2.2.1.length y.2.2.2.2.2.2.2.2 (ints y.2.2.2.2.1)]) (fun y => y.1 <= (tk + 1) + 100 ∧ y.2.1 < 18446744073709551616 ∧ y.2.2.2.1.length <= 3 ∧ y.2.2.2.2.1.length <= 2 ∧ ChV y.2.2.2.1 y.2.2.1 y.2.2.2.2.1) (fun y => .agg [.slice y.2.2.2.2.2.1 y.2.2.2.1.length y.2.2.2.2.2.2.2.1, .int .i64 (y.2.2.1 : Int), .slice y.2.2.2.2.2.2.1 y.2.2.2.2.1.length y.2.2.2.2.2.2.2.2].toArray) rfl rfl F.ent14 (fun a w ha => (zLs (C := ⟨Try.prog, B, w0, _, _⟩) rfl hB hN (tk := (tk + 1)) (st := s1) (nf := 3) (ny := 2) om hs1 om om om om ha).mono (fun e w' h => by obtain ⟨t', s', k', f', d', A', D', c', dc', h1, h2, h3, h4, h5, h6, h7⟩ := h; exact ⟨(t', s', k', f', d', A', D', c', dc'), ⟨h1, h2, h3, h4, h5⟩, h6, h7⟩)) ?_)))
  rintro ⟨t2, s2, kiln, fs, days, A, D, c, dc⟩ ⟨ht2, hs2, hfsl, hdaysl, hfsv⟩
  dsimp only [List.cons_append, List.nil_append] at ht2 hs2 hfsl hdaysl hfsv ⊢
  refine zI rfl rfl F.ti27 rfl ?_
  refine zA (zC (zU (zZ ?_)))
  exact jH rfl (fun a w ha => by exact qM (ha := ha) rfl rfl F.agg27 F.ti27 rfl) (fun _ _ ha' => ⟨t2, s2, kiln, fs, days, A, D, c, dc, by omega, hs2, hfsv, rfl, ha.back (ha'.pck pkk)⟩)
 ·refine zV (zC (zD (zB (zF rfl rfl (zEq (X := Nat × Nat × Nat × List Flt × List Nat × Option Addr × Option Addr × Nat × Nat) (vs := [_, _, _]) hb (fun y => hatO nA nums.length nc y.1 y.2.1) (fun y => [.row 49 4 y.2.2.2.2.2.1 y.2.2.2.1.length y.2.2.2.2.2.2.2.1 (y.2.2.2.1.flatMap Flt.cells), .row 3 1 y.2.2.2.2.2.2.1 y.2.2.2.2.1.length y.2.2.2.2.2.2.2.2 (ints y.2.2.2.2.1)]) (fun y => y.1 <= (tk + 1) + 100 ∧ y.2.1 < 18446744073709551616 ∧ y.2.2.2.1.length <= 2 ∧ y.2.2.2.2.1.length <= 4 ∧ ChV y.2.2.2.1 y.2.2.1 y.2.2.2.2.1) (fun y => .agg [.slice y.2.2.2.2.2.1 y.2.2.2.1.length y.2.2.2.2.2.2.2.1, .int .i64 (y.2.2.1 : Int), .slice y.2.2.2.2.2.2.1 y.2.2.2.2.1.length y.2.2.2.2.2.2.2.2].toArray) rfl rfl F.ent14 (fun a w ha => (zLs (C := ⟨Try.prog, B, w0, _, _⟩) rfl hB hN (tk := (tk + 1)) (st := s1) (nf := 2) (ny := 4) om hs1 om om om om ha).mono (fun e w' h => by obtain ⟨t', s', k', f', d', A', D', c', dc', h1, h2, h3, h4, h5, h6, h7⟩ := h; exact ⟨(t', s', k', f', d', A', D', c', dc'), ⟨h1, h2, h3, h4, h5⟩, h6, h7⟩)) ?_)))))
  rintro ⟨t2, s2, kiln, fs, days, A, D, c, dc⟩ ⟨ht2, hs2, hfsl, hdaysl, hfsv⟩
  dsimp only [List.cons_append, List.nil_append] at ht2 hs2 hfsl hdaysl hfsv ⊢
  refine zI rfl rfl F.ti27 rfl ?_
  refine zA (zC (zU ?_))
  exact jH rfl (fun a w ha => by exact qM (ha := ha) rfl rfl F.agg27 F.ti27 rfl) (fun _ _ ha' => ⟨t2, s2, kiln, fs, days, A, D, c, dc, by omega, hs2, hfsv, rfl, ha.back (ha'.pck pkk)⟩)

variable {C : Ctx} {fr : List (Nat × Value)} {hp : List Res} {ops : Array Oper} {Q : Exit -> Act -> World -> Prop} {rest : List Oper} {d : Nat} {ty : TypeId} {pos : String} {after : Array Edge}
theorem zC3 {α : Type} {cells : α -> List Value} {size : Nat} (hs : ∀ x, (cells x).length = size) (l : List α) : (l.flatMap cells).length = l.length * size := by
 induction l with
 | nil => simp
 | cons x l ih => rw [List.flatMap_cons, List.length_append, hs, ih, List.length_cons, Nat.succ_mul]; omega
theorem RdL.cells_at {α : Type} {cells : α -> List Value} {size : Nat} (hs : ∀ x, (cells x).length = size) (h0 : 0 < size) {w : World} {p : Addr} {l : List α} (h : RdL cells size w (some p) l) {j : Nat} {u : Value} (hu : (l.flatMap cells)[j]? = some u) : w.cell? (p.add j) = some u := by
 have hj : j < l.length * size := by
  rw [<- zC3 hs]
  rcases Nat.lt_or_ge j (l.flatMap cells).length with h1 | h1
  ·exact h1
  ·rw [List.getElem?_eq_none h1] at hu; cases hu
 have hk : j / size < l.length := Nat.div_lt_of_lt_mul (by rw [Nat.mul_comm]; exact hj)
 obtain ⟨b, o, h1, _, h3⟩ := h (Nat.lt_of_le_of_lt (Nat.zero_le _) hk)
 cases h1
 have hd := Nat.div_add_mod j size
 rw [Nat.mul_comm] at hd
 have hm : j % size < size := Nat.mod_lt _ h0
 have hx : l[j / size]? = some l[j / size] := List.getElem?_eq_getElem hk
 have hjs : j % size < (cells l[j / size]).length := by rw [hs]; exact hm
 have hc : (cells l[j / size])[j % size]? = some (cells l[j / size])[j % size] := List.getElem?_eq_getElem hjs
 have h4 := zC2 hs l _ _ hx _ _ hc
 rw [hd, hu] at h4
 have h5 := h3 _ _ hx _ _ hc
 rw [qX]
 rw [Nat.add_assoc, hd] at h5
 rw [h5]
 exact h4.symm
theorem zCg {α : Type} {cells : α -> List Value} {x y : Operand} {t e : TypeId} {A : Option Addr} {p : Addr} {n c m cb size bytes : Nat} {xs : List Value} {l : List α} {z : Value} {hp' : Option Addr -> Nat -> List Res} (hd : Nat.blt d C.N = true)
  (hx : ev fr x = some (.slice A n c)) (hy : ev fr y = some (.slice (some p) m cb)) (ht : C.P.underlying t = some (.slice e)) (hi : TI C.P e z size bytes) (hzs : z.cells.size = size) (hs0 : Nat.blt 0 size = true) (hs : ∀ x, (cells x).length = size) (ho1 : ∀ x, ∀ u ∈ cells x, u.oneCell' = true)
  (hnews : ∀ a w, At C fr hp a w -> RdL cells size w (some p) l) (hl : l.length = m) [hr : InR A e size n c xs hp] [hu : ∀ A' c', UpR A e size n c xs (.row e size A' (n + m) c' (xs ++ l.flatMap cells)) hp (hp' A' c')]
  (h63 : n + m <= maxLen) (hbytes : (n + m) * bytes <= 140737488355328)
  (k : ∀ A' c', Lst C ops Q rest ((d, .slice A' (n + m) c') :: fr) (hp' A' c')) :
  Lst C ops Q (⟨some d, .call { callee := .builtin .append, args := #[x, y], argTypes := #[t, t] }, ty, pos, after, none⟩ :: rest) fr hp := by
 have ho : ∀ u ∈ l.flatMap cells, u.oneCell' = true := by
  intro u hu'
  obtain ⟨x, _, hx⟩ := List.mem_flatMap.1 hu'
  exact ho1 x u hx
 have hi' := hi
 obtain ⟨i, hi1, hi2, hi3, hi4⟩ := hi'
 have h0 := kA hs0
 subst hi4
 refine zEr hd hx hy ht hi hzs hs0 (fun a w ha j u hu => (hnews a w ha).cells_at hs h0 hu) (by rw [zC3 hs, hl]) ho (fun w v' w' hown hn hrun => ?_) h63 hbytes k
 exact zCb ht hi1 hi2 (hi3 ▸ hown) (by rw [zC3 hs, hi3, hl]) hn ho h63 hbytes hrun
end Go.Proofs.Yteppiphdbondeaa.N
namespace Go.Proofs.Yteppiphdbondeaa.N
open Go Go.RowKit Go.Proofs
set_option linter.unusedSectionVars false
theorem zFf {a b c d e f : Nat} (h1 : cless a b c d = false) (h2 : cless c d e f = false) : cless a b e f = false := by
 unfold cless at *
 simp only [decide_eq_false_iff_not, not_or, not_and] at *
 omega
theorem zEg (a b : Nat) : cless a b a b = false := by
 unfold cless
 simp
theorem zWv {a b c d : Nat} (h : cless a b c d = true) : cless c d a b = false := by
 unfold cless at *
 simp only [decide_eq_true_eq, decide_eq_false_iff_not, not_or, not_and] at *
 omega
theorem zUk {a b c d x y : Nat} : cless (a + x) (b + y) (c + x) (d + y) = cless a b c d := by
 unfold cless
 rw [decide_eq_decide]
 omega
theorem zIz (o x : Oc) : (lst2 o x).is = (o.is || x.is) := by
 unfold lst2 oless
 cases ho : o.is <;> cases hx : x.is <;> simp [ho, hx] <;> split <;> simp_all
theorem zPl (o x : Oc) : lst2 o x = o ∨ lst2 o x = x ∧ x.is = true := by
 unfold lst2
 split
 ·rename_i h
  unfold oless at h
  exact .inr ⟨rfl, by simp at h; exact h.1⟩
 ·exact .inl rfl
theorem zT0 {o x : Oc} (h : o.is = true) : cless o.f o.w (lst2 o x).f (lst2 o x).w = false := by
 unfold lst2
 split
 ·rename_i h2
  unfold oless at h2
  simp [h] at h2
  exact zWv h2.2
 ·exact zEg ..
theorem zTm {o x : Oc} (h : x.is = true) : cless x.f x.w (lst2 o x).f (lst2 o x).w = false := by
 unfold lst2
 split
 ·exact zEg ..
 ·rename_i h2
  unfold oless at h2
  simp [h] at h2
  exact h2.2
theorem zOf (g : List Nat -> Oc) : ∀ (ls : List (List Nat)) (o : Oc), (ls.foldl (fun o l => lst2 o (g l)) o).is = (o.is || ls.any fun l => (g l).is)
 | [], o => by simp
 | l :: ls, o => by rw [List.foldl_cons, zOf g ls, zIz, List.any_cons, Bool.or_assoc]
theorem zJs (g : List Nat -> Oc) : ∀ (ls : List (List Nat)) (o : Oc), ls.foldl (fun o l => lst2 o (g l)) o = o ∨ ∃ l ∈ ls, (g l).is = true ∧ ls.foldl (fun o l => lst2 o (g l)) o = g l
 | [], o => .inl rfl
 | l :: ls, o => by
  rw [List.foldl_cons]
  rcases zJs g ls (lst2 o (g l)) with h | ⟨x, hx, h1, h2⟩
  ·rw [h]
   rcases zPl o (g l) with h | ⟨h, h3⟩
   ·exact .inl h
   ·exact .inr ⟨l, by simp, h3, h⟩
  ·exact .inr ⟨x, by simp [hx], h1, h2⟩
theorem zL4 (g : List Nat -> Oc) : ∀ (ls : List (List Nat)) (o : Oc), o.is = true -> cless o.f o.w (ls.foldl (fun o l => lst2 o (g l)) o).f (ls.foldl (fun o l => lst2 o (g l)) o).w = false
 | [], o, _ => zEg ..
 | l :: ls, o, h => zFf (zT0 h) (zL4 g ls (lst2 o (g l)) (by rw [zIz, h]; rfl))
theorem zLv (g : List Nat -> Oc) : ∀ (ls : List (List Nat)) (o : Oc) (l : List Nat), l ∈ ls -> (g l).is = true -> cless (g l).f (g l).w (ls.foldl (fun o l => lst2 o (g l)) o).f (ls.foldl (fun o l => lst2 o (g l)) o).w = false
 | l :: ls, o, x, hx, h => by
  rw [List.foldl_cons]
  rcases List.mem_cons.1 hx with rfl | hx
  ·exact zFf (zTm h) (zL4 g ls _ (by rw [zIz, h]; simp))
  ·exact zLv g ls _ x hx h
section
variable (alw : Nat -> List Nat -> Bool) (las : Mor -> Bool) (fs : List Flt) (kiln : Nat) (days : List Nat)
inductive Pth : Nat -> Mor -> List (List Nat) -> Nat -> Nat -> Prop
 | last {m : Mor} : las m = true -> Pth 0 m [] 0 0
 | day {n : Nat} {m m1 : Mor} {acts : List Nat} {p : List (List Nat)} {f w : Nat} : acts ∈ exts [] fs.length -> alw (days.length - (n + 1)) acts = true -> dayE fs kiln m acts (days.getD (days.length - (n + 1)) 0) = (0, m1) -> Pth n m1 p f w -> Pth (n + 1) m (acts :: p) (f + spF acts) (w + spW acts)
end
section
variable {alw : Nat -> List Nat -> Bool} {las : Mor -> Bool} {fs : List Flt} {kiln : Nat} {days : List Nat}
theorem zUe {rec : Mor -> Oc} {d : Nat} {m : Mor} {l : List Nat} (h : (stpO alw fs kiln days rec d m l).is = true) :
  alw d l = true ∧ ∃ m1, dayE fs kiln m l (days.getD d 0) = (0, m1) ∧ (rec m1).is = true ∧ stpO alw fs kiln days rec d m l = ⟨(rec m1).f + spF l, (rec m1).w + spW l, true⟩ := by
 unfold stpO at h ⊢
 split at h
 ·cases h
 ·rename_i h1
  split at h
  ·cases h
  ·rename_i h2
   rw [if_neg h1, if_neg h2]
   refine ⟨by simpa using h1, _, Prod.ext (by simpa using h2) rfl, h, ?_⟩
   dsimp only at h
   rw [h]
theorem zVe {rec : Mor -> Oc} {d : Nat} {m m1 : Mor} {l : List Nat} (h1 : alw d l = true) (h2 : dayE fs kiln m l (days.getD d 0) = (0, m1)) : stpO alw fs kiln days rec d m l = ⟨(rec m1).f + spF l, (rec m1).w + spW l, (rec m1).is⟩ := by
 unfold stpO
 rw [if_neg (by simp [h1]), if_neg (by rw [h2]; simp), h2]
theorem zLu : ∀ (n : Nat) (m : Mor), (bstO alw las fs kiln days n m).is = true -> ∃ p, Pth alw las fs kiln days n m p (bstO alw las fs kiln days n m).f (bstO alw las fs kiln days n m).w
 | 0, m, h => ⟨[], .last h⟩
 | n + 1, m, h => by
  rcases zJs (fun l => stpO alw fs kiln days (bstO alw las fs kiln days n) (days.length - (n + 1)) m l) (exts [] fs.length) noOc with e | ⟨l, hl, h1, e⟩
  ·have e' : bstO alw las fs kiln days (n + 1) m = noOc := e
   rw [e'] at h
   cases h
  ·have e' : bstO alw las fs kiln days (n + 1) m = stpO alw fs kiln days (bstO alw las fs kiln days n) (days.length - (n + 1)) m l := e
   obtain ⟨h2, m1, h3, h4, h5⟩ := zUe h1
   rw [e', h5]
   obtain ⟨p, hp⟩ := zLu n m1 h4
   exact ⟨l :: p, .day hl h2 h3 hp⟩
theorem zRf {n : Nat} {m : Mor} {p : List (List Nat)} {f w : Nat} (h : Pth alw las fs kiln days n m p f w) : (bstO alw las fs kiln days n m).is = true ∧ cless f w (bstO alw las fs kiln days n m).f (bstO alw las fs kiln days n m).w = false := by
 induction h with
 | last h => exact ⟨h, zEg ..⟩
 | @day n m m1 acts p f w h1 h2 h3 h4 ih =>
  obtain ⟨i1, i2⟩ := ih
  have e := zVe (rec := bstO alw las fs kiln days n) h2 h3
  have his : (stpO alw fs kiln days (bstO alw las fs kiln days n) (days.length - (n + 1)) m acts).is = true := by rw [e]; exact i1
  constructor
  ·show ((exts [] fs.length).foldl (fun o l => lst2 o (stpO alw fs kiln days (bstO alw las fs kiln days n) (days.length - (n + 1)) m l)) noOc).is = true
   rw [zOf, List.any_eq_true.2 ⟨acts, h1, his⟩, Bool.or_true]
  ·refine zFf ?_ (zLv (fun l => stpO alw fs kiln days (bstO alw las fs kiln days n) (days.length - (n + 1)) m l) (exts [] fs.length) noOc acts h1 his)
   rw [e]
   dsimp only
   rw [zUk]
   exact i2
end
theorem Grew.less {w w' : World} {rs : List Res} (h : Grew w w' rs) : Grew w w' [] := ⟨h.1, fun _ h => by simp at h, by simp⟩
theorem zF7 (x : Flt) : x.cells.length = 4 := rfl
theorem zUy (x : Flt) : ∀ u ∈ x.cells, u.oneCell' = true := by
 intro u hu
 simp [Flt.cells] at hu
 rcases hu with h | h | h | h <;> subst h <;> simp [Value.oneCell']
theorem zX8 (x : Nat) : ∀ u ∈ ncell x, u.oneCell' = true := by
 intro u hu
 simp [ncell] at hu
 subst hu
 simp [Value.oneCell']
def oF (o : Oc) : Nat := if o.is then o.f else 0
def oE (o : Oc) : Nat := if o.is then 0 else 11
section
variable [I : Sys] {C : Ctx} {fr : List (Nat × Value)} {hp : List Res} {a : Act} {w : World}
theorem yS (ha : At C fr hp a w) {A : Option Addr} {c n : Nat} {l : List Nat} [hr : InR A 3 1 n c (ints l) hp] (hn : n = l.length) : RdL ncell 1 w A l :=
 qZ ha (cells := ncell) (size := 1) (e := 3) (c := c) (n := n) (l := l) (fun _ => rfl) (by rw [<- zJ3]; exact hr.mem) hn
theorem yD (ha : At C fr hp a w) {A : Option Addr} {c n : Nat} {l : List Flt} [hr : InR A 49 4 n c (l.flatMap Flt.cells) hp] (hn : n = l.length) : RdL Flt.cells 4 w A l :=
 qZ ha (cells := Flt.cells) (size := 4) (e := 49) (c := c) (n := n) (l := l) (fun _ => rfl) hr.mem hn
theorem zBh {fA dA : Option Addr} {fc dc kiln : Nat} {fs : List Flt} {days : List Nat} (hc : ChV fs kiln days) (w : World) (hF : RdL Flt.cells 4 w fA fs) (hD : RdL ncell 1 w dA days) :
  Calls Try.prog 15 #[.agg (CA fA fs.length fc kiln dA days.length dc).toArray] w fun e w' => ∃ (oA : Option Addr) (on oc : Nat), e = .returned (.tuple #[.slice oA on oc, .int .i64 ((oF (bstA fs kiln days) : Nat) : Int), .int .i64 ((oE (bstA fs kiln days) : Nat) : Int)]) ∧ Grew w w' [] := by
 refine (zLc hc w hF hD).mono ?_
 rintro e w' ⟨oA, oc, mr, hcase, hg⟩
 rcases hcase with ⟨h1, _, h3⟩ | ⟨h1, _, h3⟩
 ·exact ⟨oA, mr.length, oc, by rw [h3]; simp [oF, oE, h1], hg.less⟩
 ·exact ⟨none, 0, 0, by rw [h3]; simp [oF, oE, h1], hg.less⟩
end
end Go.Proofs.Yteppiphdbondeaa.N
namespace Go.Proofs.Yteppiphdbondeaa.N
open Go Go.RowKit Go.Proofs
set_option linter.unusedSectionVars false
variable [I : Sys]
theorem F.ent57 : Enters Try.prog 57 := jD Try.func57 rfl (by kernel_rfl)
theorem zQw {α : Type} {cells : α -> List Value} (hs : ∀ x, (cells x).length = 1) (ho : ∀ x, ∀ u ∈ cells x, u.oneCell' = true) (p : Addr) (c : Nat) (l : List α) (hl : l.length <= 400000) (w : World) (hA : RdL cells 1 w (some p) l) : Calls Try.prog 57 #[.slice (some p) l.length c] w fun e w' => ∃ A' c', e = .returned (.slice A' l.length c') ∧ Grew w w' [.row 3 1 A' l.length c' (l.flatMap cells)] := by
 refine enter (N := 6) [(0, .slice (some p) l.length c)] Try.func57 rfl Try.ntmps57 rfl rfl ?_
 refine zD (zB (zE rfl rfl (zA (zC (zD (zB (zG2 rfl Try.underlying22 F.ti3 ?_)))))))
 intro b3
 refine zEh 1 (.head _) ?_
 refine zF rfl rfl (zCg (cells := cells) rfl rfl rfl Try.underlying22 F.ti3 rfl rfl hs ho (fun a w ha => hA.later ha.below) rfl (by unfold maxLen; omega) om ?_)
 intro A1 c1
 refine zE rfl rfl (zA (zC (zU ?_)))
 simp only [Nat.zero_add, List.nil_append]
 exact jH rfl (fun a w ha => jO rfl rfl ha) (fun a w ha => ⟨A1, c1, rfl, ha.grown sbl⟩)

theorem zR2 {α β : Type} {cf : α -> List Value} {cd : β -> List Value} (hs4 : ∀ x, (cf x).length = 4) (ho4 : ∀ x, ∀ u ∈ cf x, u.oneCell' = true) (hs1 : ∀ x, (cd x).length = 1) (ho1 : ∀ x, ∀ u ∈ cd x, u.oneCell' = true) (fp dp : Addr) (fc dc : Nat) (kz : Int) (fs : List α) (days : List β) (hfl : fs.length <= 400000) (hdl : days.length <= 400000) (w : World) (hF : RdL cf 4 w (some fp) fs) (hD : RdL cd 1 w (some dp) days) : Calls Try.prog 24 #[.agg [.slice (some fp) fs.length fc, .int .i64 kz, .slice (some dp) days.length dc].toArray] w fun e w' => ∃ A c D dc', e = .returned (.agg [.slice A fs.length c, .int .i64 kz, .slice D days.length dc'].toArray) ∧ Grew w w' [.row 49 4 A fs.length c (fs.flatMap cf), .row 3 1 D days.length dc' (days.flatMap cd)] := by
 refine enter (N := 13) [(0, .agg [.slice (some fp) fs.length fc, .int .i64 kz, .slice (some dp) days.length dc].toArray)] Try.func24 rfl Try.ntmps24 rfl rfl ?_
 refine zD (zB (jT rfl rfl ?_))
 intro b1
 refine zT rfl F.ti27 ?_
 intro b2
 refine zA (zC (zD (kB [.b b2] F.follows 11 rfl [false, false, false, false, false, false, false, false, false, false, false] rfl ?_)))
 refine zG 1 rfl rfl rfl (zO rfl F.fi27_0 F.ti25) ?_
 refine zG 2 rfl rfl rfl (jN rfl F.one25) ?_
 refine zG 4 rfl rfl rfl (zO rfl F.fi27_1 F.ti3) ?_
 refine zG 5 rfl rfl rfl (jN rfl F.one3) ?_
 refine zG 6 rfl rfl rfl (zO rfl F.fi27_2 F.ti22) ?_
 refine zG 7 rfl rfl rfl (jN rfl F.one22) ?_
 refine an1 0 rfl ?_
 refine zG2 rfl Try.underlying25 F.ti49 ?_
 intro b3
 refine zEh 4 (.head _) ?_
 refine zA (anb (an1 3 rfl ?_))
 refine zCg (cells := cf) rfl rfl rfl Try.underlying25 F.ti49 rfl rfl hs4 ho4 (fun a w ha => hF.later ha.below) rfl (by unfold maxLen; omega) om ?_
 intro A2 c2
 simp only [Nat.zero_add, List.nil_append]
 refine zA (anb (an1 8 rfl ?_))
 refine kP (X := Option Addr × Nat) (vs := [_]) (p := fun _ => True) (val := fun y => .slice y.1 days.length y.2) (rs := fun y => [.row 3 1 y.1 days.length y.2 (days.flatMap cd)]) rfl rfl F.ent57 (fun a w ha => (zQw hs1 ho1 dp dc days hdl w (hD.later ha.below)).mono (fun e w' h => by obtain ⟨A', c', h1, h2⟩ := h; exact ⟨(A', c'), trivial, h1, h2⟩)) ?_
 rintro ⟨A3, c3⟩ -
 dsimp only [List.cons_append, List.nil_append]
 refine zA (anb (zG 9 rfl rfl rfl (xK (vs := [(0, _), (1, _), (2, _)]) (l' := [_, _, _]) rfl F.ti27 F.pl27 (.cons rfl rfl (.cons rfl rfl (.cons rfl rfl (.nil _)))) rfl) ?_))
 refine an1 10 rfl ?_
 refine zI rfl rfl F.ti27 rfl ?_
 refine zA (anb (adn (zC (zU ?_))))
 exact jH rfl (fun a w ha => by exact qM (ha := ha) rfl rfl F.agg27 F.ti27 rfl) (fun a w ha => ⟨A2, c2, A3, c3, rfl, (ha.pck pkk).grown (List.Sublist.refl _)⟩)

theorem zCi {fA dA : Option Addr} {fc dc kiln : Nat} {fs : List Flt} {days : List Nat} (hf1 : 1 <= fs.length) (hf3 : fs.length <= 1000) (hd1 : 1 <= days.length) (hd4 : days.length <= 1000) (w : World) (hF : RdL Flt.cells 4 w fA fs) (hD : RdL ncell 1 w dA days) :
  Calls Try.prog 24 #[.agg (CA fA fs.length fc kiln dA days.length dc).toArray] w fun e w' => ∃ A c D dc', e = .returned (.agg [.slice A fs.length c, .int .i64 (kiln : Int), .slice D days.length dc'].toArray) ∧ Grew w w' [.row 49 4 A fs.length c (fs.flatMap Flt.cells), .row 3 1 D days.length dc' (ints days)] := by
 obtain ⟨fb, fo, rfl, _, _⟩ := hF om
 obtain ⟨db, d_o, rfl, _, _⟩ := hD om
 have h := zR2 zF7 zUy (fun _ => rfl) zX8 ⟨fb, fo, none⟩ ⟨db, d_o, none⟩ fc dc (kiln : Int) fs days om om w hF hD
 rw [<- zJ3] at h
 exact h

theorem F.ent13 : Enters Try.prog 13 := jD Try.func13 rfl (by kernel_rfl)
theorem F.ent20 : Enters Try.prog 20 := jD Try.func20 rfl (by kernel_rfl)
theorem F.ent22 : Enters Try.prog 22 := jD Try.func22 rfl (by kernel_rfl)
theorem F.ent24 : Enters Try.prog 24 := jD Try.func24 rfl (by kernel_rfl)
end Go.Proofs.Yteppiphdbondeaa.N
namespace Go.Proofs.Yteppiphdbondeaa.N
open Go Go.RowKit Go.Proofs
set_option linter.unusedSectionVars false
theorem zSc (l : List Nat) (j v : Nat) : (ints l).set j (.int .i64 (v : Int)) = ints (l.set j v) := by
 unfold ints
 rw [List.map_set]
section
variable [I : Sys] {C : Ctx} {fr : List (Nat × Value)} {hp hp' : List Res} {a : Act} {w : World} {ops : Array Oper} {Q : Exit -> Act -> World -> Prop} {rest : List Oper} {d : Nat} {ty : TypeId} {pos : String} {after : Array Edge}
theorem wT {x y : Operand} {t e : TypeId} {A : Option Addr} {g o size n c m : Nat} {xs : List Value} (xs' : List Value) {v z : Value} (hx : ev fr x = some (.pointer (some ⟨g, o, none⟩))) (hy : ev fr y = some v) (hi : TI C.P t z 1 m) [hc : Cells v [v]]
  (hA : A = some ⟨g, 0, none⟩) (ho : o < xs.length) (hxs : xs.set o v = xs') [hr : InR A e size n c xs hp] [hu : UpR A e size n c xs (.row e size A n c xs') hp hp']
  (k : Lst C ops Q rest fr hp') : Lst C ops Q (⟨none, .store t x y, ty, pos, after, none⟩ :: rest) fr hp := by
 obtain ⟨i, hi, _, hsz, _⟩ := hi
 refine zD4 (fun _ _ _ => zCe ..) (fun a w ha => ?_) k
 have hown := ha.own _ hr.mem
 obtain ⟨hlen, hcase⟩ := hown
 rcases hcase with ⟨h1, _⟩ | ⟨g', cap, cur, hv, hB, hheap, hle, hmax, hcs, htake⟩
 ·injection h1 with e1
  rw [hA] at e1
  cases e1
 ·injection hv with e1 e2 e3
  rw [hA] at e1
  injection e1 with e1
  injection e1 with e1
  subst e1; subst e3
  have hlen' : o < cur.toList.length := by
   have h9 : n * size <= c * size := Nat.mul_le_mul_right _ hle
   simp only [Array.length_toList]
   omega
  have hs : Splice cur.toList o [v] (cur.toList.set o v) := ⟨by rw [List.set_eq_take_append_cons_drop, if_pos hlen', List.append_assoc]; rfl, by simp at hlen' ⊢; omega⟩
  obtain ⟨w', h1, h2, h3⟩ := zEc hs (by simpa using hheap) hc.one C.P
  refine ⟨w', ?_, ha.turn hu.upd (by rw [hA]; exact h3) ⟨by rw [<- hxs, List.length_set]; exact hlen, .inr ⟨g, c, (cur.toList.set o v).toArray, by rw [hA], hB, h2, hle, hmax, by simp [hcs], ?_⟩⟩ (fun k hk => .inl hk)⟩
  ·simp [execOp, ha.eval hx, ha.eval hy, Instr.storeAt, Instr.sureAddr, storeVar, sizeOf, typeInfo, hi, hc.eq, hsz, h1]
  ·rw [<- hxs, <- htake, List.take_set]
theorem zB0 {l : List Oper} (A : Option Addr) {e size n c : Nat} {xs : List Value} [hr : InR A e size n c xs hp] (hn : 0 < n) (k : ∀ g, A = some ⟨g, 0, none⟩ -> Lst C ops Q l fr hp) : Lst C ops Q l fr hp := fun a w ha => by
 obtain ⟨g, hg⟩ := zCa (ha.own _ hr.mem) hn
 exact k g hg a w ha
end
theorem ChV.set {fs : List Flt} {kiln d n : Nat} {days : List Nat} (h : ChV fs kiln days) (hn : n <= 12) : ChV fs kiln (days.set d n) :=
 ⟨h.f1, h.f3, h.ff, h.k3, by rw [List.length_set]; exact h.d1, by rw [List.length_set]; exact h.d4, fun x hx => (List.mem_or_eq_of_mem_set hx).elim (h.dd x) fun e => e ▸ hn⟩
structure Dom (m x : Mor) : Prop where
 s : ∀ i, x.s.getD i 0 <= m.s.getD i 0
 w : ∀ i, m.w.testBit i = true -> x.w.testBit i = true
structure FDom (fs gs : List Flt) : Prop where
 len : gs.length = fs.length
 each : ∀ i, (gs.getD i default).power = (fs.getD i default).power ∧ (gs.getD i default).gain <= (fs.getD i default).gain
theorem Dom.refl (m : Mor) : Dom m m := ⟨fun _ => Nat.le_refl _, fun _ h => h⟩
theorem FDom.refl (fs : List Flt) : FDom fs fs := ⟨rfl, fun _ => ⟨rfl, Nat.le_refl _⟩⟩
theorem zG7 (l : List Nat) (i j v : Nat) : (l.set i v).getD j 0 = if i = j ∧ i < l.length then v else l.getD j 0 := by
 rw [List.getD_eq_getElem?_getD, List.getD_eq_getElem?_getD, List.getElem?_set]
 by_cases h : i = j
 ·subst h
  by_cases h2 : i < l.length
  ·simp [h2]
  ·simp [h2]
 ·simp [h]
theorem zRt {fs gs : List Flt} (hF : FDom fs gs) {m x : Mor} (hm : Dom m x) {a b : Nat × Mor} (h1 : a.1 <= b.1) (h2 : Dom a.2 b.2) (h3 : a.2.s.length = 3) (h4 : b.2.s.length = 3) (i kind : Nat) :
  (dStep fs m a i kind).1 <= (dStep gs x b i kind).1 ∧ Dom (dStep fs m a i kind).2 (dStep gs x b i kind).2 ∧ (dStep fs m a i kind).2.s.length = 3 ∧ (dStep gs x b i kind).2.s.length = 3 := by
 have hs := hm.s i
 obtain ⟨hp, hg⟩ := hF.each i
 rw [zCy, zCy]
 refine ⟨?_, ⟨fun j => ?_, fun j => ?_⟩, by simp [h3], by simp [h4]⟩
 ·unfold actOf
  dsimp only
  split
  ·dsimp only; omega
  ·split
   ·exact h1
   ·split <;> exact h1
 ·dsimp only
  rw [zG7, zG7, h3, h4]
  split
  ·unfold aftOf
   rw [hp]
   split
   ·omega
   ·split
    ·omega
    ·split <;> omega
  ·exact h2.s j
 ·dsimp only
  split
  ·unfold wWith
   rw [Nat.testBit_or, Nat.testBit_or, Bool.or_eq_true, Bool.or_eq_true]
   exact fun h => h.imp (h2.w j) id
  ·split
   ·unfold wOut
    rw [Nat.testBit_and, Nat.testBit_and, Bool.and_eq_true, Bool.and_eq_true]
    exact fun h => ⟨h2.w j h.1, h.2⟩
   ·exact h2.w j
theorem zMq {fs gs : List Flt} (hF : FDom fs gs) {m x : Mor} (hm : Dom m x) (h3 : m.s.length = 3) (h4 : x.s.length = 3) {acts : List Nat} {s t : Nat} (hs : s <= t) : ∀ k, (dRun fs m acts s k).1 <= (dRun gs x acts t k).1 ∧ Dom (dRun fs m acts s k).2 (dRun gs x acts t k).2 ∧ (dRun fs m acts s k).2.s.length = 3 ∧ (dRun gs x acts t k).2.s.length = 3
 | 0 => ⟨hs, hm, h3, h4⟩
 | k + 1 => by
  obtain ⟨i1, i2, i3, i4⟩ := zMq hF hm h3 h4 hs k
  rw [zCz, zCz]
  exact zRt hF hm i1 i2 i3 i4 k _
theorem zYy {fs : List Flt} {kiln : Nat} {m m1 : Mor} {acts : List Nat} {s : Nat} : dayE fs kiln m acts s = (0, m1) ↔ barred m acts acts.length = false ∧ firesN acts acts.length <= kiln ∧ (dRun fs m acts s acts.length).1 = 0 ∧ m1 = (dRun fs m acts s acts.length).2 := by
 unfold dayE
 by_cases h1 : barred m acts acts.length = true
 ·rw [if_pos h1]; simp [h1]
 ·rw [if_neg h1]
  by_cases h2 : kiln < firesN acts acts.length
  ·rw [if_pos h2]; simp; omega
  ·rw [if_neg h2]
   by_cases h3 : 0 < (dRun fs m acts s acts.length).1
   ·rw [if_pos h3]; simp; omega
   ·rw [if_neg h3]
    simp only [Prod.mk.injEq, true_and]
    constructor
    ·rintro rfl; exact ⟨by simpa using h1, by omega, by omega, rfl⟩
    ·rintro ⟨_, _, _, rfl⟩; rfl
theorem zR4 {fs gs : List Flt} (hF : FDom fs gs) {m x x1 : Mor} (hm : Dom m x) (h3 : m.s.length = 3) (h4 : x.s.length = 3) {acts : List Nat} {s t kiln kiln' : Nat} (hs : s <= t) (hk : kiln' <= kiln) (h : dayE gs kiln' x acts t = (0, x1)) :
  ∃ m1, dayE fs kiln m acts s = (0, m1) ∧ Dom m1 x1 ∧ m1.s.length = 3 ∧ x1.s.length = 3 := by
 obtain ⟨a1, a2, a3, rfl⟩ := zYy.1 h
 obtain ⟨b1, b2, b3, b4⟩ := zMq hF hm h3 h4 (acts := acts) hs acts.length
 refine ⟨_, zYy.2 ⟨?_, by omega, by omega, rfl⟩, b2, b3, b4⟩
 cases hb : barred m acts acts.length with
 | false => rfl
 | true =>
  unfold barred at hb a1
  obtain ⟨i, hi, h5⟩ := List.any_eq_true.1 hb
  rw [Bool.and_eq_true] at h5
  have := List.any_eq_false.1 a1 i hi
  rw [Bool.and_eq_true] at this
  exact absurd ⟨h5.1, hm.w i h5.2⟩ this
def DDom (days gays : List Nat) : Prop := gays.length = days.length ∧ ∀ i, days.getD i 0 <= gays.getD i 0
theorem zVc {alw : Nat -> List Nat -> Bool} {fs gs : List Flt} (hF : FDom fs gs) {kiln kiln' : Nat} {days gays : List Nat} (hk : kiln' <= kiln) (hd : DDom days gays) {n : Nat} {m x : Mor} {p : List (List Nat)} {f w : Nat} (hm : Dom m x) (h3 : m.s.length = 3) (h4 : x.s.length = 3)
  (h : Pth alw (fun _ => true) gs kiln' gays n x p f w) : Pth alw (fun _ => true) fs kiln days n m p f w := by
 induction h generalizing m with
 | last _ => exact .last rfl
 | @day n x x1 acts p f w h1 h2 h5 _ ih =>
  obtain ⟨hl, hdd⟩ := hd
  rw [hl] at h2 h5
  obtain ⟨m1, a1, a2, a3, a4⟩ := zR4 hF hm h3 h4 (hdd _) hk h5
  rw [hF.len] at h1
  exact .day h1 h2 a1 (ih a2 a3 a4)
theorem zK1 {fs gs : List Flt} (hF : FDom fs gs) {kiln kiln' : Nat} {days gays : List Nat} (hk : kiln' <= kiln) (hd : DDom days gays) (hm : Dom (start fs) (start gs)) (h3 : (start fs).s.length = 3) (h4 : (start gs).s.length = 3) (h : (bstA gs kiln' gays).is = true) :
  (bstA fs kiln days).is = true ∧ (bstA fs kiln days).f <= (bstA gs kiln' gays).f := by
 obtain ⟨p, hp⟩ := zLu _ _ h
 have hp' := zVc hF hk hd hm h3 h4 hp
 rw [hd.1] at hp'
 obtain ⟨h5, h6⟩ := zRf hp'
 refine ⟨h5, ?_⟩
 unfold bstA
 rw [hd.1]
 unfold cless at h6
 simp only [decide_eq_false_iff_not, not_or, not_and] at h6
 omega
theorem zA6 {fs : List Flt} (h3 : fs.length <= 3) (hf : ∀ f ∈ fs, FltOk f) : (start fs).s.length = 3 := (vV h3 hf _ (Nat.le_refl _)).three
theorem zQz (days : List Nat) : DDom days days := ⟨rfl, fun _ => Nat.le_refl _⟩
structure Al where
 i : Nat
 dst : Nat
 ty : Nat
 l : List Value
def pE : List Al -> List (Option Nat) -> List (Nat × Value)
 | p :: P, some b :: S => (p.dst, .pointer (some ⟨b, 0, none⟩)) :: pE P S
 | _ :: P, none :: S => pE P S
 | _, _ => []
def pH : List Al -> List (Option Nat) -> List Res
 | p :: P, some b :: S => .blk b (.cells p.l.toArray p.ty (0, 0)) :: pH P S
 | _ :: P, none :: S => pH P S
 | _, _ => []
def pM : List Al -> List Bool -> Array Bool -> Array Bool
 | p :: P, true :: S, L => pM P S (L.setIfInBounds p.i true)
 | _ :: P, false :: S, L => pM P S L
 | _, _, L => L
def pU : List Al -> List Bool -> List Al
 | _ :: P, true :: S => pU P S
 | p :: P, false :: S => p :: pU P S
 | _, _ => []
def nones (S : List (Option Nat)) : Nat := S.countP Option.isNone
def allBl : Nat -> List (List Bool)
 | 0 => [[]]
 | n + 1 => (allBl n).flatMap fun B => [true :: B, false :: B]
theorem zJi : ∀ B : List Bool, B ∈ allBl B.length
 | [] => by simp [allBl]
 | b :: B => by
  rw [List.length_cons]
  unfold allBl
  exact List.mem_flatMap.2 ⟨B, zJi B, by cases b <;> simp⟩
theorem zFj (P : List Al) : ∀ (B : List Bool) (L : Array Bool) (j : Nat), pM P B (L.setIfInBounds j true) = (pM P B L).setIfInBounds j true := by
 induction P with
 | nil => intro B L j; cases B <;> rfl
 | cons p P ih =>
  intro B L j
  match B with
  | [] => rfl
  | true :: B =>
   unfold pM
   rw [<- ih]
   by_cases h : j = p.i
   ·rw [h]
   ·rw [Array.setIfInBounds_comm _ _ h]
  | false :: B => exact ih B L j
theorem zVh {P : List Al} {S : List (Option Nat)} {t : Nat} {v : Value} (h : look (pE P S) t = some v) : ∃ p ∈ P, p.dst = t := by
 induction P generalizing S with
 | nil => cases S <;> cases h
 | cons p P ih =>
  match S with
  | [] => cases h
  | none :: S => obtain ⟨q, h1, h2⟩ := ih (S := S) h; exact ⟨q, .tail _ h1, h2⟩
  | some b :: S =>
   unfold pE at h
   rw [qW] at h
   split at h
   ·rename_i e; exact ⟨p, .head _, e⟩
   ·obtain ⟨q, h1, h2⟩ := ih (S := S) h; exact ⟨q, .tail _ h1, h2⟩
theorem zC0 (f g : List (Nat × Value)) (t : Nat) : look (f ++ g) t = (look f t).or (look g t) := by
 induction f with
 | nil => rfl
 | cons x f ih =>
  obtain ⟨k, v⟩ := x
  rw [List.cons_append, qW, qW]
  split
  ·rfl
  ·exact ih
theorem zIv {P : List Al} (hd : (P.map (·.dst)).Nodup) {S : List (Option Nat)} (hl : S.length = P.length) {p : Al} (hp : p ∈ pU P (S.map Option.isSome)) (b : Nat) :
  ∃ S' : List (Option Nat), S'.length = P.length ∧ nones S = nones S' + 1 ∧ (∀ L, pM P (S'.map Option.isSome) L = (pM P (S.map Option.isSome) L).setIfInBounds p.i true) ∧ p ∈ P ∧
   (∀ t v, look (pE P S') t = some v -> look ((p.dst, .pointer (some ⟨b, 0, none⟩)) :: pE P S) t = some v) ∧ (Res.blk b (.cells p.l.toArray p.ty (0, 0)) :: pH P S).Perm (pH P S') := by
 induction P generalizing S with
 | nil => cases S <;> cases hp
 | cons q P ih =>
  rw [List.map_cons, List.nodup_cons] at hd
  match S, hl with
  | some c :: S, hl =>
   obtain ⟨S', h1, h2, h3, h4, h5, h6⟩ := ih hd.2 (S := S) (by simpa using hl) hp
   refine ⟨some c :: S', by simp [h1], by simpa [nones, List.countP_cons] using h2, fun L => h3 _, .tail _ h4, fun t v h => ?_, (List.Perm.swap ..).trans (h6.cons _)⟩
   unfold pE at h ⊢
   rw [qW] at h
   rw [qW, qW]
   split at h
   ·rename_i e
    rw [if_neg, if_pos e]
    ·exact h
    ·intro e2
     exact hd.1 (List.mem_map.2 ⟨p, h4, e2.trans e.symm⟩)
   ·rename_i e
    have h9 := h5 t v h
    rw [qW] at h9
    rw [if_neg e]
    exact h9
  | none :: S, hl =>
   have hl' : S.length = P.length := by simpa using hl
   rcases List.mem_cons.1 hp with rfl | hp
   ·refine ⟨some b :: S, by simp [hl'], by simp [nones], fun L => (zFj P _ L p.i), .head _, fun t v h => h, .refl _⟩
   ·obtain ⟨S', h1, h2, h3, h4, h5, h6⟩ := ih hd.2 (S := S) hl' hp
    exact ⟨none :: S', by simp [h1], by simp [nones] at h2 ⊢; omega, fun L => h3 L, .tail _ h4, h5, h6⟩
section
variable [I : Sys] {C : Ctx} {fr : List (Nat × Value)} {hp : List Res} {ops : Array Oper} {Q : Exit -> Act -> World -> Prop} {hpS : List Res}
theorem zNo {α : Type} {p : α -> Prop} : ∀ {l : List α}, (∀ x ∈ l, p x) -> AllP p l
 | [], _ => trivial
 | _ :: _, h => ⟨h _ (.head _), zNo fun x hx => h x (.tail _ hx)⟩
theorem At.wk {f' : List (Nat × Value)} {a : Act} {w : World} (hs : ∀ t v, look f' t = some v -> look fr t = some v) (ha : At C fr hp a w) : At C f' hp a w :=
 { ha with slots := fun t v h => ha.slots t v (hs t v h) }
def mixed (ops : Array Oper) (P : List Al) (m : Option Nat) (L : Array Bool) : Bool :=
 (allBl P.length).all fun B => (match m with | none => B.all id | some _ => false) || (let r := Region.ready .any ops (pM P B L); !r.isEmpty && r.all fun i => (some i == m) || (pU P B).any fun p => p.i == i)
theorem zDe {lst : Array Bool} (P : List Al) (m : Option Nat) (f : List (Nat × Value)) (h : List Res) (L : Array Bool) (K : Nat) {F : Nat} {S0 : List (Option Nat)} (hF : F = nones S0 + K) (hS0 : S0.length = P.length) (hl : lst = pM P (S0.map Option.isSome) L)
  (hs : Sub f fr) (htail : AllP (fun q => look fr q.dst = look (pE P S0) q.dst) P) (hh : Pck (h ++ pH P S0) hp) (hmix : mixed ops P m L = true) (hd : (P.map (·.dst)).Nodup) (hf : AllP (fun q => look f q.dst = none) P)
  (hal : AllP (fun q => ∃ (z : Value) (s n : Nat) (ty : TypeId) (pos : String) (after : Array Edge), ops[q.i]? = some ⟨some q.dst, .alloc q.ty, ty, pos, after, none⟩ ∧ Nat.blt q.dst C.N = true ∧ TI C.P q.ty z s n ∧ Nonempty (Cells z q.l)) P) (hps : hpS.Sublist h)
  (hmain : match m with
   | none => ∀ S, S.length = P.length -> nones S = 0 -> Any C ops Q hpS K (pM P (S.map Option.isSome) L) (f ++ pE P S) (h ++ pH P S)
   | some i => ∀ S, S.length = P.length -> ∃ o, ops[i]? = some o ∧ ∃ K', K = K' + 1 ∧ Lst C ops (Exit.then (Nxt C ops Q hpS (nones S + K') ((pM P (S.map Option.isSome) L).setIfInBounds i true)) (Lax (OnlyN Q))) [o] (f ++ pE P S) (h ++ pH P S)) :
  Any C ops Q hpS F lst fr hp := by
 have key : ∀ n, ∀ S : List (Option Nat), S.length = P.length -> nones S = n -> Any C ops Q hpS (nones S + K) (pM P (S.map Option.isSome) L) (f ++ pE P S) (h ++ pH P S) := by
  intro n
  induction n using Nat.strongRecOn with
  | ind n ih =>
   intro S hS hn
   have hB := List.all_eq_true.1 hmix (S.map Option.isSome) (by rw [show P.length = (S.map Option.isSome).length from by rw [List.length_map, hS]]; exact zJi _)
   rw [Bool.or_eq_true] at hB
   rcases hB with hB | hB
   ·cases m with
    | some i => cases hB
    | none =>
     have h0 : nones S = 0 := by
      unfold nones
      rw [List.countP_eq_zero]
      intro x hx hn
      have h9 := List.all_eq_true.1 hB x.isSome (List.mem_map.2 ⟨x, hx, rfl⟩)
      cases x with
      | none => cases h9
      | some _ => cases hn
     rw [h0, Nat.zero_add]
     exact hmain S hS h0
   ·dsimp only at hB
    rw [Bool.and_eq_true] at hB
    obtain ⟨hB1, hB2⟩ := hB
    have hne : Region.ready .any ops (pM P (S.map Option.isSome) L) ≠ [] := by
     intro e
     rw [e] at hB1
     cases hB1
    -- what is done with each
    have hpick : ∀ F, nones S + K = F + 1 -> Any C ops Q hpS (F + 1) (pM P (S.map Option.isSome) L) (f ++ pE P S) (h ++ pH P S) := by
     intro F hF
     refine kV _ rfl hne (zNo fun i hi => ?_)
     have h2 := List.all_eq_true.1 hB2 i hi
     rw [Bool.or_eq_true] at h2
     rcases h2 with h2 | h2
     ·cases m with
      | none => cases h2
      | some j =>
       obtain rfl : i = j := by simpa using h2
       obtain ⟨o, ho, K', hK, hL⟩ := hmain S hS
       refine ⟨o, ho, ?_⟩
       rw [show F = nones S + K' from by omega]
       exact hL
     ·obtain ⟨p, hp1, hp2⟩ := List.any_eq_true.1 h2
      obtain rfl : p.i = i := by simpa using hp2
      have hpP : p ∈ P := (zIv hd hS hp1 0).elim fun _ h => h.2.2.2.1
      obtain ⟨z, s, n1, ty, pos, after, ho, hN, hTI, ⟨hc⟩⟩ := hal.mem p hpP
      refine ⟨_, ho, zT hN hTI fun b => zA (zG4 ((hps.trans (List.sublist_append_left ..)).cons _) ?_)⟩
      obtain ⟨S', h1, h2, h3, _, h5, h6⟩ := zIv hd hS hp1 b
      rw [<- h3, show F = nones S' + K from by omega]
      refine fun a w ha => ih (nones S') om S' h1 rfl a w (At.wk ?_ (ha.permed ?_))
      ·intro t v ht
       rw [zC0] at ht
       rw [qW, zC0]
       cases hft : look f t with
       | some u =>
        rw [hft] at ht
        rw [if_neg (by intro e; subst e; rw [hf.mem p hpP] at hft; cases hft)]
        exact ht
       | none =>
        rw [hft] at ht
        have h9 := h5 t v ht
        rw [qW] at h9
        exact h9
      ·exact (List.perm_middle.symm).trans (List.Perm.append_left h h6)
    rcases Nat.eq_zero_or_pos (nones S + K) with h0 | h0
    ·exfalso
     cases m with
     | some j => obtain ⟨o, ho, K', hK, _⟩ := hmain S hS; omega
     | none =>
      -- all is done: what would be ready is not
      match hr : Region.ready .any ops (pM P (S.map Option.isSome) L), hne with
      | i :: r, _ =>
       have h2 := List.all_eq_true.1 hB2 i (by rw [hr]; exact .head _)
       rw [Bool.or_eq_true] at h2
       rcases h2 with h2 | h2
       ·cases h2
       ·obtain ⟨p, hp1, hp2⟩ := List.any_eq_true.1 h2
        obtain ⟨S', _, h2, _⟩ := zIv hd hS hp1 0
        omega
    ·obtain ⟨F, hF⟩ : ∃ F, nones S + K = F + 1 := ⟨nones S + K - 1, by omega⟩
     rw [hF]
     exact hpick F hF
 subst hl hF
 refine fun a w ha => key _ S0 hS0 rfl a w (At.wk ?_ (ha.pck hh))
 intro t v ht
 rw [zC0] at ht
 cases hft : look f t with
 | some u => rw [hft] at ht; exact hs.look t v (by rw [hft]; exact ht)
 | none =>
  rw [hft] at ht
  obtain ⟨q, hq, rfl⟩ := zVh ht
  rw [htail.mem q hq]
  exact ht
end
theorem zKw (p : Nat -> Bool) (i : Nat) : ∀ k, ((List.range k).foldl (fun w j => if p j then wWith w j else w) 0).testBit i = true ↔ i < k ∧ p i = true
 | 0 => by simp
 | k + 1 => by
  rw [List.range_succ, List.foldl_append]
  simp only [List.foldl_cons, List.foldl_nil]
  have ih := zKw p i k
  by_cases hp : p k = true
  ·rw [if_pos hp]
   rw [show ∀ w, wWith w k = w ||| 2 ^ k from fun _ => rfl, Nat.testBit_or, Bool.or_eq_true, ih, Nat.testBit_two_pow]
   constructor
   ·rintro (⟨h1, h2⟩ | h)
    ·exact ⟨by omega, h2⟩
    ·obtain rfl : k = i := by simpa using h
     exact ⟨by omega, hp⟩
   ·rintro ⟨h1, h2⟩
    by_cases e : k = i
    ·exact .inr (by simp [e])
    ·exact .inl ⟨by omega, h2⟩
  ·rw [if_neg hp, ih]
   constructor
   ·rintro ⟨h1, h2⟩; exact ⟨by omega, h2⟩
   ·rintro ⟨h1, h2⟩
    refine ⟨?_, h2⟩
    rcases Nat.lt_or_ge i k with h | h
    ·exact h
    ·obtain rfl : i = k := by omega
     exact absurd h2 hp
theorem zJd {fs : List Flt} {i : Nat} : (start fs).w.testBit i = true ↔ i < fs.length ∧ (fs.getD i default).washed = true := zKw (fun j => (fs.getD j default).washed) i fs.length
theorem zK0 (fs : List Flt) (i : Nat) : (start fs).s.getD i 0 = (fs.getD i default).now := by
 unfold start startN
 dsimp only
 rw [List.take_length, List.getD_eq_getElem?_getD, List.getElem?_append, List.length_map, List.getD_eq_getElem?_getD]
 split
 ·rename_i h
  rw [List.getElem?_map, List.getElem?_eq_getElem h]
  rfl
 ·rename_i h
  rw [List.getElem?_eq_none (l := fs) om]
  cases e : (List.replicate (3 - fs.length) 0)[i - fs.length]? with
  | none => rfl
  | some v =>
   have := List.mem_of_getElem? e
   rw [List.mem_replicate] at this
   exact this.2
theorem zE2 {fs : List Flt} {x i : Nat} {f' : Flt} (hx : x < fs.length) : (fs.set x f').getD i default = if x = i then f' else fs.getD i default := by
 rw [List.getD_eq_getElem?_getD, List.getElem?_set, List.getD_eq_getElem?_getD]
 split
 ·rename_i h
  rfl
 ·rfl
theorem ChV.setf {fs : List Flt} {kiln x : Nat} {f : Flt} {days : List Nat} (h : ChV fs kiln days) (hf : FltOk f) : ChV (fs.set x f) kiln days :=
 ⟨by rw [List.length_set]; exact h.f1, by rw [List.length_set]; exact h.f3, fun g hg => (List.mem_or_eq_of_mem_set hg).elim (fun h1 => h.ff g h1) (fun e => e ▸ hf), h.k3, h.d1, h.d4, h.dd⟩
theorem stronger {fs : List Flt} {kiln x : Nat} {days : List Nat} {f f' : Flt} (hc : ChV fs kiln days) (hx : fs[x]? = some f) (hf : FltOk f') (hp : f'.power = f.power) (hg : f.gain <= f'.gain) (hn : f.now <= f'.now) (hw : f'.washed = true -> f.washed = true) (h : (bstA fs kiln days).is = true) :
  (bstA (fs.set x f') kiln days).is = true ∧ (bstA (fs.set x f') kiln days).f <= (bstA fs kiln days).f := by
 have hl : x < fs.length := (List.getElem?_eq_some_iff.1 hx).1
 have hgd : fs.getD x default = f := by rw [List.getD_eq_getElem?_getD, hx]; rfl
 refine zK1 ⟨by rw [List.length_set], fun i => ?_⟩ (Nat.le_refl _) (zQz days) ⟨fun i => ?_, fun i => ?_⟩ (zA6 (hc.setf hf).f3 (hc.setf hf).ff) (zA6 hc.f3 hc.ff) h
 ·rw [zE2 hl]
  split
  ·rename_i e; subst e; rw [hgd]; exact ⟨hp.symm, hg⟩
  ·exact ⟨rfl, Nat.le_refl _⟩
 ·rw [zK0, zK0, zE2 hl]
  split
  ·rename_i e; subst e; rw [hgd]; exact hn
  ·exact Nat.le_refl _
 ·rw [zJd, zJd, List.length_set, zE2 hl]
  split
  ·rename_i e; subst e; rw [hgd]; exact fun h => ⟨h.1, hw h.2⟩
  ·exact id
theorem zPo {fs : List Flt} {kiln x n d : Nat} {days : List Nat} (hc : ChV fs kiln days) (hx : days[x]? = some d) (hn : n <= d) (h : (bstA fs kiln days).is = true) :
  (bstA fs kiln (days.set x n)).is = true ∧ (bstA fs kiln (days.set x n)).f <= (bstA fs kiln days).f := by
 refine zK1 (FDom.refl fs) (Nat.le_refl _) ⟨by rw [List.length_set], fun i => ?_⟩ (Dom.refl _) (zA6 hc.f3 hc.ff) (zA6 hc.f3 hc.ff) h
 rw [zG7]
 split
 ·rename_i e
  rw [<- e.1, List.getD_eq_getElem?_getD, hx]
  exact hn
 ·exact Nat.le_refl _
theorem strongL {fs gs : List Flt} {kiln kiln' : Nat} {days gays : List Nat} (h : (bstA fs kiln days).is = true -> (bstA gs kiln' gays).is = true ∧ (bstA gs kiln' gays).f <= (bstA fs kiln days).f) :
  (oE (bstA gs kiln' gays) = 0 ∨ oE (bstA gs kiln' gays) = 11) ∧ (oE (bstA fs kiln days) = 0 -> oE (bstA gs kiln' gays) = 0 ∧ oF (bstA gs kiln' gays) <= oF (bstA fs kiln days)) := by
 unfold oE oF
 cases h1 : (bstA fs kiln days).is with
 | false => exact ⟨by split <;> simp, fun h => by simp at h⟩
 | true =>
  obtain ⟨h2, h3⟩ := h h1
  simp only [h2, if_true]
  exact ⟨.inl trivial, fun _ => ⟨trivial, h3⟩⟩
theorem zFh {fs : List Flt} {k j : Nat} {f f' : Flt} {v : Value} (hx : fs[k]? = some f) (hj : j < 4) (h : (Flt.cells f).set j v = Flt.cells f') : (fs.flatMap Flt.cells).set (k * 4 + j) v = (fs.set k f').flatMap Flt.cells := by
 induction fs generalizing k with
 | nil => simp at hx
 | cons g fs ih =>
  match k with
  | 0 =>
   obtain rfl : g = f := by simpa using hx
   rw [List.set_cons_zero, List.flatMap_cons, List.flatMap_cons, <- h, List.set_append_left _ _ (by rw [zF7]; omega)]
   congr 2
   omega
  | k + 1 =>
   rw [List.set_cons_succ, List.flatMap_cons, List.flatMap_cons, List.set_append_right _ _ (by rw [zF7]; omega), zF7, show (k + 1) * 4 + j - 4 = k * 4 + j from by omega, ih (by simpa using hx)]
theorem zQ3 {S : List (Option Nat)} (h : S.length = 4) (h0 : nones S = 0) : ∃ a b c d, S = [some a, some b, some c, some d] := by
 match S, h with
 | [x, y, z, u], _ =>
  cases x <;> cases y <;> cases z <;> cases u <;> first | exact ⟨_, _, _, _, rfl⟩ | (simp [nones] at h0)
end Go.Proofs.Yteppiphdbondeaa.N
namespace Go.Proofs.Yteppiphdbondeaa.N
open Go Go.RowKit Go.Proofs
set_option linter.unusedSectionVars false
variable [I : Sys]
theorem zUm {l : List Nat} {k x : Nat} (h : l[k]? = some x) : (ints l)[k]? = some (.int .i64 (x : Int)) := by
 unfold ints
 rw [List.getElem?_map, h]
 rfl

set_option maxRecDepth 4000 in
theorem zIl [R : ReaC] (nA : Option Addr) (nc : Nat) (nums : List Int) (w : World) (hN : RdL icell 1 w nA nums) (hR : RdC w) : Calls Try.prog 6 #[.slice nA nums.length nc] w fun e w' => e = .returned (.bool true) ∧ Grew w w' [] := by
 refine enter (N := 141) [(0, .slice nA nums.length nc)] Try.func6 rfl Try.ntmps6 rfl rfl ?_
 refine zD (zB (zE rfl rfl (zA (zC (zD (zB (zF rfl rfl (kP (X := Nat) (vs := [_]) (p := fun _ => True) (val := fun b => .pointer (some ⟨b, 0, none⟩)) (rs := fun b => [.blk b (hatO nA nums.length nc 0 11400714819323198485)]) rfl rfl F.ent13 (fun a w ha => (zSf nA nums.length nc w).mono (fun e w' h => by obtain ⟨b, h1, h2⟩ := h; exact ⟨b, trivial, h1, h2⟩)) ?_))))))))
 intro hb _
 dsimp only [List.cons_append, List.nil_append]
 refine zE rfl rfl (zA (zC (zD (zB (zF rfl rfl (qS (X := Nat × Nat × Nat × List Flt × List Nat × Option Addr × Option Addr × Nat × Nat) (first := []) (cap := []) (vs := [_]) (p := fun y => y.1 <= 101 ∧ y.2.1 < 18446744073709551616 ∧ ChV y.2.2.2.1 y.2.2.1 y.2.2.2.2.1) (val := fun y => .agg [.slice y.2.2.2.2.2.1 y.2.2.2.1.length y.2.2.2.2.2.2.2.1, .int .i64 (y.2.2.1 : Int), .slice y.2.2.2.2.2.2.1 y.2.2.2.2.1.length y.2.2.2.2.2.2.2.2].toArray) (rs := fun y => [.row 49 4 y.2.2.2.2.2.1 y.2.2.2.1.length y.2.2.2.2.2.2.2.1 (y.2.2.2.1.flatMap Flt.cells), .row 3 1 y.2.2.2.2.2.2.1 y.2.2.2.2.1.length y.2.2.2.2.2.2.2.2 (ints y.2.2.2.2.1), .blk hb (hatO nA nums.length nc y.1 y.2.1)]) rfl rfl rfl F.ent22 (fun a w ha => (zWq (C := ⟨Try.prog, _, _, _, _⟩) (T := []) (tk := 0) rfl rfl hN om om ha).mono (fun e w' h => by obtain ⟨t', s', k', f', d', A', D', c', dc', h1, h2, h3, h4, h5⟩ := h; exact ⟨(t', s', k', f', d', A', D', c', dc'), ⟨by omega, h2, h3⟩, h4, h5⟩)) ?_))))))
 rintro ⟨tk, st, kiln, fs, days, A, D, c, dc⟩ ⟨htk, hst, hc⟩
 dsimp only at htk hst hc ⊢
 refine zT rfl F.ti27 ?_
 intro b4
 refine zI rfl rfl F.ti27 rfl ?_
 refine zA (zC (zD (zB ?_)))
 have hf1 := hc.f1
 have hf3 := hc.f3
 have hd1 := hc.d1
 have hd4 := hc.d4
 refine jB rfl rfl F.agg27 F.ti27 ?_
 refine kP (X := Option Addr × Nat × Nat) (vs := [_]) (p := fun _ => True) (val := fun g => .tuple #[.slice g.1 g.2.1 g.2.2, .int .i64 ((oF (bstA fs kiln days) : Nat) : Int), .int .i64 ((oE (bstA fs kiln days) : Nat) : Int)]) (rs := fun _ => []) rfl rfl F.ent15 (fun a w ha => (zBh hc w (yD (A := A) ha rfl) (yS (A := D) ha rfl)).mono (fun e w' h => by obtain ⟨oA', on', oc', h1, h2⟩ := h; exact ⟨(oA', on', oc'), trivial, h1, h2⟩)) ?_
 rintro ⟨oA0, on0, oc0⟩ -
 dsimp only [List.nil_append]
 refine zF rfl rfl (zP rfl rfl rfl (zP rfl rfl rfl (zP rfl rfl rfl (zE rfl rfl (zE rfl rfl (zE rfl rfl (zA (zC (zD (kB [.b hb] F.follows 14 rfl [false, false, false, false, false, false, false, false, false, false, false, false, false, false] rfl ?_))))))))))
 refine zG 0 rfl rfl rfl (jG rfl) ?_
 refine zG 1 rfl rfl rfl (zO rfl F.fi27_0 F.ti25) ?_
 refine zG 2 rfl rfl rfl (jN rfl F.one25) ?_
 refine zG 3 rfl rfl rfl (wK rfl Try.underlying25) ?_
 refine zG 4 rfl rfl rfl (qQ (v := .int .i64 ((fs.length : Int) - 1)) rfl rfl (fun w => xG w (jA _ om om))) ?_
 refine zG 6 rfl rfl rfl (jG rfl) ?_
 refine zG 7 rfl rfl rfl (zO rfl F.fi27_2 F.ti22) ?_
 refine zG 8 rfl rfl rfl (jN rfl F.one22) ?_
 refine zG 9 rfl rfl rfl (wK rfl Try.underlying22) ?_
 refine zG 10 rfl rfl rfl (qQ (v := .int .i64 ((days.length : Int) - 1)) rfl rfl (fun w => xG w (jA _ om om))) ?_
 refine an1 5 rfl ?_
 refine vE rfl rfl rfl rfl hN hst om om ?_
 rintro s1 x1 hs1 hx1
 refine zA (anb (an1 11 rfl ?_))
 refine vE rfl rfl rfl rfl hN hs1 om om ?_
 rintro s2 x2 hs2 hx2
 refine zA (anb (zG 12 rfl rfl rfl (kR rfl) ?_))
 refine zG 13 rfl rfl rfl (kR rfl) ?_
 refine adn (zC (zD (kB [] F.follows 16 rfl [false, false, false, false, false, false, false, false, false, false, false, false, false, false, false, false] rfl ?_)))
 refine zG 0 rfl rfl rfl (kU rfl F.agg27 F.ti27) ?_
 refine zG 2 rfl rfl rfl (kU rfl F.agg27 F.ti27) ?_
 refine zG 4 rfl rfl rfl (kU rfl F.agg27 F.ti27) ?_
 refine zG 6 rfl rfl rfl (kU rfl F.agg27 F.ti27) ?_
 refine zDe [⟨8, 10, 27, [.slice none 0 0, .int .i64 0, .slice none 0 0]⟩, ⟨9, 11, 27, [.slice none 0 0, .int .i64 0, .slice none 0 0]⟩, ⟨10, 12, 27, [.slice none 0 0, .int .i64 0, .slice none 0 0]⟩, ⟨11, 13, 27, [.slice none 0 0, .int .i64 0, .slice none 0 0]⟩] (some 1) ([(42, .agg [.slice A fs.length c, .int .i64 (kiln : Int), .slice D days.length dc].toArray), (44, .agg [.slice A fs.length c, .int .i64 (kiln : Int), .slice D days.length dc].toArray), (46, .agg [.slice A fs.length c, .int .i64 (kiln : Int), .slice D days.length dc].toArray), (48, .agg [.slice A fs.length c, .int .i64 (kiln : Int), .slice D days.length dc].toArray), (3, .pointer (some ⟨hb, 0, none⟩)), (4, .pointer (some ⟨b4, 0, none⟩)), (6, .int .i64 ((oF (bstA fs kiln days) : Nat) : Int)), (7, .int .i64 ((oE (bstA fs kiln days) : Nat) : Int)), (8, .int .i64 (x1 : Int)), (9, .int .i64 (x2 : Int))]) ([.blk hb (hatO nA nums.length nc (tk + 1 + 1) (s2)), .blk b4 (.cells [.slice A fs.length c, .int .i64 (kiln : Int), .slice D days.length dc].toArray 27 (0, 0)), .row 49 4 A fs.length c (fs.flatMap Flt.cells), .row 3 1 D days.length dc (ints days)]) ([true, false, true, false, true, false, true, false, false, false, false, false, false, false, false, false].toArray) 8 (S0 := [none, none, none, none]) rfl rfl rfl sbn ⟨rfl, rfl, rfl, rfl, trivial⟩ pkk kr (by decide) ⟨rfl, rfl, rfl, rfl, trivial⟩ ⟨⟨_, _, _, _, _, _, rfl, rfl, F.ti27, ⟨inferInstance⟩⟩, ⟨_, _, _, _, _, _, rfl, rfl, F.ti27, ⟨inferInstance⟩⟩, ⟨_, _, _, _, _, _, rfl, rfl, F.ti27, ⟨inferInstance⟩⟩, ⟨_, _, _, _, _, _, rfl, rfl, F.ti27, ⟨inferInstance⟩⟩, trivial⟩ sbl ?_
 intro S hS
 refine ⟨_, rfl, _, rfl, ?_⟩
 simp only [List.cons_append, List.nil_append]
 refine kP (X := Option Addr × Nat × Option Addr × Nat) (vs := [_]) (p := fun _ => True) (val := fun g => .agg [.slice g.1 fs.length g.2.1, .int .i64 (kiln : Int), .slice g.2.2.1 days.length g.2.2.2].toArray) (rs := fun g => [.row 49 4 g.1 fs.length g.2.1 (fs.flatMap Flt.cells), .row 3 1 g.2.2.1 days.length g.2.2.2 (ints days)]) rfl rfl F.ent24 (fun a w ha => (zCi hc.f1 (by have := hc.f3; omega) hc.d1 (by have := hc.d4; omega) w (yD (A := A) ha rfl) (yS (A := D) ha rfl)).mono (fun e w' h => by obtain ⟨A', c', D', dc', h1, h2⟩ := h; exact ⟨(A', c', D', dc'), trivial, h1, h2⟩)) ?_
 rintro ⟨A1, c1, D1, dc1⟩ -
 dsimp only [List.cons_append, List.nil_append]
 refine zA (anb (zDe [⟨8, 10, 27, [.slice none 0 0, .int .i64 0, .slice none 0 0]⟩, ⟨9, 11, 27, [.slice none 0 0, .int .i64 0, .slice none 0 0]⟩, ⟨10, 12, 27, [.slice none 0 0, .int .i64 0, .slice none 0 0]⟩, ⟨11, 13, 27, [.slice none 0 0, .int .i64 0, .slice none 0 0]⟩] (some 3) ([(43, .agg [.slice A1 fs.length c1, .int .i64 (kiln : Int), .slice D1 days.length dc1].toArray), (44, .agg [.slice A fs.length c, .int .i64 (kiln : Int), .slice D days.length dc].toArray), (46, .agg [.slice A fs.length c, .int .i64 (kiln : Int), .slice D days.length dc].toArray), (48, .agg [.slice A fs.length c, .int .i64 (kiln : Int), .slice D days.length dc].toArray), (3, .pointer (some ⟨hb, 0, none⟩)), (4, .pointer (some ⟨b4, 0, none⟩)), (6, .int .i64 ((oF (bstA fs kiln days) : Nat) : Int)), (7, .int .i64 ((oE (bstA fs kiln days) : Nat) : Int)), (8, .int .i64 (x1 : Int)), (9, .int .i64 (x2 : Int))]) ([.row 49 4 A1 fs.length c1 (fs.flatMap Flt.cells), .row 3 1 D1 days.length dc1 (ints days), .blk hb (hatO nA nums.length nc (tk + 1 + 1) (s2)), .blk b4 (.cells [.slice A fs.length c, .int .i64 (kiln : Int), .slice D days.length dc].toArray 27 (0, 0)), .row 49 4 A fs.length c (fs.flatMap Flt.cells), .row 3 1 D days.length dc (ints days)]) (([true, false, true, false, true, false, true, false, false, false, false, false, false, false, false, false].toArray).setIfInBounds 1 true) 7 rfl hS (zFj _ _ _ _).symm sbn ⟨rfl, rfl, rfl, rfl, trivial⟩ pkk kr (by decide) ⟨rfl, rfl, rfl, rfl, trivial⟩ ⟨⟨_, _, _, _, _, _, rfl, rfl, F.ti27, ⟨inferInstance⟩⟩, ⟨_, _, _, _, _, _, rfl, rfl, F.ti27, ⟨inferInstance⟩⟩, ⟨_, _, _, _, _, _, rfl, rfl, F.ti27, ⟨inferInstance⟩⟩, ⟨_, _, _, _, _, _, rfl, rfl, F.ti27, ⟨inferInstance⟩⟩, trivial⟩ sbl ?_))
 intro S hS
 refine ⟨_, rfl, _, rfl, ?_⟩
 simp only [List.cons_append, List.nil_append]
 refine kP (X := Option Addr × Nat × Option Addr × Nat) (vs := [_]) (p := fun _ => True) (val := fun g => .agg [.slice g.1 fs.length g.2.1, .int .i64 (kiln : Int), .slice g.2.2.1 days.length g.2.2.2].toArray) (rs := fun g => [.row 49 4 g.1 fs.length g.2.1 (fs.flatMap Flt.cells), .row 3 1 g.2.2.1 days.length g.2.2.2 (ints days)]) rfl rfl F.ent24 (fun a w ha => (zCi hc.f1 (by have := hc.f3; omega) hc.d1 (by have := hc.d4; omega) w (yD (A := A) ha rfl) (yS (A := D) ha rfl)).mono (fun e w' h => by obtain ⟨A', c', D', dc', h1, h2⟩ := h; exact ⟨(A', c', D', dc'), trivial, h1, h2⟩)) ?_
 rintro ⟨A2, c2, D2, dc2⟩ -
 dsimp only [List.cons_append, List.nil_append]
 refine zA (anb (zDe [⟨8, 10, 27, [.slice none 0 0, .int .i64 0, .slice none 0 0]⟩, ⟨9, 11, 27, [.slice none 0 0, .int .i64 0, .slice none 0 0]⟩, ⟨10, 12, 27, [.slice none 0 0, .int .i64 0, .slice none 0 0]⟩, ⟨11, 13, 27, [.slice none 0 0, .int .i64 0, .slice none 0 0]⟩] (some 5) ([(45, .agg [.slice A2 fs.length c2, .int .i64 (kiln : Int), .slice D2 days.length dc2].toArray), (43, .agg [.slice A1 fs.length c1, .int .i64 (kiln : Int), .slice D1 days.length dc1].toArray), (46, .agg [.slice A fs.length c, .int .i64 (kiln : Int), .slice D days.length dc].toArray), (48, .agg [.slice A fs.length c, .int .i64 (kiln : Int), .slice D days.length dc].toArray), (3, .pointer (some ⟨hb, 0, none⟩)), (4, .pointer (some ⟨b4, 0, none⟩)), (6, .int .i64 ((oF (bstA fs kiln days) : Nat) : Int)), (7, .int .i64 ((oE (bstA fs kiln days) : Nat) : Int)), (8, .int .i64 (x1 : Int)), (9, .int .i64 (x2 : Int))]) ([.row 49 4 A2 fs.length c2 (fs.flatMap Flt.cells), .row 3 1 D2 days.length dc2 (ints days), .row 49 4 A1 fs.length c1 (fs.flatMap Flt.cells), .row 3 1 D1 days.length dc1 (ints days), .blk hb (hatO nA nums.length nc (tk + 1 + 1) (s2)), .blk b4 (.cells [.slice A fs.length c, .int .i64 (kiln : Int), .slice D days.length dc].toArray 27 (0, 0)), .row 49 4 A fs.length c (fs.flatMap Flt.cells), .row 3 1 D days.length dc (ints days)]) ((([true, false, true, false, true, false, true, false, false, false, false, false, false, false, false, false].toArray).setIfInBounds 1 true).setIfInBounds 3 true) 6 rfl hS (zFj _ _ _ _).symm sbn ⟨rfl, rfl, rfl, rfl, trivial⟩ pkk kr (by decide) ⟨rfl, rfl, rfl, rfl, trivial⟩ ⟨⟨_, _, _, _, _, _, rfl, rfl, F.ti27, ⟨inferInstance⟩⟩, ⟨_, _, _, _, _, _, rfl, rfl, F.ti27, ⟨inferInstance⟩⟩, ⟨_, _, _, _, _, _, rfl, rfl, F.ti27, ⟨inferInstance⟩⟩, ⟨_, _, _, _, _, _, rfl, rfl, F.ti27, ⟨inferInstance⟩⟩, trivial⟩ sbl ?_))
 intro S hS
 refine ⟨_, rfl, _, rfl, ?_⟩
 simp only [List.cons_append, List.nil_append]
 refine kP (X := Option Addr × Nat × Option Addr × Nat) (vs := [_]) (p := fun _ => True) (val := fun g => .agg [.slice g.1 fs.length g.2.1, .int .i64 (kiln : Int), .slice g.2.2.1 days.length g.2.2.2].toArray) (rs := fun g => [.row 49 4 g.1 fs.length g.2.1 (fs.flatMap Flt.cells), .row 3 1 g.2.2.1 days.length g.2.2.2 (ints days)]) rfl rfl F.ent24 (fun a w ha => (zCi hc.f1 (by have := hc.f3; omega) hc.d1 (by have := hc.d4; omega) w (yD (A := A) ha rfl) (yS (A := D) ha rfl)).mono (fun e w' h => by obtain ⟨A', c', D', dc', h1, h2⟩ := h; exact ⟨(A', c', D', dc'), trivial, h1, h2⟩)) ?_
 rintro ⟨A3, c3, D3, dc3⟩ -
 dsimp only [List.cons_append, List.nil_append]
 refine zA (anb (zDe [⟨8, 10, 27, [.slice none 0 0, .int .i64 0, .slice none 0 0]⟩, ⟨9, 11, 27, [.slice none 0 0, .int .i64 0, .slice none 0 0]⟩, ⟨10, 12, 27, [.slice none 0 0, .int .i64 0, .slice none 0 0]⟩, ⟨11, 13, 27, [.slice none 0 0, .int .i64 0, .slice none 0 0]⟩] (some 7) ([(47, .agg [.slice A3 fs.length c3, .int .i64 (kiln : Int), .slice D3 days.length dc3].toArray), (45, .agg [.slice A2 fs.length c2, .int .i64 (kiln : Int), .slice D2 days.length dc2].toArray), (43, .agg [.slice A1 fs.length c1, .int .i64 (kiln : Int), .slice D1 days.length dc1].toArray), (48, .agg [.slice A fs.length c, .int .i64 (kiln : Int), .slice D days.length dc].toArray), (3, .pointer (some ⟨hb, 0, none⟩)), (4, .pointer (some ⟨b4, 0, none⟩)), (6, .int .i64 ((oF (bstA fs kiln days) : Nat) : Int)), (7, .int .i64 ((oE (bstA fs kiln days) : Nat) : Int)), (8, .int .i64 (x1 : Int)), (9, .int .i64 (x2 : Int))]) ([.row 49 4 A3 fs.length c3 (fs.flatMap Flt.cells), .row 3 1 D3 days.length dc3 (ints days), .row 49 4 A2 fs.length c2 (fs.flatMap Flt.cells), .row 3 1 D2 days.length dc2 (ints days), .row 49 4 A1 fs.length c1 (fs.flatMap Flt.cells), .row 3 1 D1 days.length dc1 (ints days), .blk hb (hatO nA nums.length nc (tk + 1 + 1) (s2)), .blk b4 (.cells [.slice A fs.length c, .int .i64 (kiln : Int), .slice D days.length dc].toArray 27 (0, 0)), .row 49 4 A fs.length c (fs.flatMap Flt.cells), .row 3 1 D days.length dc (ints days)]) (((([true, false, true, false, true, false, true, false, false, false, false, false, false, false, false, false].toArray).setIfInBounds 1 true).setIfInBounds 3 true).setIfInBounds 5 true) 5 rfl hS (zFj _ _ _ _).symm sbn ⟨rfl, rfl, rfl, rfl, trivial⟩ pkk kr (by decide) ⟨rfl, rfl, rfl, rfl, trivial⟩ ⟨⟨_, _, _, _, _, _, rfl, rfl, F.ti27, ⟨inferInstance⟩⟩, ⟨_, _, _, _, _, _, rfl, rfl, F.ti27, ⟨inferInstance⟩⟩, ⟨_, _, _, _, _, _, rfl, rfl, F.ti27, ⟨inferInstance⟩⟩, ⟨_, _, _, _, _, _, rfl, rfl, F.ti27, ⟨inferInstance⟩⟩, trivial⟩ sbl ?_))
 intro S hS
 refine ⟨_, rfl, _, rfl, ?_⟩
 simp only [List.cons_append, List.nil_append]
 refine kP (X := Option Addr × Nat × Option Addr × Nat) (vs := [_]) (p := fun _ => True) (val := fun g => .agg [.slice g.1 fs.length g.2.1, .int .i64 (kiln : Int), .slice g.2.2.1 days.length g.2.2.2].toArray) (rs := fun g => [.row 49 4 g.1 fs.length g.2.1 (fs.flatMap Flt.cells), .row 3 1 g.2.2.1 days.length g.2.2.2 (ints days)]) rfl rfl F.ent24 (fun a w ha => (zCi hc.f1 (by have := hc.f3; omega) hc.d1 (by have := hc.d4; omega) w (yD (A := A) ha rfl) (yS (A := D) ha rfl)).mono (fun e w' h => by obtain ⟨A', c', D', dc', h1, h2⟩ := h; exact ⟨(A', c', D', dc'), trivial, h1, h2⟩)) ?_
 rintro ⟨A4, c4, D4, dc4⟩ -
 dsimp only [List.cons_append, List.nil_append]
 refine zA (anb (zDe [⟨8, 10, 27, [.slice none 0 0, .int .i64 0, .slice none 0 0]⟩, ⟨9, 11, 27, [.slice none 0 0, .int .i64 0, .slice none 0 0]⟩, ⟨10, 12, 27, [.slice none 0 0, .int .i64 0, .slice none 0 0]⟩, ⟨11, 13, 27, [.slice none 0 0, .int .i64 0, .slice none 0 0]⟩] none ([(49, .agg [.slice A4 fs.length c4, .int .i64 (kiln : Int), .slice D4 days.length dc4].toArray), (47, .agg [.slice A3 fs.length c3, .int .i64 (kiln : Int), .slice D3 days.length dc3].toArray), (45, .agg [.slice A2 fs.length c2, .int .i64 (kiln : Int), .slice D2 days.length dc2].toArray), (43, .agg [.slice A1 fs.length c1, .int .i64 (kiln : Int), .slice D1 days.length dc1].toArray), (3, .pointer (some ⟨hb, 0, none⟩)), (4, .pointer (some ⟨b4, 0, none⟩)), (6, .int .i64 ((oF (bstA fs kiln days) : Nat) : Int)), (7, .int .i64 ((oE (bstA fs kiln days) : Nat) : Int)), (8, .int .i64 (x1 : Int)), (9, .int .i64 (x2 : Int))]) ([.row 49 4 A4 fs.length c4 (fs.flatMap Flt.cells), .row 3 1 D4 days.length dc4 (ints days), .row 49 4 A3 fs.length c3 (fs.flatMap Flt.cells), .row 3 1 D3 days.length dc3 (ints days), .row 49 4 A2 fs.length c2 (fs.flatMap Flt.cells), .row 3 1 D2 days.length dc2 (ints days), .row 49 4 A1 fs.length c1 (fs.flatMap Flt.cells), .row 3 1 D1 days.length dc1 (ints days), .blk hb (hatO nA nums.length nc (tk + 1 + 1) (s2)), .blk b4 (.cells [.slice A fs.length c, .int .i64 (kiln : Int), .slice D days.length dc].toArray 27 (0, 0)), .row 49 4 A fs.length c (fs.flatMap Flt.cells), .row 3 1 D days.length dc (ints days)]) ((((([true, false, true, false, true, false, true, false, false, false, false, false, false, false, false, false].toArray).setIfInBounds 1 true).setIfInBounds 3 true).setIfInBounds 5 true).setIfInBounds 7 true) 4 rfl hS (zFj _ _ _ _).symm sbn ⟨rfl, rfl, rfl, rfl, trivial⟩ pkk kr (by decide) ⟨rfl, rfl, rfl, rfl, trivial⟩ ⟨⟨_, _, _, _, _, _, rfl, rfl, F.ti27, ⟨inferInstance⟩⟩, ⟨_, _, _, _, _, _, rfl, rfl, F.ti27, ⟨inferInstance⟩⟩, ⟨_, _, _, _, _, _, rfl, rfl, F.ti27, ⟨inferInstance⟩⟩, ⟨_, _, _, _, _, _, rfl, rfl, F.ti27, ⟨inferInstance⟩⟩, trivial⟩ sbl ?_))
 intro S hS h0
 obtain ⟨b10, b11, b12, b13, rfl⟩ := zQ3 hS h0
 show Any _ _ _ _ 4 [true, true, true, true, true, true, true, true, true, true, true, true, false, false, false, false].toArray [(49, .agg [.slice A4 fs.length c4, .int .i64 (kiln : Int), .slice D4 days.length dc4].toArray), (47, .agg [.slice A3 fs.length c3, .int .i64 (kiln : Int), .slice D3 days.length dc3].toArray), (45, .agg [.slice A2 fs.length c2, .int .i64 (kiln : Int), .slice D2 days.length dc2].toArray), (43, .agg [.slice A1 fs.length c1, .int .i64 (kiln : Int), .slice D1 days.length dc1].toArray), (3, .pointer (some ⟨hb, 0, none⟩)), (4, .pointer (some ⟨b4, 0, none⟩)), (6, .int .i64 ((oF (bstA fs kiln days) : Nat) : Int)), (7, .int .i64 ((oE (bstA fs kiln days) : Nat) : Int)), (8, .int .i64 (x1 : Int)), (9, .int .i64 (x2 : Int)), (10, .pointer (some ⟨b10, 0, none⟩)), (11, .pointer (some ⟨b11, 0, none⟩)), (12, .pointer (some ⟨b12, 0, none⟩)), (13, .pointer (some ⟨b13, 0, none⟩))] [.row 49 4 A4 fs.length c4 (fs.flatMap Flt.cells), .row 3 1 D4 days.length dc4 (ints days), .row 49 4 A3 fs.length c3 (fs.flatMap Flt.cells), .row 3 1 D3 days.length dc3 (ints days), .row 49 4 A2 fs.length c2 (fs.flatMap Flt.cells), .row 3 1 D2 days.length dc2 (ints days), .row 49 4 A1 fs.length c1 (fs.flatMap Flt.cells), .row 3 1 D1 days.length dc1 (ints days), .blk hb (hatO nA nums.length nc (tk + 1 + 1) (s2)), .blk b4 (.cells [.slice A fs.length c, .int .i64 (kiln : Int), .slice D days.length dc].toArray 27 (0, 0)), .row 49 4 A fs.length c (fs.flatMap Flt.cells), .row 3 1 D days.length dc (ints days), .blk b10 (.cells ([.slice none 0 0, .int .i64 0, .slice none 0 0] : List Value).toArray 27 (0, 0)), .blk b11 (.cells ([.slice none 0 0, .int .i64 0, .slice none 0 0] : List Value).toArray 27 (0, 0)), .blk b12 (.cells ([.slice none 0 0, .int .i64 0, .slice none 0 0] : List Value).toArray 27 (0, 0)), .blk b13 (.cells ([.slice none 0 0, .int .i64 0, .slice none 0 0] : List Value).toArray 27 (0, 0))]
 refine an1 12 rfl ?_
 refine zI rfl rfl F.ti27 rfl ?_
 refine zA (anb (an1 13 rfl ?_))
 refine zI rfl rfl F.ti27 rfl ?_
 refine zA (anb (an1 14 rfl ?_))
 refine zI rfl rfl F.ti27 rfl ?_
 refine zA (anb (an1 15 rfl ?_))
 refine zI rfl rfl F.ti27 rfl ?_
 refine zA (anb (adn (zC (zD (zB ?_)))))
 have hl1 : x1 < fs.length := by omega
 have hl2 : x2 < days.length := by omega
 refine zB0 A hf1 ?_
 intro gA hgA
 refine zB0 D hd1 ?_
 intro gD hgD
 refine zB0 A1 hf1 ?_
 intro g1 hg1
 refine zB0 A2 hf1 ?_
 intro g2 hg2
 refine zB0 A3 hf1 ?_
 intro g3 hg3
 refine zB0 D4 hd1 ?_
 intro g4 hg4
 obtain ⟨f, hx⟩ : ∃ x, fs[x1]? = some x := ⟨_, List.getElem?_eq_getElem hl1⟩
 obtain ⟨dv, hy⟩ : ∃ x, days[x2]? = some x := ⟨_, List.getElem?_eq_getElem hl2⟩
 have hdv := hc.dd dv (List.mem_of_getElem? hy)
 have hfo := hc.ff f (List.mem_of_getElem? hx)
 obtain ⟨pw, gn, nw, wd⟩ := f
 obtain ⟨hp1, hp4, hgp, hnp⟩ := hfo
 dsimp only at hp1 hp4 hgp hnp
 refine zL rfl rfl F.fi27_0 F.ti25 ?_
 refine zR rfl rfl F.one25 ?_
 refine zF rfl rfl (kW (j := x1) rfl (show _ = some (Value.slice (some ⟨gA, 0, none⟩) fs.length c) from by rw [<- hgA]; rfl) rfl Try.underlying25 F.ti49 rfl hl1 ?_)
 refine qN (l := [.int .i64 (pw : Int), .int .i64 (gn : Int), .int .i64 (nw : Int), .bool wd]) rfl rfl F.agg49 F.ti49 rfl (fun a w ha j u hu => by
  obtain ⟨b9, o9, h1, _, h3⟩ := yD (A := A) (l := fs) ha rfl om
  rw [hgA] at h1
  cases h1
  exact h3 x1 _ hx j u hu) ?_
 refine zT rfl F.ti49 ?_
 intro b14
 refine zI rfl rfl F.ti49 rfl ?_
 refine zA (zC (zD (kB [.b hb, .r A1, .r A2, .r A3, .r D4] F.follows 42 rfl [false, false, false, false, false, false, false, false, false, false, false, false, false, false, false, false, false, false, false, false, false, false, false, false, false, false, false, false, false, false, false, false, false, false, false, false, false, false, false, false, false, false] rfl ?_)))
 refine zG 0 rfl rfl rfl (zO rfl F.fi27_0 F.ti25) ?_
 refine zG 1 rfl rfl rfl (jN rfl F.one25) ?_
 refine zG 2 rfl rfl rfl (jG rfl) ?_
 refine zG 3 rfl rfl rfl (zO rfl F.fi27_0 F.ti25) ?_
 refine zG 4 rfl rfl rfl (jN rfl F.one25) ?_
 refine zG 5 rfl rfl rfl (jG rfl) ?_
 refine zG 6 rfl rfl rfl (zO rfl F.fi27_0 F.ti25) ?_
 refine zG 7 rfl rfl rfl (jN rfl F.one25) ?_
 refine zG 8 rfl rfl rfl (jG rfl) ?_
 refine zG 9 rfl rfl rfl (zO rfl F.fi27_2 F.ti22) ?_
 refine zG 10 rfl rfl rfl (jN rfl F.one22) ?_
 refine zG 11 rfl rfl rfl (jG rfl) ?_
 refine zG 12 rfl rfl rfl (jG rfl) ?_
 refine zG 13 rfl rfl rfl (zO rfl F.fi49_2 F.ti3) ?_
 refine zG 14 rfl rfl rfl (jN rfl F.one3) ?_
 refine zG 15 rfl rfl rfl (zO rfl F.fi49_0 F.ti3) ?_
 refine zG 16 rfl rfl rfl (jN rfl F.one3) ?_
 refine zG 18 rfl rfl rfl (jG rfl) ?_
 refine zG 19 rfl rfl rfl (zO rfl F.fi49_1 F.ti3) ?_
 refine zG 20 rfl rfl rfl (jN rfl F.one3) ?_
 refine zG 21 rfl rfl rfl (zO rfl F.fi49_0 F.ti3) ?_
 refine zG 22 rfl rfl rfl (jN rfl F.one3) ?_
 refine zG 24 rfl rfl rfl (jG rfl) ?_
 refine zG 25 rfl rfl rfl (zO rfl F.fi27_2 F.ti22) ?_
 refine zG 26 rfl rfl rfl (jN rfl F.one22) ?_
 refine zG 27 rfl rfl rfl (jG rfl) ?_
 refine zG 28 rfl rfl rfl (vF (j := x2) (show _ = some (Value.slice (some ⟨gD, 0, none⟩) days.length dc) from by rw [<- hgD]; rfl) rfl Try.underlying22 F.ti3 rfl hl2) ?_
 refine zG 29 rfl rfl rfl (qH (v := .int .i64 (dv : Int)) rfl F.one3 (fun a w ha => zD6 ha (InR.mem (A := D)) hgD (by rw [show 0 + x2 * 1 = x2 from by omega, zUm hy]))) ?_
 refine an1 17 rfl ?_
 refine zEf (lo := nw) (hi := pw) rfl rfl rfl rfl hN hs2 om om om ?_
 rintro s3 y1 hs3 hy1a hy1b
 refine zA (anb (an1 23 rfl ?_))
 refine zEf (lo := gn) (hi := pw) rfl rfl rfl rfl hN hs3 om om om ?_
 rintro s4 y2 hs4 hy2a hy2b
 refine zA (anb (an1 30 rfl ?_))
 refine vE rfl rfl rfl rfl hN hs4 om om ?_
 rintro s5 x3 hs5 hx3
 refine zA (anb (an1 31 rfl ?_))
 refine kW (j := x1) rfl (show _ = some (Value.slice (some ⟨g1, 0, none⟩) fs.length c1) from by rw [<- hg1]; rfl) rfl Try.underlying25 F.ti49 rfl hl1 ?_
 refine zA (anb (an1 32 rfl ?_))
 refine vG (b := g1) (o := 0 + x1 * 4) rfl rfl F.fi49_2 F.ti3 ?_
 refine zA (anb (an1 33 rfl ?_))
 refine wT (A := A1) ((fs.set x1 (⟨pw, gn, y1, wd⟩ : Flt)).flatMap Flt.cells) (show _ = some (Value.pointer (some ⟨g1, 0 + x1 * 4 + 2, none⟩)) from rfl) rfl F.ti3 hg1 (by rw [zAm]; omega) (by rw [show 0 + x1 * 4 + 2 = x1 * 4 + 2 from by omega]; exact zFh hx om rfl) ?_
 refine zA (anb (an1 34 rfl ?_))
 refine kW (j := x1) rfl (show _ = some (Value.slice (some ⟨g2, 0, none⟩) fs.length c2) from by rw [<- hg2]; rfl) rfl Try.underlying25 F.ti49 rfl hl1 ?_
 refine zA (anb (an1 35 rfl ?_))
 refine vG (b := g2) (o := 0 + x1 * 4) rfl rfl F.fi49_3 F.ti4 ?_
 refine zA (anb (an1 36 rfl ?_))
 refine wT (A := A2) ((fs.set x1 (⟨pw, gn, nw, false⟩ : Flt)).flatMap Flt.cells) (show _ = some (Value.pointer (some ⟨g2, 0 + x1 * 4 + 3, none⟩)) from rfl) rfl F.ti4 hg2 (by rw [zAm]; omega) (by rw [show 0 + x1 * 4 + 3 = x1 * 4 + 3 from by omega]; exact zFh hx om rfl) ?_
 refine zA (anb (an1 37 rfl ?_))
 refine kW (j := x1) rfl (show _ = some (Value.slice (some ⟨g3, 0, none⟩) fs.length c3) from by rw [<- hg3]; rfl) rfl Try.underlying25 F.ti49 rfl hl1 ?_
 refine zA (anb (an1 38 rfl ?_))
 refine vG (b := g3) (o := 0 + x1 * 4) rfl rfl F.fi49_1 F.ti3 ?_
 refine zA (anb (an1 39 rfl ?_))
 refine wT (A := A3) ((fs.set x1 (⟨pw, y2, nw, wd⟩ : Flt)).flatMap Flt.cells) (show _ = some (Value.pointer (some ⟨g3, 0 + x1 * 4 + 1, none⟩)) from rfl) rfl F.ti3 hg3 (by rw [zAm]; omega) (by rw [show 0 + x1 * 4 + 1 = x1 * 4 + 1 from by omega]; exact zFh hx om rfl) ?_
 refine zA (anb (an1 40 rfl ?_))
 refine kW (j := x2) rfl (show _ = some (Value.slice (some ⟨g4, 0, none⟩) days.length dc4) from by rw [<- hg4]; rfl) rfl Try.underlying22 F.ti3 rfl hl2 ?_
 refine zA (anb (an1 41 rfl ?_))
 refine wT (A := D4) (ints (days.set x2 x3)) (show _ = some (Value.pointer (some ⟨g4, 0 + x2 * 1, none⟩)) from rfl) rfl F.ti3 hg4 (by rw [zCd]; omega) (by rw [show 0 + x2 * 1 = x2 from by omega, zSc]) ?_
 refine zA (anb (adn (zC (zD (zB (jB rfl rfl F.agg27 F.ti27 ?_))))))
 refine jB rfl rfl F.agg27 F.ti27 ?_
 refine jB rfl rfl F.agg27 F.ti27 ?_
 refine jB rfl rfl F.agg27 F.ti27 ?_
 refine yB (vs := [(0, .agg ([.slice A1 fs.length c1, .int .i64 (kiln : Int), .slice D1 days.length dc1] : List Value).toArray), (1, .agg ([.slice A2 fs.length c2, .int .i64 (kiln : Int), .slice D2 days.length dc2] : List Value).toArray), (2, .agg ([.slice A3 fs.length c3, .int .i64 (kiln : Int), .slice D3 days.length dc3] : List Value).toArray), (3, .agg ([.slice A4 fs.length c4, .int .i64 (kiln : Int), .slice D4 days.length dc4] : List Value).toArray)]) [.slice A1 fs.length c1, .int .i64 (kiln : Int), .slice D1 days.length dc1, .slice A2 fs.length c2, .int .i64 (kiln : Int), .slice D2 days.length dc2, .slice A3 fs.length c3, .int .i64 (kiln : Int), .slice D3 days.length dc3, .slice A4 fs.length c4, .int .i64 (kiln : Int), .slice D4 days.length dc4] rfl rfl Try.underlying55 F.ti27 rfl rfl rfl (Lit.agg (l1 := [.slice A1 fs.length c1, .int .i64 (kiln : Int), .slice D1 days.length dc1]) rfl (Lit.agg (l1 := [.slice A2 fs.length c2, .int .i64 (kiln : Int), .slice D2 days.length dc2]) rfl (Lit.agg (l1 := [.slice A3 fs.length c3, .int .i64 (kiln : Int), .slice D3 days.length dc3]) rfl (Lit.agg (l1 := [.slice A4 fs.length c4, .int .i64 (kiln : Int), .slice D4 days.length dc4]) rfl (rfl))))) ?_
 intro b97
 refine zE rfl rfl (zA (zC (zD (zD (zB (zE rfl rfl (zA (zC (jC (zAa (G := Nat) (fun k => k <= 4) (fun k => 4 - k) (fun k => [(6, .int .i64 ((oF (bstA fs kiln days) : Nat) : Int)), (7, .int .i64 ((oE (bstA fs kiln days) : Nat) : Int)), (15, .slice (some ⟨b97, 0, none⟩) 4 4), (16, .int .i64 (k : Int))]) (fun _ => [.blk b97 (.cells [.slice A1 fs.length c1, .int .i64 (kiln : Int), .slice D1 days.length dc1, .slice A2 fs.length c2, .int .i64 (kiln : Int), .slice D2 days.length dc2, .slice A3 fs.length c3, .int .i64 (kiln : Int), .slice D3 days.length dc3, .slice A4 fs.length c4, .int .i64 (kiln : Int), .slice D4 days.length dc4].toArray 27 (0, 0)), .row 49 4 A1 fs.length c1 ((fs.set x1 (⟨pw, gn, y1, wd⟩ : Flt)).flatMap Flt.cells), .row 3 1 D1 days.length dc1 (ints days), .row 49 4 A2 fs.length c2 ((fs.set x1 (⟨pw, gn, nw, false⟩ : Flt)).flatMap Flt.cells), .row 3 1 D2 days.length dc2 (ints days), .row 49 4 A3 fs.length c3 ((fs.set x1 (⟨pw, y2, nw, wd⟩ : Flt)).flatMap Flt.cells), .row 3 1 D3 days.length dc3 (ints days), .row 49 4 A4 fs.length c4 (fs.flatMap Flt.cells), .row 3 1 D4 days.length dc4 (ints (days.set x2 x3))]) 0 (Nat.zero_le _) sbn pkk ?_))))))))))
 intro k hk0
 (try dsimp only at hk0 ⊢)
 refine zD (zD (zB (zF rfl rfl (zF rfl rfl (kH rfl rfl Try.underlying55 ?_)))))
 refine zJ rfl rfl rfl kL ?_
 refine zA (zC (zS rfl (fun hc0 => ?_) (fun hc0 => ?_)))
 ·have hk : k < 4 := by omega
  refine zV (zC (zD (jC (zD (xV (G := Nat × Nat) (fun g => (g.2 = 0 ∨ g.2 = 11) ∧ (oE (bstA fs kiln days) = 0 -> g.2 = 0 ∧ g.1 <= oF (bstA fs kiln days))) (fun g => [(6, .int .i64 ((oF (bstA fs kiln days) : Nat) : Int)), (7, .int .i64 ((oE (bstA fs kiln days) : Nat) : Int)), (15, .slice (some ⟨b97, 0, none⟩) 4 4), (16, .int .i64 (k : Int)), (18, .int .i64 (g.1 : Int)), (19, .int .i64 (g.2 : Int))]) (fun _ => [.blk b97 (.cells [.slice A1 fs.length c1, .int .i64 (kiln : Int), .slice D1 days.length dc1, .slice A2 fs.length c2, .int .i64 (kiln : Int), .slice D2 days.length dc2, .slice A3 fs.length c3, .int .i64 (kiln : Int), .slice D3 days.length dc3, .slice A4 fs.length c4, .int .i64 (kiln : Int), .slice D4 days.length dc4].toArray 27 (0, 0)), .row 49 4 A1 fs.length c1 ((fs.set x1 (⟨pw, gn, y1, wd⟩ : Flt)).flatMap Flt.cells), .row 3 1 D1 days.length dc1 (ints days), .row 49 4 A2 fs.length c2 ((fs.set x1 (⟨pw, gn, nw, false⟩ : Flt)).flatMap Flt.cells), .row 3 1 D2 days.length dc2 (ints days), .row 49 4 A3 fs.length c3 ((fs.set x1 (⟨pw, y2, nw, wd⟩ : Flt)).flatMap Flt.cells), .row 3 1 D3 days.length dc3 (ints days), .row 49 4 A4 fs.length c4 (fs.flatMap Flt.cells), .row 3 1 D4 days.length dc4 (ints (days.set x2 x3))]) ?_ ?_)))))
  ·obtain rfl | rfl | rfl | rfl : k = 0 ∨ k = 1 ∨ k = 2 ∨ k = 3 := by omega
   ·refine zB (zF rfl rfl (zF rfl rfl (kW (j := 0) rfl rfl rfl Try.underlying55 F.ti27 rfl (by decide) ?_)))
    show Lst _ _ _ _ ((107, .pointer (some ⟨b97, 0, none⟩)) :: _) _
    refine jB rfl rfl F.agg27 F.ti27 ?_
    refine kP (X := Option Addr × Nat × Nat) (vs := [_]) (p := fun _ => True) (val := fun g => .tuple #[.slice g.1 g.2.1 g.2.2, .int .i64 ((oF (bstA (fs.set x1 (⟨pw, gn, y1, wd⟩ : Flt)) kiln days) : Nat) : Int), .int .i64 ((oE (bstA (fs.set x1 (⟨pw, gn, y1, wd⟩ : Flt)) kiln days) : Nat) : Int)]) (rs := fun _ => []) rfl rfl F.ent15 (fun a w ha => ?_) ?_
    ·have h := zBh (fA := A1) (fc := c1) (dA := D1) (dc := dc1) (hc.setf (by exact ⟨hp1, hp4, hgp, hy1b⟩)) w (yD (A := A1) ha (by simp)) (yS (A := D1) ha (by simp))
     rw [List.length_set] at h
     exact h.mono (fun e w' h => by obtain ⟨oA', on', oc', h1, h2⟩ := h; exact ⟨(oA', on', oc'), trivial, h1, h2⟩)
    rintro ⟨oA, on, oc⟩ -
    dsimp only [List.nil_append]
    refine zF rfl rfl (zP rfl rfl rfl (zP rfl rfl rfl (zP rfl rfl rfl (zE rfl rfl (zE rfl rfl (zE rfl rfl (zA ?_)))))))
    exact jU (oF (bstA (fs.set x1 (⟨pw, gn, y1, wd⟩ : Flt)) kiln days), oE (bstA (fs.set x1 (⟨pw, gn, y1, wd⟩ : Flt)) kiln days)) (strongL fun h => stronger hc hx (by exact ⟨hp1, hp4, hgp, hy1b⟩) rfl (Nat.le_refl _) hy1a id h) sbn pkk
   ·refine zB (zF rfl rfl (zF rfl rfl (kW (j := 1) rfl rfl rfl Try.underlying55 F.ti27 rfl (by decide) ?_)))
    show Lst _ _ _ _ ((107, .pointer (some ⟨b97, 3, none⟩)) :: _) _
    refine jB rfl rfl F.agg27 F.ti27 ?_
    refine kP (X := Option Addr × Nat × Nat) (vs := [_]) (p := fun _ => True) (val := fun g => .tuple #[.slice g.1 g.2.1 g.2.2, .int .i64 ((oF (bstA (fs.set x1 (⟨pw, gn, nw, false⟩ : Flt)) kiln days) : Nat) : Int), .int .i64 ((oE (bstA (fs.set x1 (⟨pw, gn, nw, false⟩ : Flt)) kiln days) : Nat) : Int)]) (rs := fun _ => []) rfl rfl F.ent15 (fun a w ha => ?_) ?_
    ·have h := zBh (fA := A2) (fc := c2) (dA := D2) (dc := dc2) (hc.setf (by exact ⟨hp1, hp4, hgp, hnp⟩)) w (yD (A := A2) ha (by simp)) (yS (A := D2) ha (by simp))
     rw [List.length_set] at h
     exact h.mono (fun e w' h => by obtain ⟨oA', on', oc', h1, h2⟩ := h; exact ⟨(oA', on', oc'), trivial, h1, h2⟩)
    rintro ⟨oA, on, oc⟩ -
    dsimp only [List.nil_append]
    refine zF rfl rfl (zP rfl rfl rfl (zP rfl rfl rfl (zP rfl rfl rfl (zE rfl rfl (zE rfl rfl (zE rfl rfl (zA ?_)))))))
    exact jU (oF (bstA (fs.set x1 (⟨pw, gn, nw, false⟩ : Flt)) kiln days), oE (bstA (fs.set x1 (⟨pw, gn, nw, false⟩ : Flt)) kiln days)) (strongL fun h => stronger hc hx (by exact ⟨hp1, hp4, hgp, hnp⟩) rfl (Nat.le_refl _) (Nat.le_refl _) (by intro e; cases e) h) sbn pkk
   ·refine zB (zF rfl rfl (zF rfl rfl (kW (j := 2) rfl rfl rfl Try.underlying55 F.ti27 rfl (by decide) ?_)))
    show Lst _ _ _ _ ((107, .pointer (some ⟨b97, 6, none⟩)) :: _) _
    refine jB rfl rfl F.agg27 F.ti27 ?_
    refine kP (X := Option Addr × Nat × Nat) (vs := [_]) (p := fun _ => True) (val := fun g => .tuple #[.slice g.1 g.2.1 g.2.2, .int .i64 ((oF (bstA (fs.set x1 (⟨pw, y2, nw, wd⟩ : Flt)) kiln days) : Nat) : Int), .int .i64 ((oE (bstA (fs.set x1 (⟨pw, y2, nw, wd⟩ : Flt)) kiln days) : Nat) : Int)]) (rs := fun _ => []) rfl rfl F.ent15 (fun a w ha => ?_) ?_
    ·have h := zBh (fA := A3) (fc := c3) (dA := D3) (dc := dc3) (hc.setf (by exact ⟨hp1, hp4, hy2b, hnp⟩)) w (yD (A := A3) ha (by simp)) (yS (A := D3) ha (by simp))
     rw [List.length_set] at h
     exact h.mono (fun e w' h => by obtain ⟨oA', on', oc', h1, h2⟩ := h; exact ⟨(oA', on', oc'), trivial, h1, h2⟩)
    rintro ⟨oA, on, oc⟩ -
    dsimp only [List.nil_append]
    refine zF rfl rfl (zP rfl rfl rfl (zP rfl rfl rfl (zP rfl rfl rfl (zE rfl rfl (zE rfl rfl (zE rfl rfl (zA ?_)))))))
    exact jU (oF (bstA (fs.set x1 (⟨pw, y2, nw, wd⟩ : Flt)) kiln days), oE (bstA (fs.set x1 (⟨pw, y2, nw, wd⟩ : Flt)) kiln days)) (strongL fun h => stronger hc hx (by exact ⟨hp1, hp4, hy2b, hnp⟩) rfl hy2a (Nat.le_refl _) id h) sbn pkk
   ·refine zB (zF rfl rfl (zF rfl rfl (kW (j := 3) rfl rfl rfl Try.underlying55 F.ti27 rfl (by decide) ?_)))
    show Lst _ _ _ _ ((107, .pointer (some ⟨b97, 9, none⟩)) :: _) _
    refine jB rfl rfl F.agg27 F.ti27 ?_
    refine kP (X := Option Addr × Nat × Nat) (vs := [_]) (p := fun _ => True) (val := fun g => .tuple #[.slice g.1 g.2.1 g.2.2, .int .i64 ((oF (bstA fs kiln (days.set x2 x3)) : Nat) : Int), .int .i64 ((oE (bstA fs kiln (days.set x2 x3)) : Nat) : Int)]) (rs := fun _ => []) rfl rfl F.ent15 (fun a w ha => ?_) ?_
    ·have h := zBh (fA := A4) (fc := c4) (dA := D4) (dc := dc4) (hc.set om) w (yD (A := A4) ha (by simp)) (yS (A := D4) ha (by simp))
     rw [List.length_set] at h
     exact h.mono (fun e w' h => by obtain ⟨oA', on', oc', h1, h2⟩ := h; exact ⟨(oA', on', oc'), trivial, h1, h2⟩)
    rintro ⟨oA, on, oc⟩ -
    dsimp only [List.nil_append]
    refine zF rfl rfl (zP rfl rfl rfl (zP rfl rfl rfl (zP rfl rfl rfl (zE rfl rfl (zE rfl rfl (zE rfl rfl (zA ?_)))))))
    exact jU (oF (bstA fs kiln (days.set x2 x3)), oE (bstA fs kiln (days.set x2 x3))) (strongL fun h => zPo hc hy om h) sbn pkk
  ·rintro ⟨f1, e1⟩ ⟨he1, hee⟩
   dsimp only at he1 hee ⊢
   refine zC (zD ?_)
   rcases his : (bstA fs kiln days).is with _ | _
   ·have hE0 : oE (bstA fs kiln days) = 11 := by unfold oE; rw [his]; rfl
    rw [hE0]
    rcases he1 with rfl | rfl
    ·refine zB (zF rfl rfl (zJ (v := .bool false) rfl rfl rfl (fun w => by rw [qU, decide_eq_false om]) ?_))
     refine zF rfl rfl (zY rfl rfl rfl (zY rfl rfl rfl (jL rfl rfl rfl (zF rfl rfl (zM rfl rfl (zF rfl rfl (zM rfl rfl (zJ (v := .bool false) rfl rfl rfl (fun w => by rw [jY, decide_eq_false om]) ?_))))))))
     refine zM rfl rfl (zF rfl rfl (zY rfl rfl rfl (zY rfl rfl rfl (zY rfl rfl rfl (kC rfl rfl rfl (kC rfl rfl rfl (kC rfl rfl rfl (zY rfl rfl rfl (zM rfl rfl (jL rfl rfl rfl (jL rfl rfl rfl (zA (zC (kJ rfl (zV (zN (zC (zB (zF rfl rfl (zJ rfl rfl rfl (fun w => jP w (jA _ om om)) ?_))))))))))))))))))))
     refine zE rfl rfl (zA (xU (k + 1) om tdo sbn pkk))
    ·refine zB (zF rfl rfl (zJ (v := .bool true) rfl rfl rfl (fun w => by rw [qU, decide_eq_true om]) ?_))
     refine zF rfl rfl (zM rfl rfl (zF rfl rfl (zM rfl rfl (zJ (v := .bool false) rfl rfl rfl (fun w => by rw [qU, decide_eq_false om]) ?_))))
     refine jF rfl rfl rfl (zF rfl rfl (zM rfl rfl (zF rfl rfl (zM rfl rfl (zJ (v := .bool false) rfl rfl rfl (fun w => by rw [jY, decide_eq_false om]) ?_)))))
     refine zM rfl rfl (zF rfl rfl (zY rfl rfl rfl (zY rfl rfl rfl (zY rfl rfl rfl (kC rfl rfl rfl (kC rfl rfl rfl (kC rfl rfl rfl (zY rfl rfl rfl (zM rfl rfl (jL rfl rfl rfl (jL rfl rfl rfl (zA (zC (kJ rfl (zV (zN (zC (zB (zF rfl rfl (zJ rfl rfl rfl (fun w => jP w (jA _ om om)) ?_))))))))))))))))))))
     refine zE rfl rfl (zA (xU (k + 1) om tdo sbn pkk))
   ·refine zB ?_
    have hE0 : oE (bstA fs kiln days) = 0 := by unfold oE; rw [his]; rfl
    rw [hE0]
    obtain ⟨rfl, hle⟩ := hee hE0
    refine zF rfl rfl (zJ (v := .bool false) rfl rfl rfl (fun w => by rw [qU, decide_eq_false om]) ?_)
    refine zF rfl rfl (zY rfl rfl rfl (zY rfl rfl rfl (jL rfl rfl rfl (zF rfl rfl (zM rfl rfl (zF rfl rfl (zM rfl rfl (zJ (v := .bool true) rfl rfl rfl (fun w => by rw [jY, decide_eq_true (by rfl)]) ?_))))))))
    refine zM rfl rfl (zF rfl rfl (zM rfl rfl (zF rfl rfl (zM rfl rfl (zJ (v := .bool false) rfl rfl rfl (fun w => by rw [qU, decide_eq_false om]) ?_)))))
    refine zM rfl rfl (zF rfl rfl (zM rfl rfl (zF rfl rfl (zM rfl rfl (zF rfl rfl (zM rfl rfl (zJ (v := .bool false) rfl rfl rfl (fun w => by rw [zAp, decide_eq_false om]) ?_)))))))
    refine zM rfl rfl (jL rfl rfl rfl (zM rfl rfl (jF rfl rfl rfl (jL rfl rfl rfl (zA (zC (kJ rfl (zV (zN (zC (zB (zF rfl rfl (zJ rfl rfl rfl (fun w => jP w (jA _ om om)) ?_)))))))))))))
    refine zE rfl rfl (zA (xU (k + 1) om tdo sbn pkk))
 ·refine kG (zW (zW (jK (zC (zD ?_)))))
  rcases his : (bstA fs kiln days).is with _ | _
  ·refine zB ?_
   rw [show oE (bstA fs kiln days) = 11 from by unfold oE; rw [his]; rfl]
   refine zF rfl rfl (zJ (v := .bool false) rfl rfl rfl (fun w => by rw [jY, decide_eq_false om]) ?_)
   refine zF rfl rfl (zM rfl rfl (zF rfl rfl (zM rfl rfl (zJ (v := .bool true) rfl rfl rfl (fun w => by rw [jY, decide_eq_true (by rfl)]) ?_))))
   refine jL rfl rfl rfl (zF rfl rfl (zM rfl rfl (jM (v := .bool true) (vs := []) rfl rfl F.ent20 (fun a w ha => zJc w (hR.later ha.below)) ?_)))
   refine jF rfl rfl rfl (zE rfl rfl (zA (zC (zU ?_))))
   exact jH rfl (fun a w ha => jO rfl rfl ha) (fun a w ha => ⟨rfl, ha.grown nsl⟩)
  ·refine zB ?_
   rw [show oE (bstA fs kiln days) = 0 from by unfold oE; rw [his]; rfl]
   refine zF rfl rfl (zJ (v := .bool true) rfl rfl rfl (fun w => by rw [jY, decide_eq_true (by rfl)]) ?_)
   refine zF rfl rfl (zY rfl rfl rfl (zY rfl rfl rfl (jF rfl rfl rfl (zF rfl rfl (zM rfl rfl (jM (v := .bool true) (vs := []) rfl rfl F.ent20 (fun a w ha => zJc w (hR.later ha.below)) ?_))))))
   refine jF rfl rfl rfl (zE rfl rfl (zA (zC (zU (jH rfl (fun a w ha => jO rfl rfl ha) (fun a w ha => ?_))))))
   exact ⟨rfl, ha.grown nsl⟩

end Go.Proofs.Yteppiphdbondeaa.N
namespace Go.Proofs.Yteppiphdbondeaa.N
open Go Go.RowKit Go.Conc
set_option linter.unusedSectionVars false

def seenZ (W : World) : World := { seenW W with output := gout [0] }
theorem zQ8 (W : World) : Hid (Viewed W) (fun _ => False) W (seenZ W) := by
 have h := zQ6 W
 exact ⟨h.1, h.2, h.3, h.4, h.5, h.6, h.7, h.8, h.9, h.10⟩
theorem zO0 {W : World} {p : Addr} {u : Value} (h : W.cell? p = some u) : (seenZ W).cell? p = some u := zPa h
section
variable {P : Program} {W : World} {f : FuncId} {args : Array Value} {Post : Value -> World -> Prop}
theorem zMs {F : Nat -> Prop} {w w' v' : World} (hk : Kept F (fun _ => False) w w') (hv : Hid F (fun _ => False) w' v') (hb : Bas W (Viewed W) (fun i => i = 0) (fun _ => F) w) (hv0 : Below (seenZ W).heap.size (seenZ W) v') : Below W.heap.size W w' := by
 refine ⟨hk.os.trans hb.os, hk.tape.trans hb.tape, hk.output.trans hb.output, Nat.le_trans hb.size hk.size, fun b hlt => ?_⟩
 by_cases hF : F b
 ·rw [hk.block b (Nat.lt_of_lt_of_le hlt hb.size) (.inl hF)]
  exact (hb.held b (hb.new b hlt hF)).2.1
 ·rw [<- hv.same b hF (fun x => x), hv0.block b (by simpa [seenZ, seenW] using hlt)]
  show (seenW W).heap[b]? = _
  rw [zAj]
  cases h : W.heap[b]? with
  | none => rfl
  | some o =>
   cases o with
   | view p t => exact absurd ((hb.held b ⟨p, t, h⟩).2.2 0 rfl) hF
   | _ => rfl
def sig0 : Cst := ⟨0, 0, 0, [], 0, false, false, false, 0, 0, .rest, [], [], fun _ => none, []⟩
theorem zPr : sig0.blank := ⟨fun _ => rfl, rfl, rfl, rfl, rfl, rfl, rfl, rfl, rfl⟩
theorem zUd (low : Nat) : Cok low sig0 := by
 refine ⟨List.nodup_nil, rfl, fun j => ?_, fun j p h => (by cases h), fun b hb => (by cases hb), fun h => (by cases h), fun h => (by cases h), fun h => (by cases h), by decide, rfl, .nil, zPr⟩
 constructor
 ·intro h; cases h
 ·rintro ⟨p, h⟩; cases h
theorem zVm {low : Nat} {tW : TypeId} {msg : Nat -> Value} {σ : Cst} (hok : Cok low σ) (h : σ.gh 0 = some [0]) : Alone (Cp low tW msg) σ ∧ σ.lent = [] ∧ ∀ c, ¬ (Cst.ts σ).Ca c := by
 rw [zAd] at h
 have hp := hok.phase
 cases hm : σ.mn <;> rw [hm] at h <;> simp [Mn.enc] at h
 unfold Cst.phase at hp
 rw [hm] at hp
 obtain ⟨h1, h2, h3, h4, h5, h6, h7, h8, h9⟩ := hp
 refine ⟨?_, h9, fun c hc => ?_⟩
 ·refine ⟨fun j hj => wY hj h1, ?_⟩
  show (Cst.ts σ).D 0 = 0
  simp [Cst.ts, hm, Mn.deaf]
 ·rcases hc with ⟨h, _⟩ | ⟨h, _⟩ <;> omega
theorem zIj {low : Nat} {tW : TypeId} {msg : Nat -> Value} (hK : low = W.heap.size) (noInit : P.inits.idxOf? f = none)
  (h : @Calls P (zSys P (Cp low tW msg)) f args (seenZ W) fun e v' => ∃ x, e = .returned x ∧ Below (seenZ W).heap.size (seenZ W) v' ∧ ∀ W', Below W.heap.size W W' -> Post x W') :
  ∃ N last o w' t', runNT P (N + 1) (solo (G (Frame.enter P f args .normal) []) W) #[] = (.ended o w', t') ∧ runN P N (solo (G (Frame.enter P f args .normal) []) W) = .next last ∧ step P last = .ended o w' ∧ Go.Conc.Good P Post last o w' t' := by
 refine zWo (K := Cp low tW msg) (σ := sig0) (γ := [0]) zVy hK (zQ8 W) rfl (zUd low) rfl (fun j hj => zAe hj rfl) (fun b hb => (by cases hb)) rfl rfl (@Gs.mono P (zSys P (Cp low tW msg)) _ _ _ _ (h []) fun g v' hs => ?_)
 obtain ⟨e, fr, v₀, ⟨x, rfl, hb, hp⟩, hr, rfl, hfn, hm, hd, hkd, fn, hf, ht, hres⟩ := hs
 have hb' : Below (seenZ W).heap.size (seenZ W) v' := hb.trans (hr.mono hb.size)
 refine ⟨rfl, ⟨[0], hb'.output, fun σ hok hg => zVm hok hg⟩, fun F w hv hbas => ?_⟩
 obtain ⟨w', h1, h2, h3, h4, h5⟩ := ht.ok (hres v' (Rl.refl v')) hv
 have hno : P.inits.idxOf? fr.fn = none := by rw [hfn]; exact noInit
 refine ⟨x, w', seen P fr.fn ((results fn fr.tmps).events P v' #[]), ?_, ?_, hp w' (zMs h4 h3 hbas hb')⟩
 ·rw [<- h2]
  simp [G, stepG, unwind, doReturn, hm, hd, hkd, hf, h1, hno, GStep.after]
 ·rw [<- hv.size]
  exact fun e he => h5 e (Go.Conc.mem_seen he)
end
theorem zAi {H : Type} {enc : TypeId × Value -> H} {a : Assume} {C : Checked} {os : Os} {f : FuncId} {fn : Func} {s : ChangeSpec} {conds : List PathCond} {apart fresh handsOn again : Bool} (tW : TypeId) (msg : Nat -> Value)
  (own : ownKnob C.prog.godebug = none) (started : os.Started) (noInit : C.prog.inits.idxOf? f = none) (hfn : C.prog.funcs[f]? = some fn)
  (witness : ∃ (w : World) (tape : Tape) (i : Input), w.os = os ∧ (w.forCall tape i).Shaped C.prog ∧ i.vars = [] ∧ Input.okWide C.prog (w.forCall tape i) .any w.heap.size f i ∧
   s.pre6 enc C.prog fn conds apart (w.forCall tape i).memory i.args ∧ a.holds C.prog (lone (Frame.enter C.prog f i.args .normal) [] (w.forCall tape i)))
  (contract : ∀ (W : World) (base : Nat) (args : Array Value) (ds gs : List (DataW H)) (before : List MemPlace),
   (∀ (j : Nat) t v, fn.params[j]? = some t -> args[j]? = some v -> Value.okWide C.prog W .any base t v) ->
   DataW.Whole enc C.prog fn.params.toList s.vars apart W args.toList ds gs before ->
   conds.all (PathCond.test C.prog ⟨fn.params.toList, ds, s.plain.varTypes C.prog, gs⟩) = true ->
   (DataW.weightsEach C.prog (fn.params.toList ++ s.plain.varTypes C.prog) (ds ++ gs)).all (· <= reachBytes) = true ->
   a.holds C.prog (lone (Frame.enter C.prog f args .normal) [] W) ->
   @Calls C.prog (zSys C.prog (Cp W.heap.size tW msg)) f args (seenZ W) fun e v' => ∃ x, e = .returned x ∧ Below (seenZ W).heap.size (seenZ W) v' ∧ ∀ W', Below W.heap.size W W' -> s.post enc C.prog fn apart fresh handsOn again W args x W') :
  ReturnsInLeavingWide a C os f .any (s.pre6 enc C.prog fn conds apart) (s.post enc C.prog fn apart fresh handsOn again) := by
 refine returnsInLeavingWide_of_good own started witness ?_
 intro w tape i _ _ _ hok hpre hholds
 obtain ⟨_, _, _, fn', hfn', _, _, _, _, hval⟩ := hok
 have e : fn' = fn := Option.some.inj (hfn'.symm.trans hfn)
 subst e
 obtain ⟨⟨ds, gs, before, hw, hc⟩, hz⟩ := hpre
 have hw' := DataW.Whole.of_heap (w' := w.forCall tape i) (by rfl) hw
 have hcalls := contract (w.forCall tape i) w.heap.size i.args ds gs before hval hw' hc (hz.weights hw) hholds
 obtain ⟨M, last, o, w', t', h1, h2, h3, h4⟩ := zIj rfl noInit hcalls
 exact ⟨M, last, o, w', t', h1, h2, h3, h4.mono fun v hp => ChangeSpec.post_blind hp⟩
end Go.Proofs.Yteppiphdbondeaa.N
/- What rows of laws about char share: the program's closed facts, and the law from its call in company. -/
namespace Go.Proofs.Yteppiphdbondeaa.N
open Go Go.ChangeShapes Go.WideShapes Go.ChangeAt Go.RowKit Go.Proofs Go.Proofs.Yteppiphdbondeaa Go.Proofs.Yteppiphdbondeaa.Rows
set_option linter.unusedSectionVars false
theorem own_ : ownKnob Try.prog.godebug = Option.none := by kernel_rfl
theorem zLk : laidOutB Try.prog = true := by kernel_rfl
theorem zVf : Try.prog.cellsOf 3 = 1 := by kernel_rfl
theorem zRr : Try.prog.underlying 22 = some (.slice 3) := by kernel_rfl
theorem zYl : Try.prog.underlying 3 = some (.int .i64) := by kernel_rfl
theorem zYg : Try.prog.underlying 4 = some .bool := by kernel_rfl
theorem zU8 : Try.prog.readableRec 22 = true := by kernel_rfl
set_option maxRecDepth 100000 in
theorem zX9 : 22 < Try.prog.types.size := of_decide_eq_true (by kernel_rfl)
theorem zR7 {α : Type} {cells : α -> List Value} {size : Nat} {W : World} {A : Option Addr} {l : List α} (h : RdL cells size W A l) : RdL cells size (seenZ W) A l := fun hl => by
 obtain ⟨b, o, h1, h2, h3⟩ := h hl
 exact ⟨b, o, h1, by simpa [seenZ, seenW] using h2, fun k x hk j u hu => zO0 (h3 k x hk j u hu)⟩
abbrev ZS (W : World) : Sys := zSys Try.prog (Cp W.heap.size 131 msgM)
set_option maxRecDepth 100000 in
theorem zIo {H : Type} {enc : TypeId × Value -> H} {f : FuncId} {fn : Func} {s : ChangeSpec} (hp : fn.params = #[22]) (hr : fn.resultTypes = #[4]) (hs : s.vars = []) (hfn : ∀ d : DataW H, s.fn H [d] = { results := [.lit (.bool true)], args := [d] })
  (W : World) (law : ∀ (nA : Option Addr) (nc : Nat) (nums : List Int), RdL icell 1 (seenZ W) nA nums -> @Calls Try.prog (ZS W) f #[.slice nA nums.length nc] (seenZ W) fun e w' => e = .returned (.bool true) ∧ Grew (seenZ W) w' [])
  (base : Nat) (args : Array Value) (ds gs : List (DataW H)) (before : List MemPlace)
  (hval : ∀ (j : Nat) t v, fn.params[j]? = some t -> args[j]? = some v -> Value.okWide Try.prog W .any base t v)
  (hW : DataW.Whole enc Try.prog fn.params.toList s.vars false W args.toList ds gs before) :
  @Calls Try.prog (ZS W) f args (seenZ W) fun e v' => ∃ x, e = .returned x ∧ Below (seenZ W).heap.size (seenZ W) v' ∧ ∀ W', Below W.heap.size W W' -> s.post enc Try.prog fn false true false false W args x W' := by
 have hW' := hW
 obtain ⟨p, q, hA, hV, rfl, _, _⟩ := hW
 rw [hs] at hV
 rw [hp] at hA hval
 obtain ⟨v0, d0, rfl, rfl, h0⟩ := trodAll_one hA
 obtain ⟨rfl, rfl⟩ := trodVars_none hV
 obtain ⟨a0, len, cap, rfl⟩ := okWide_slice zRr (hval 0 22 v0 rfl rfl)
 have h0k := h0
 obtain ⟨fuel, hf⟩ := h0
 clear hA
 simp only [List.append_nil] at hW'
 have hlt : ∀ x ∈ p, x.block < W.heap.size := fun x hx => by simpa using hW'.lt x hx
 have hargs : ∀ (W' : World), Below W.heap.size W W' -> DataW.Trod enc Try.prog W' 0 (fun b => decide (b < W.heap.size)) true 22 (.slice a0 len cap) d0 p :=
  fun W' hn => Below.trod zLk zU8 zX9 h0k hn hlt
 have close : ∀ nums : List Int, nums.length = len -> RdL icell 1 W a0 nums -> @Calls Try.prog (ZS W) f #[.slice a0 len cap] (seenZ W) fun e v' => ∃ x, e = .returned x ∧ Below (seenZ W).heap.size (seenZ W) v' ∧ ∀ W', Below W.heap.size W W' -> s.post enc Try.prog fn false true false false W #[.slice a0 len cap] x W' := by
  intro nums hn hR
  have hl := law a0 cap nums (zR7 hR)
  rw [hn] at hl
  refine @Calls.mono _ (ZS W) _ _ _ _ _ hl fun e v' ⟨he, hg⟩ => ⟨_, he, hg.1, fun W' hb => ?_⟩
  refine ⟨_, _, _, [], p, [], hW', ?_, ?_, ?_, hb.frame _, fun h => Bool.noConfusion h⟩
  ·rw [show s.fn H ([d0] ++ []) = _ from hfn d0, hr]; exact trodAll_mk1 (shut_bool zYg true)
  ·rw [show s.fn H ([d0] ++ []) = _ from hfn d0, hp]; exact trodAll_mk1 (hargs W' hb)
  ·rw [show s.fn H ([d0] ++ []) = _ from hfn d0, hs]; rfl
 rcases open_ints zRr zYl zVf hf with ⟨hcs, hx⟩ | ⟨a, len', cap', zs, hcs, _, hl, hm, hz, hx, hcell, hwz⟩
 ·simp [Value.cells] at hcs
  obtain ⟨rfl, rfl, rfl⟩ := hcs
  exact close [] rfl (fun h => absurd h (by simp))
 ·simp [Value.cells] at hcs
  obtain ⟨rfl, rfl, rfl⟩ := hcs
  simp only [Prod.mk.injEq] at hx
  obtain ⟨rfl, rfl⟩ := hx
  simp only [if_true] at hz
  obtain ⟨b, off, spot⟩ := a
  refine close (zs.take len) (by rw [List.length_take]; omega) (fun hpos => ?_)
  rw [List.length_take] at hpos
  have hspot : spot = Option.none := by simpa [Addr.add] using World.cell?_spot (hcell 0 om)
  subst hspot
  refine ⟨b, off, rfl, hlt (.cell b off) (MemPlace.mem_row.2 ⟨0, by omega, by simp⟩), fun k x hk j u hu => ?_⟩
  rw [List.getElem?_take] at hk
  split at hk
  ·rename_i hkl
   cases j with
   | zero =>
    simp [icell] at hu
    subst hu
    have := hcell k om
    rw [List.getD_eq_getElem?_getD, hk] at this
    rw [Nat.mul_one, Nat.add_zero]
    rw [add_plain] at this
    exact this
   | succ j => simp [icell] at hu
  ·cases hk
def orderN : List Nat := [104, 97, 114, 110, 101, 115, 115, 32, 55, 101, 48, 57, 54, 53, 99, 53, 56, 54, 50, 48, 53, 101, 50, 57, 53, 97, 99, 57, 53, 56, 98, 100, 52, 101, 101, 55, 102, 54, 99, 102, 55, 100, 53, 102, 53, 50, 97, 49, 57, 102, 99, 99, 102, 52, 99, 49, 50, 48, 99, 54, 56, 48, 48, 100, 102, 98, 98, 53, 99, 54, 49, 48, 32, 99, 117, 116, 32, 97, 116, 32, 109, 117, 115, 99, 111, 118, 97, 100, 111, 47, 109, 117, 115, 99, 111, 118, 97, 100, 111, 108, 97, 119, 48, 52, 46, 67, 104, 97, 114, 70, 101, 119, 101, 115, 116, 32, 109, 117, 115, 99, 111, 118, 97, 100, 111, 47, 109, 117, 115, 99, 111, 118, 97, 100, 111, 108, 97, 119, 48, 52, 46, 67, 104, 97, 114, 70, 105, 114, 115, 116, 32, 109, 117, 115, 99, 111, 118, 97, 100, 111, 47, 109, 117, 115, 99, 111, 118, 97, 100, 111, 108, 97, 119, 48, 52, 46, 67, 104, 97, 114, 66, 117, 121, 32, 109, 117, 115, 99, 111, 118, 97, 100, 111, 47, 109, 117, 115, 99, 111, 118, 97, 100, 111, 108, 97, 119, 48, 52, 46, 67, 104, 97, 114, 83, 116, 114, 111, 110, 103, 101, 114, 32, 109, 117, 115, 99, 111, 118, 97, 100, 111, 47, 109, 117, 115, 99, 111, 118, 97, 100, 111, 108, 97, 119, 48, 52, 46, 67, 104, 97, 114, 67, 108, 101, 97, 114, 101, 100, 32, 109, 117, 115, 99, 111, 118, 97, 100, 111, 47, 109, 117, 115, 99, 111, 118, 97, 100, 111, 108, 97, 119, 48, 52, 46, 67, 104, 97, 114, 65, 103, 97, 105, 110, 32, 109, 117, 115, 99, 111, 118, 97, 100, 111, 47, 109, 117, 115, 99, 111, 118, 97, 100, 111, 108, 97, 119, 48, 52, 46, 67, 104, 97, 114, 78, 101, 101, 100, 101, 100, 32, 109, 117, 115, 99, 111, 118, 97, 100, 111, 47, 109, 117, 115, 99, 111, 118, 97, 100, 111, 108, 97, 119, 48, 52, 46, 67, 104, 97, 114, 76, 101, 102, 116, 32, 109, 117, 115, 99, 111, 118, 97, 100, 111, 47, 109, 117, 115, 99, 111, 118, 97, 100, 111, 108, 97, 119, 48, 52, 46, 67, 104, 97, 114, 77, 111, 115, 116, 32, 109, 117, 115, 99, 111, 118, 97, 100, 111, 47, 109, 117, 115, 99, 111, 118, 97, 100, 111, 108, 97, 119, 48, 52, 46, 67, 104, 97, 114, 75, 110, 111, 119, 110]
def wordsN : List (List Nat) := [[104, 97, 114, 110, 101, 115, 115], [55, 101, 48, 57, 54, 53, 99, 53, 56, 54, 50, 48, 53, 101, 50, 57, 53, 97, 99, 57, 53, 56, 98, 100, 52, 101, 101, 55, 102, 54, 99, 102, 55, 100, 53, 102, 53, 50, 97, 49, 57, 102, 99, 99, 102, 52, 99, 49, 50, 48, 99, 54, 56, 48, 48, 100, 102, 98, 98, 53, 99, 54, 49, 48], [99, 117, 116], [97, 116], [109, 117, 115, 99, 111, 118, 97, 100, 111, 47, 109, 117, 115, 99, 111, 118, 97, 100, 111, 108, 97, 119, 48, 52, 46, 67, 104, 97, 114, 70, 101, 119, 101, 115, 116], [109, 117, 115, 99, 111, 118, 97, 100, 111, 47, 109, 117, 115, 99, 111, 118, 97, 100, 111, 108, 97, 119, 48, 52, 46, 67, 104, 97, 114, 70, 105, 114, 115, 116], [109, 117, 115, 99, 111, 118, 97, 100, 111, 47, 109, 117, 115, 99, 111, 118, 97, 100, 111, 108, 97, 119, 48, 52, 46, 67, 104, 97, 114, 66, 117, 121], [109, 117, 115, 99, 111, 118, 97, 100, 111, 47, 109, 117, 115, 99, 111, 118, 97, 100, 111, 108, 97, 119, 48, 52, 46, 67, 104, 97, 114, 83, 116, 114, 111, 110, 103, 101, 114], [109, 117, 115, 99, 111, 118, 97, 100, 111, 47, 109, 117, 115, 99, 111, 118, 97, 100, 111, 108, 97, 119, 48, 52, 46, 67, 104, 97, 114, 67, 108, 101, 97, 114, 101, 100], [109, 117, 115, 99, 111, 118, 97, 100, 111, 47, 109, 117, 115, 99, 111, 118, 97, 100, 111, 108, 97, 119, 48, 52, 46, 67, 104, 97, 114, 65, 103, 97, 105, 110], [109, 117, 115, 99, 111, 118, 97, 100, 111, 47, 109, 117, 115, 99, 111, 118, 97, 100, 111, 108, 97, 119, 48, 52, 46, 67, 104, 97, 114, 78, 101, 101, 100, 101, 100], [109, 117, 115, 99, 111, 118, 97, 100, 111, 47, 109, 117, 115, 99, 111, 118, 97, 100, 111, 108, 97, 119, 48, 52, 46, 67, 104, 97, 114, 76, 101, 102, 116], [109, 117, 115, 99, 111, 118, 97, 100, 111, 47, 109, 117, 115, 99, 111, 118, 97, 100, 111, 108, 97, 119, 48, 52, 46, 67, 104, 97, 114, 77, 111, 115, 116], [109, 117, 115, 99, 111, 118, 97, 100, 111, 47, 109, 117, 115, 99, 111, 118, 97, 100, 111, 108, 97, 119, 48, 52, 46, 67, 104, 97, 114, 75, 110, 111, 119, 110]]
set_option maxRecDepth 100000 in
theorem zWi : Try.prog.initOrder = String.ofList (orderN.map Char.ofNat) := by kernel_rfl
theorem zUq : Try.prog.initOrder.toList = orderN.map Char.ofNat := by rw [zWi, String.toList_ofList]
def wordN (k : Nat) : List Char := (wordsN.getD k []).map Char.ofNat
def wordR : List (List Char) := (wordsN.drop 3).map (·.map Char.ofNat)
set_option maxRecDepth 100000 in
theorem zV5 : wordsSigns Try.prog.initOrder.toList = wordN 0 :: wordN 1 :: wordN 2 :: wordR := by
 rw [zUq]
 kernel_rfl
theorem zR1 {a b : List Char} {r : List (List Char)} (h1 : (a == "harness".toList || a == "ownmain".toList) = true) (h2 : isSumSigns b = true) : behindMainWord (a :: b :: r) = r := by
 unfold behindMainWord
 dsimp only
 rw [h1, h2]
 rfl
theorem zLy : behindMainWord (wordsSigns Try.prog.initOrder.toList) = wordN 2 :: wordR := by
 rw [zV5]
 exact zR1 kr kr
theorem zVv {P : Program} {c : List Char} {rest : List (List Char)} (h : behindMainWord (wordsSigns P.initOrder.toList) = c :: rest) (h1 : (c == "gc".toList || c == "spec".toList) = false) (h2 : (c == "cut".toList) = true) : P.make = some .cut := by
 unfold Program.make
 rw [h]
 dsimp only
 rw [h1, h2]
 rfl
theorem zV9 {P : Program} {c : List Char} {rest : List (List Char)} (h : behindMainWord (wordsSigns P.initOrder.toList) = c :: rest) (h1 : (stripLifts liftWords (c :: rest)).1 = []) (h2 : ((stripLifts liftWords (c :: rest)).2.head? == some "cut".toList) = true) (h3 : P.laysLater = false) (h4 : P.bearsReflect = false) (h5 : P.doorFits [] = true) : P.mayEnter = true := by
 unfold Program.mayEnter
 rw [h]
 dsimp only
 rw [h1, h2, h3, h4, h5]
 simp
theorem zT6 {P : Program} {c : List Char} {rest : List (List Char)} (h : behindMainWord (wordsSigns P.initOrder.toList) = c :: rest) (h1 : (stripLifts liftWords (c :: rest)).1 = []) (h2 : (c == "carried".toList) = false) : P.liftsFinal = false := by
 have e : (some c == some "carried".toList) = false := h2
 unfold Program.liftsFinal Program.headLifts
 dsimp only
 rw [h, h1, List.head?_cons, e]
 simp
theorem zH0 : (stripLifts liftWords (wordN 2 :: wordR)).1 = [] := by kernel_rfl
set_option maxRecDepth 100000 in
theorem zX3 : Try.prog.make = some .cut := zVv zLy (by kernel_rfl) (by kernel_rfl)
set_option maxRecDepth 100000 in
theorem zXo : Try.prog.liftsFinal = false := zT6 zLy zH0 (by kernel_rfl)
set_option maxRecDepth 100000 in
theorem zPh : Try.prog.laysLater = false := by kernel_rfl
set_option maxRecDepth 100000 in
theorem zKl : Try.prog.bearsReflect = false := by kernel_rfl
set_option maxRecDepth 100000 in
theorem zYq : Try.prog.doorFits [] = true := by kernel_rfl
set_option maxRecDepth 100000 in
theorem may_ : Try.prog.mayEnter = true := zV9 zLy zH0 (by kernel_rfl) zPh zKl zYq
set_option maxRecDepth 100000 in
theorem zO5 : mapsRowed Try.prog = true := by kernel_rfl
set_option maxRecDepth 100000 in
theorem zO4 : Try.prog.plainKeys = false := by kernel_rfl
set_option maxRecDepth 100000 in
theorem zNh : Try.prog.stopsHeard = true := by kernel_rfl
end Go.Proofs.Yteppiphdbondeaa.N
namespace Go.Proofs.Yteppiphdbondeaa.N
open Go Go.RowKit Go.Proofs
set_option linter.unusedSectionVars false
theorem zTd (W : World) : @RdC (ZS W) (reaC_main W.heap.size) (seenZ W) := ⟨by show W.heap.size <= (seenZ W).heap.size; simp [seenZ, seenW], rfl⟩
end Go.Proofs.Yteppiphdbondeaa.N
