/- Parts of the walk of the law CharCleared: T28, ChA, ChG, T30, ChU, ChD, ChAH, T39, ChAI, ChAJ, T42, ChAK, T43, T44, ChRow. -/
import Derived.Test.YteppiphdbondeaaSCharCleared09
import Derived.Test.YteppiphdbondeaaProg
import Derived.Test.YteppiphdbondeaaSCharCleared08
import Derived.Test.YteppiphdbondeaaSCharCleared05
import Derived.DeepKeys3
import Derived.ArgAppend
import Derived.Deep.Upon
import Derived.Test.YteppiphdbondeaaSCharCleared03
namespace Go.Proofs.Yteppiphdbondeaa.N
open Go Go.RowKit Go.Proofs
set_option linter.unusedSectionVars false
variable [I : Sys]
theorem F.ent14 : Enters Try.prog 14 := jD Try.func14 rfl (by kernel_rfl)
theorem F.ent27 : Enters Try.prog 27 := jD Try.func27 rfl (by kernel_rfl)
theorem zPh {C : Ctx} {fr : List (Nat × Value)} {T : List Res} {a : Act} {w : World} (hC : C.P = Try.prog) {hb tk st nc : Nat} {nA : Option Addr} {nums : List Int} (hB : C.w0.heap.size = C.B) (hN : RdL icell 1 C.w0 nA nums) (htk : tk <= 900000) (hst : st < 18446744073709551616) (ha : At C fr (.blk hb (hatO nA nums.length nc (tk) (st)) :: T) a w) : Calls C.P 27 #[.pointer (some ⟨hb, 0, none⟩)] w fun e w' => ∃ (tk' st' : Nat) (f : Flt), tk' <= tk + 10 ∧ st' < 18446744073709551616 ∧ FltOk f ∧ e = .returned (.agg [.int .i64 (f.power : Int), .int .i64 (f.gain : Int), .int .i64 (f.now : Int), .bool f.washed].toArray) ∧ At C fr (.blk hb (hatO nA nums.length nc (tk') (st')) :: T) a w' := by
 obtain ⟨P, B, w0, N0, ds⟩ := C
 obtain rfl : P = Try.prog := hC
 (try dsimp only at hB)
 (try dsimp only at hN)
 refine vQ (N := 30) [(0, .pointer (some ⟨hb, 0, none⟩))] ha Try.func27 rfl Try.ntmps27 rfl rfl ?_
 refine zD (zB (zU rfl F.ti49 ?_))
 intro b2
 refine zA (zC (zD (zB (zF rfl rfl (kD (vs := [(0, _), (1, _), (2, _), (3, _), (4, _), (5, _)]) rfl rfl Try.underlying22 F.ti3 rfl rfl rfl ?_)))))
 intro b5
 refine vM [1, 2, 2, 3, 3, 4] rfl rfl rfl hB hN hst om (by simp) (by simp) (InB.mem (b := b5)) ?_
 rintro s1 pw hs1 hpw
 simp only [List.mem_cons, List.not_mem_nil, or_false] at hpw
 refine jX (vs := [(0, _)]) (l' := [_, _, _, _]) rfl rfl F.ti49 F.pl49 (.cons rfl rfl (.nil _)) rfl ?_
 refine zU rfl F.ti49 ?_
 intro b3
 refine zI rfl rfl F.ti49 rfl ?_
 refine zA (zC (zD (vG (G := Nat × Nat) (fun g => g.1 < 18446744073709551616 ∧ g.2 <= pw) (fun g => [(0, .pointer (some ⟨hb, 0, none⟩)), (2, .pointer (some ⟨b2, 0, none⟩)), (3, .pointer (some ⟨b3, 0, none⟩))]) (fun g => .blk hb (hatO nA nums.length nc (tk + 1 + 1 + 1) (g.1)) :: .blk b3 (.cells [.int .i64 (pw : Int), .int .i64 (g.2 : Int), .int .i64 (pw : Int), .bool false].toArray 49 (0, 0)) :: .blk b2 (.cells [.int .i64 0, .int .i64 0, .int .i64 0, .bool false].toArray 49 (0, 0)) :: T) ?_ ?_)))
 ·refine kB [.b b3, .b hb] F.follows 13 rfl [false, false, false, false, false, false, false, false, false, false, false, false, false] rfl ?_
  refine zG 0 rfl rfl rfl (zY rfl) ?_
  refine zG 1 rfl rfl rfl (zY rfl) ?_
  refine zG 2 rfl rfl rfl (zV rfl F.fi49_0 F.ti3) ?_
  refine zG 7 rfl rfl rfl (zV rfl F.fi49_0 F.ti3) ?_
  refine qN 3 8 kr rfl rfl rfl rfl ?_ ?_
  ·refine zO rfl rfl F.one3 ?_
   refine zA (anb (qN 4 8 kr rfl rfl rfl rfl ?_ ?_))
   ·refine yG rfl rfl rfl hB hN hs1 om om ?_
    rintro s2 g1 hs2 hg1
    refine zA (anb (qN 5 8 kr rfl rfl rfl rfl ?_ ?_))
    ·refine kD (vs := [(0, _), (1, _), (2, _), (3, _)]) rfl rfl Try.underlying22 F.ti3 rfl rfl rfl ?_
     intro b13
     refine zA (anb (qN 6 8 kr rfl rfl rfl rfl ?_ ?_))
     ·refine vM [0, 1, 1, g1] rfl rfl rfl hB hN hs2 om (by simp) (by simp) (InB.mem (b := b13)) ?_
      rintro s3 gn hs3 hgn
      simp only [List.mem_cons, List.not_mem_nil, or_false] at hgn
      refine zA (anb (an1 8 rfl ?_))
      refine zO rfl rfl F.one3 ?_
      refine zA (anb (zG 9 rfl rfl rfl (zV rfl F.fi49_1 F.ti3) ?_))
      refine an1 10 rfl ?_
      refine zI rfl rfl F.ti3 rfl ?_
      refine zA (anb (zG 11 rfl rfl rfl (zV rfl F.fi49_2 F.ti3) ?_))
      refine an1 12 rfl ?_
      refine zI rfl rfl F.ti3 rfl ?_
      refine zA (anb (adn ?_))
      exact kH (s3, gn) ⟨hs3, by dsimp only; omega⟩ sbn pkk
     ·refine zO rfl rfl F.one3 ?_
      refine zA (anb (an1 6 rfl ?_))
      refine vM [0, 1, 1, g1] rfl rfl rfl hB hN hs2 om (by simp) (by simp) (InB.mem (b := b13)) ?_
      rintro s3 gn hs3 hgn
      simp only [List.mem_cons, List.not_mem_nil, or_false] at hgn
      refine zA (anb (zG 9 rfl rfl rfl (zV rfl F.fi49_1 F.ti3) ?_))
      refine an1 10 rfl ?_
      refine zI rfl rfl F.ti3 rfl ?_
      refine zA (anb (zG 11 rfl rfl rfl (zV rfl F.fi49_2 F.ti3) ?_))
      refine an1 12 rfl ?_
      refine zI rfl rfl F.ti3 rfl ?_
      refine zA (anb (adn ?_))
      exact kH (s3, gn) ⟨hs3, by dsimp only; omega⟩ sbn pkk
    ·refine zO rfl rfl F.one3 ?_
     refine zA (anb (an1 5 rfl ?_))
     refine kD (vs := [(0, _), (1, _), (2, _), (3, _)]) rfl rfl Try.underlying22 F.ti3 rfl rfl rfl ?_
     intro b13
     refine zA (anb (an1 6 rfl ?_))
     refine vM [0, 1, 1, g1] rfl rfl rfl hB hN hs2 om (by simp) (by simp) (InB.mem (b := b13)) ?_
     rintro s3 gn hs3 hgn
     simp only [List.mem_cons, List.not_mem_nil, or_false] at hgn
     refine zA (anb (zG 9 rfl rfl rfl (zV rfl F.fi49_1 F.ti3) ?_))
     refine an1 10 rfl ?_
     refine zI rfl rfl F.ti3 rfl ?_
     refine zA (anb (zG 11 rfl rfl rfl (zV rfl F.fi49_2 F.ti3) ?_))
     refine an1 12 rfl ?_
     refine zI rfl rfl F.ti3 rfl ?_
     refine zA (anb (adn ?_))
     exact kH (s3, gn) ⟨hs3, by dsimp only; omega⟩ sbn pkk
   ·refine zO rfl rfl F.one3 ?_
    refine zA (anb (an1 4 rfl ?_))
    refine yG rfl rfl rfl hB hN hs1 om om ?_
    rintro s2 g1 hs2 hg1
    refine zA (anb (an1 5 rfl ?_))
    refine kD (vs := [(0, _), (1, _), (2, _), (3, _)]) rfl rfl Try.underlying22 F.ti3 rfl rfl rfl ?_
    intro b13
    refine zA (anb (an1 6 rfl ?_))
    refine vM [0, 1, 1, g1] rfl rfl rfl hB hN hs2 om (by simp) (by simp) (InB.mem (b := b13)) ?_
    rintro s3 gn hs3 hgn
    simp only [List.mem_cons, List.not_mem_nil, or_false] at hgn
    refine zA (anb (zG 9 rfl rfl rfl (zV rfl F.fi49_1 F.ti3) ?_))
    refine an1 10 rfl ?_
    refine zI rfl rfl F.ti3 rfl ?_
    refine zA (anb (zG 11 rfl rfl rfl (zV rfl F.fi49_2 F.ti3) ?_))
    refine an1 12 rfl ?_
    refine zI rfl rfl F.ti3 rfl ?_
    refine zA (anb (adn ?_))
    exact kH (s3, gn) ⟨hs3, by dsimp only; omega⟩ sbn pkk
  ·refine zO rfl rfl F.one3 ?_
   refine zA (anb (an1 3 rfl ?_))
   refine zO rfl rfl F.one3 ?_
   refine zA (anb (an1 4 rfl ?_))
   refine yG rfl rfl rfl hB hN hs1 om om ?_
   rintro s2 g1 hs2 hg1
   refine zA (anb (an1 5 rfl ?_))
   refine kD (vs := [(0, _), (1, _), (2, _), (3, _)]) rfl rfl Try.underlying22 F.ti3 rfl rfl rfl ?_
   intro b13
   refine zA (anb (an1 6 rfl ?_))
   refine vM [0, 1, 1, g1] rfl rfl rfl hB hN hs2 om (by simp) (by simp) (InB.mem (b := b13)) ?_
   rintro s3 gn hs3 hgn
   simp only [List.mem_cons, List.not_mem_nil, or_false] at hgn
   refine zA (anb (zG 9 rfl rfl rfl (zV rfl F.fi49_1 F.ti3) ?_))
   refine an1 10 rfl ?_
   refine zI rfl rfl F.ti3 rfl ?_
   refine zA (anb (zG 11 rfl rfl rfl (zV rfl F.fi49_2 F.ti3) ?_))
   refine an1 12 rfl ?_
   refine zI rfl rfl F.ti3 rfl ?_
   refine zA (anb (adn ?_))
   exact kH (s3, gn) ⟨hs3, by dsimp only; omega⟩ sbn pkk
 ·rintro ⟨s3, gn⟩ ⟨hs3, hgn⟩
  dsimp only at hs3 hgn ⊢
  refine zC (zD (zD (zB (zF rfl rfl (zB2 rfl rfl rfl hB hN hs3 om om om ?_)))))
  rintro s4 sb hs4
  refine zA (zC (qI rfl (fun hc0 => ?_) (fun hc0 => ?_)))
  ·refine zB (zF rfl rfl (zL rfl rfl F.fi49_0 F.ti3 ?_))
   refine zO rfl rfl F.one3 ?_
   refine yG rfl rfl rfl hB hN hs4 om om ?_
   rintro s5 nw hs5 hnw
   refine zL rfl rfl F.fi49_2 F.ti3 ?_
   refine zI rfl rfl F.ti3 rfl ?_
   refine zA (zC (zD (zB (zF rfl rfl (zB2 rfl rfl rfl hB hN hs5 om om om ?_)))))
   rintro s6 wb hs6
   refine zL rfl rfl F.fi49_3 F.ti4 ?_
   refine zI rfl rfl F.ti4 rfl ?_
   refine zA (zC (zD (zB (jF rfl rfl F.agg49 F.ti49 ?_))))
   refine zI rfl rfl F.ti49 rfl ?_
   refine zA (zC (zZ ?_))
   exact jH rfl (fun a w ha => by exact qX (ha := ha) rfl rfl F.agg49 F.ti49 rfl) (fun _ _ ha' => ⟨tk + 1 + 1 + 1 + 1 + 1 + 1, s6, ⟨pw, gn, nw, wb⟩, by omega, hs6, ⟨by show 1 <= pw; omega, by show pw <= 4; omega, by show gn <= pw; omega, by show nw <= pw; omega⟩, rfl, ha.back (ha'.pck pkk)⟩)
  ·refine zS (zC (zD (zB (zF rfl rfl (zB2 rfl rfl rfl hB hN hs4 om om om ?_)))))
   rintro s6 wb hs6
   refine zL rfl rfl F.fi49_3 F.ti4 ?_
   refine zI rfl rfl F.ti4 rfl ?_
   refine zA (zC (zD (zB (jF rfl rfl F.agg49 F.ti49 ?_))))
   refine zI rfl rfl F.ti49 rfl ?_
   refine zA (zC (zZ ?_))
   exact jH rfl (fun a w ha => by exact qX (ha := ha) rfl rfl F.agg49 F.ti49 rfl) (fun _ _ ha' => ⟨tk + 1 + 1 + 1 + 1 + 1, s6, ⟨pw, gn, pw, wb⟩, by omega, hs6, ⟨by show 1 <= pw; omega, by show pw <= 4; omega, by show gn <= pw; omega, by show pw <= pw; omega⟩, rfl, ha.back (ha'.pck pkk)⟩)

theorem zL4 {C : Ctx} {fr : List (Nat × Value)} {T : List Res} {a : Act} {w : World} (hC : C.P = Try.prog) {hb tk st nc : Nat} {nA : Option Addr} {nums : List Int} (hB : C.w0.heap.size = C.B) (hN : RdL icell 1 C.w0 nA nums) (htk : tk <= 800000) (hst : st < 18446744073709551616) {nf ny : Nat} (hf1 : 1 <= nf) (hf3 : nf <= 3) (hy1 : 1 <= ny) (hy4 : ny <= 4) (ha : At C fr (.blk hb (hatO nA nums.length nc (tk) (st)) :: T) a w) : Calls C.P 14 #[.pointer (some ⟨hb, 0, none⟩), .int .i64 (nf : Int), .int .i64 (ny : Int)] w fun e w' => ∃ (tk' st' kiln : Nat) (fs : List Flt) (days : List Nat) (A D : Option Addr) (c dc : Nat), tk' <= tk + 100 ∧ st' < 18446744073709551616 ∧ fs.length <= nf ∧ days.length <= ny ∧ ChV fs kiln days ∧ e = .returned (.agg [.slice A fs.length c, .int .i64 (kiln : Int), .slice D days.length dc].toArray) ∧ At C fr (.row 49 4 A fs.length c (fs.flatMap Flt.cells) :: .row 3 1 D days.length dc (ints days) :: .blk hb (hatO nA nums.length nc (tk') (st')) :: T) a w' := by
 obtain ⟨P, B, w0, N0, ds⟩ := C
 obtain rfl : P = Try.prog := hC
 (try dsimp only at hB)
 (try dsimp only at hN)
 refine vQ (N := 59) [(0, .pointer (some ⟨hb, 0, none⟩)), (1, .int .i64 (nf : Int)), (2, .int .i64 (ny : Int))] ha Try.func14 rfl Try.ntmps14 rfl rfl ?_
 refine zD (zB (zU rfl F.ti27 ?_))
 intro b6
 refine zA (zC (zD (zB (zF rfl rfl (kD (vs := [(0, _), (1, _), (2, _), (3, _)]) rfl rfl Try.underlying22 F.ti3 rfl rfl rfl ?_)))))
 intro b13
 refine vM [0, 1, 1, 2] rfl rfl rfl hB hN hst om (by simp) (by simp) (InB.mem (b := b13)) ?_
 rintro s0 kiln hs0 hkiln
 simp only [List.mem_cons, List.not_mem_nil, or_false] at hkiln
 refine jX (vs := [(1, _)]) (l' := [_, _, _]) rfl rfl F.ti27 F.pl27 (.cons rfl rfl (.nil _)) rfl ?_
 refine zU rfl F.ti27 ?_
 intro b7
 refine zI rfl rfl F.ti27 rfl ?_
 refine zA (zC (zD (zB (zE rfl rfl (zA (zC (zD (zD (zB (zF rfl rfl (zF rfl rfl (zLi (lo := 1) (hi := nf) rfl rfl rfl hB hN hs0 om om om ?_))))))))))))
 rintro s1 n0 hs1 hn0a hn0b
 refine zE rfl rfl (zA (zC (zW (zC8 49 4 ?_))))
 refine vJ (G := Nat × Nat × Nat × Option Addr × Nat × List Flt × Nat) (fun g => g.1 + g.2.2.2.2.2.1.length = n0 ∧ (∀ x ∈ g.2.2.2.2.2.1, FltOk x) ∧ g.2.1 <= tk + 2 + 10 * g.2.2.2.2.2.1.length ∧ g.2.2.1 < 18446744073709551616 ∧ g.2.2.2.2.2.2 <= 4 * g.2.2.2.2.2.1.length) (fun g => g.1) (fun g => [(0, .pointer (some ⟨hb, 0, none⟩)), (1, .int .i64 (nf : Int)), (2, .int .i64 (ny : Int)), (6, .pointer (some ⟨b6, 0, none⟩)), (7, .pointer (some ⟨b7, 0, none⟩)), (8, .int .i64 (g.2.2.2.2.2.2 : Int)), (9, .int .i64 (g.1 : Int))]) (fun g => .row 49 4 g.2.2.2.1 g.2.2.2.2.2.1.length g.2.2.2.2.1 (g.2.2.2.2.2.1.flatMap Flt.cells) :: .blk b7 (.cells [.slice g.2.2.2.1 g.2.2.2.2.2.1.length g.2.2.2.2.1, .int .i64 (kiln : Int), .slice none 0 0].toArray 27 (0, 0)) :: .blk b6 (.cells [.slice none 0 0, .int .i64 0, .slice none 0 0].toArray 27 (0, 0)) :: .blk hb (hatO nA nums.length nc (g.2.1) (g.2.2.1)) :: T) (n0, tk + 1 + 1, s1, none, 0, [], 0) ⟨by simp, by simp, by simp, hs1, by simp⟩ sbn pkk ?_
 rintro ⟨i, t1, s2, A1, c1, fs, sm⟩ ⟨hil, hlo, ht1, hs2, hsm⟩
 (try dsimp only at hil hlo ht1 hs2 hsm ⊢)
 refine zD (zD (zB (zF rfl rfl (zJ rfl rfl rfl zAw ?_))))
 refine zA (zC (zN rfl (fun hc0 => ?_) (fun hc0 => ?_)))
 ·obtain ⟨i, rfl⟩ : ∃ i', i = i' + 1 := ⟨i - 1, by omega⟩
  refine zS (zC (zD (zW (zD (zB (zF rfl rfl (wG (X := Nat × Nat × Flt) (vs := [_]) hb (fun y => hatO nA nums.length nc (y.1) (y.2.1)) (fun y => y.1 <= t1 + 10 ∧ y.2.1 < 18446744073709551616 ∧ FltOk y.2.2) (fun y => .agg [.int .i64 (y.2.2.power : Int), .int .i64 (y.2.2.gain : Int), .int .i64 (y.2.2.now : Int), .bool y.2.2.washed].toArray) rfl rfl F.ent27 (fun a w ha => (zPh (C := ⟨Try.prog, B, w0, _, _⟩) rfl hB hN (tk := t1) (st := s2) om hs2 ha).mono (fun e w' h => by obtain ⟨t', s', x, h1, h2, h3, h4, h5⟩ := h; exact ⟨(t', s', x), ⟨h1, h2, h3⟩, h4, h5⟩)) ?_)))))))
  rintro ⟨t2, s3, ⟨pw, gn, nw, wd⟩⟩ ⟨ht2, hs3, hfo⟩
  dsimp only at ht2 hs3 hfo ⊢
  refine zU rfl F.ti49 ?_
  intro b10
  refine zI rfl rfl F.ti49 rfl ?_
  refine zA (zC (vG (G := Option Addr × Nat) (fun _ => True) (fun x => [(0, .pointer (some ⟨hb, 0, none⟩)), (1, .int .i64 (nf : Int)), (2, .int .i64 (ny : Int)), (6, .pointer (some ⟨b6, 0, none⟩)), (7, .pointer (some ⟨b7, 0, none⟩)), (8, .int .i64 ((sm + pw : Nat) : Int)), (9, .int .i64 ((i + 1 : Nat) : Int))]) (fun x => .row 49 4 x.1 (fs.length + 1) x.2 (fs.flatMap Flt.cells ++ [.int .i64 (pw : Int), .int .i64 (gn : Int), .int .i64 (nw : Int), .bool wd]) :: .blk b7 (.cells [.slice x.1 (fs.length + 1) x.2, .int .i64 (kiln : Int), .slice none 0 0].toArray 27 (0, 0)) :: .blk b6 (.cells [.slice none 0 0, .int .i64 0, .slice none 0 0].toArray 27 (0, 0)) :: .blk hb (hatO nA nums.length nc (t2) (s3)) :: T) ?_ ?_))
  ·refine kB [.b b7, .r A1] F.follows 12 rfl [false, false, false, false, false, false, false, false, false, false, false, false] rfl ?_
   have hpw4 : pw <= 4 := hfo.2.1
   refine zG 0 rfl rfl rfl (zV rfl F.fi27_0 F.ti25) ?_
   refine zG 2 rfl rfl rfl (qE rfl F.agg49 F.ti49) ?_
   refine zG 5 rfl rfl rfl (zY rfl) ?_
   refine zG 6 rfl rfl rfl (zV rfl F.fi49_0 F.ti3) ?_
   refine zG 7 rfl rfl rfl (jU rfl F.one3) ?_
   refine zG 8 rfl rfl rfl (kZ (v := .int .i64 ((sm + pw : Nat) : Int)) rfl rfl (fun w => jM w (zT _ om om))) ?_
   refine qN 1 3 kr rfl rfl rfl rfl ?_ ?_
   ·refine zO rfl rfl F.one25 ?_
    refine zA (anb (an1 3 rfl ?_))
    refine yZ (vs := [(0, .agg ([.int .i64 (pw : Int), .int .i64 (gn : Int), .int .i64 (nw : Int), .bool wd] : List Value).toArray)]) [.int .i64 (pw : Int), .int .i64 (gn : Int), .int .i64 (nw : Int), .bool wd] rfl rfl Try.underlying25 F.ti49 rfl rfl rfl (Lit.agg (l1 := [.int .i64 (pw : Int), .int .i64 (gn : Int), .int .i64 (nw : Int), .bool wd]) (l := []) rfl rfl) ?_
    intro b28
    refine zA (anb (an1 4 rfl ?_))
    refine qC rfl rfl rfl Try.underlying25 F.ti49 rfl rfl rfl (by unfold maxLen; omega) om ?_
    intro A2 c2
    refine zA (anb (zG 9 rfl rfl rfl (zV rfl F.fi27_0 F.ti25) ?_))
    refine an1 10 rfl ?_
    refine zI rfl rfl F.ti25 rfl ?_
    refine zA (anb (zG 11 rfl rfl rfl (kR rfl) ?_))
    refine adn ?_
    exact kH (A2, c2) trivial sbn pkk
   ·refine yZ (vs := [(0, .agg ([.int .i64 (pw : Int), .int .i64 (gn : Int), .int .i64 (nw : Int), .bool wd] : List Value).toArray)]) [.int .i64 (pw : Int), .int .i64 (gn : Int), .int .i64 (nw : Int), .bool wd] rfl rfl Try.underlying25 F.ti49 rfl rfl rfl (Lit.agg (l1 := [.int .i64 (pw : Int), .int .i64 (gn : Int), .int .i64 (nw : Int), .bool wd]) (l := []) rfl rfl) ?_
    intro b28
    refine zA (anb (an1 1 rfl ?_))
    refine zO rfl rfl F.one25 ?_
    refine zA (anb (an1 4 rfl ?_))
    refine qC rfl rfl rfl Try.underlying25 F.ti49 rfl rfl rfl (by unfold maxLen; omega) om ?_
    intro A2 c2
    refine zA (anb (zG 9 rfl rfl rfl (zV rfl F.fi27_0 F.ti25) ?_))
    refine an1 10 rfl ?_
    refine zI rfl rfl F.ti25 rfl ?_
    refine zA (anb (zG 11 rfl rfl rfl (kR rfl) ?_))
    refine adn ?_
    exact kH (A2, c2) trivial sbn pkk
  ·rintro ⟨A2, c2⟩ -
   have hpw4 : pw <= 4 := hfo.2.1
   (try dsimp only)
   refine zM (zC (zB (zF rfl rfl (zJ rfl rfl rfl (fun w => xC w (show IntKind.i64.wrap (((i + 1 : Nat) : Int) - 1) = (i : Int) from by rw [zT _ om om]; omega)) ?_))))
   refine zE rfl rfl (zA (qO (i, t2, s3, A2, c2, fs ++ [⟨pw, gn, nw, wd⟩], sm + pw) ⟨by simp; omega, fun y hy => ?_, by simp; omega, hs3, by simp; omega⟩ tdo (by dsimp only; (try rw [List.length_append, List.length_singleton]); repeat (first | exact Sub.nil _ | refine Sub.cons rfl ?_)) (by dsimp only; rw [List.length_append, List.length_singleton]; rw [List.flatMap_append, List.flatMap_singleton]; repeat (first | exact Pck.nil _ | exact Pck.refl _ | (apply Pck.cons; focus ((repeat (first | exact Rem.here _ | apply Rem.there)); done)) | refine Pck.skip _ ?_))))
   rcases List.mem_append.1 hy with h | h
   ·exact hlo y h
   ·simp at h; subst h; exact hfo
 ·obtain rfl : i = 0 := by omega
  have hn0 : fs.length = n0 := by omega
  have hfl1 : 1 <= fs.length := by omega
  have hfl2 : fs.length <= nf := by omega
  refine jZ (zQ (zQ (jJ (zC (zD (zD (zB (zF rfl rfl (zF rfl rfl (zLi (lo := 1) (hi := ny) rfl rfl rfl hB hN hs2 om om om ?_))))))))))
  rintro s4 m0 hs4 hm0a hm0b
  refine zE rfl rfl (zA (zC (zW (zC8 3 1 ?_))))
  refine vJ (G := Nat × Nat × Nat × Option Addr × Nat × List Nat) (fun g => g.1 + g.2.2.2.2.2.length = m0 ∧ (∀ x ∈ g.2.2.2.2.2, x <= 12) ∧ g.2.1 <= t1 + 1 + 3 * g.2.2.2.2.2.length ∧ g.2.2.1 < 18446744073709551616) (fun g => g.1) (fun g => [(0, .pointer (some ⟨hb, 0, none⟩)), (1, .int .i64 (nf : Int)), (2, .int .i64 (ny : Int)), (6, .pointer (some ⟨b6, 0, none⟩)), (7, .pointer (some ⟨b7, 0, none⟩)), (8, .int .i64 (sm : Int)), (11, .int .i64 (g.1 : Int))]) (fun g => .row 3 1 g.2.2.2.1 g.2.2.2.2.2.length g.2.2.2.2.1 (ints g.2.2.2.2.2) :: .row 49 4 A1 fs.length c1 (fs.flatMap Flt.cells) :: .blk b7 (.cells [.slice A1 fs.length c1, .int .i64 (kiln : Int), .slice g.2.2.2.1 g.2.2.2.2.2.length g.2.2.2.2.1].toArray 27 (0, 0)) :: .blk b6 (.cells [.slice none 0 0, .int .i64 0, .slice none 0 0].toArray 27 (0, 0)) :: .blk hb (hatO nA nums.length nc (g.2.1) (g.2.2.1)) :: T) (m0, t1 + 1, s4, none, 0, []) ⟨by simp, by simp, by simp, hs4⟩ sbn pkk ?_
  rintro ⟨i, t3, s5, A3, c3, ds⟩ ⟨hjl, hdo, ht3, hs5⟩
  (try dsimp only at hjl hdo ht3 hs5 ⊢)
  refine zD (zD (zB (zF rfl rfl (zJ rfl rfl rfl zAw ?_))))
  refine zA (zC (zN rfl (fun hc1 => ?_) (fun hc1 => ?_)))
  ·obtain ⟨i, rfl⟩ : ∃ i', i = i' + 1 := ⟨i - 1, by omega⟩
   refine zS (zC (zD (zW (vG (G := Option Addr × Nat × Nat × Nat) (fun x => x.2.2.1 < 18446744073709551616 ∧ x.2.2.2 <= 12) (fun x => [(0, .pointer (some ⟨hb, 0, none⟩)), (1, .int .i64 (nf : Int)), (2, .int .i64 (ny : Int)), (6, .pointer (some ⟨b6, 0, none⟩)), (7, .pointer (some ⟨b7, 0, none⟩)), (8, .int .i64 (sm : Int)), (11, .int .i64 ((i + 1 : Nat) : Int))]) (fun x => .row 3 1 x.1 (ds.length + 1) x.2.1 (ints ds ++ [.int .i64 (x.2.2.2 : Int)]) :: .row 49 4 A1 fs.length c1 (fs.flatMap Flt.cells) :: .blk b7 (.cells [.slice A1 fs.length c1, .int .i64 (kiln : Int), .slice x.1 (ds.length + 1) x.2.1].toArray 27 (0, 0)) :: .blk b6 (.cells [.slice none 0 0, .int .i64 0, .slice none 0 0].toArray 27 (0, 0)) :: .blk hb (hatO nA nums.length nc (t3 + 1 + 1 + 1) (x.2.2.1)) :: T) ?_ ?_))))
   ·refine kB [.b b7, .b hb, .r A3] F.follows 17 rfl [false, false, false, false, false, false, false, false, false, false, false, false, false, false, false, false, false] rfl ?_
    refine zG 0 rfl rfl rfl (zV rfl F.fi27_2 F.ti22) ?_
    refine zG 2 rfl rfl rfl (zY rfl) ?_
    refine zG 3 rfl rfl rfl (zY rfl) ?_
    refine zG 4 rfl rfl rfl (zY rfl) ?_
    refine zG 5 rfl rfl rfl (kZ (v := .int .i64 ((sm / 2 : Nat) : Int)) rfl rfl (fun w => zVj w om (by rw [show ((sm : Int).tdiv 2) = ((sm / 2 : Nat) : Int) from (Int.ofNat_tdiv sm 2).symm]; exact zT _ om om))) ?_
    refine zG 8 rfl rfl rfl (zY rfl) ?_
    refine zG 9 rfl rfl rfl (zY rfl) ?_
    refine qN 1 6 kr rfl rfl rfl rfl ?_ ?_
    ·refine zO rfl rfl F.one22 ?_
     refine zA (anb (an1 6 rfl ?_))
     refine zNy rfl rfl rfl ?_
     rw [show (if (1 : Int) < ((sm / 2 : Nat) : Int) then ((sm / 2 : Nat) : Int) else 1) = ((max 1 (sm / 2) : Nat) : Int) from by split <;> omega]
     refine zA (anb (an1 7 rfl ?_))
     refine yG rfl rfl rfl hB hN hs5 om om ?_
     rintro s6 y1 hs6 hy1
     refine zA (anb (an1 10 rfl ?_))
     refine yG rfl rfl rfl hB hN hs6 om om ?_
     rintro s7 y2 hs7 hy2
     refine zA (anb (an1 11 rfl ?_))
     refine kD (vs := [(0, _), (1, _), (2, _), (3, _), (4, _)]) rfl rfl Try.underlying22 F.ti3 rfl rfl rfl ?_
     intro b53
     refine zA (anb (an1 12 rfl ?_))
     refine vM [0, 1, 2, y1, y2] rfl rfl rfl hB hN hs7 om (by simp) (by simp) (InB.mem (b := b53)) ?_
     rintro s8 d1 hs8 hd1
     simp only [List.mem_cons, List.not_mem_nil, or_false] at hd1
     have hd12 : d1 <= 12 := by omega
     refine zA (anb (an1 13 rfl ?_))
     refine kD (vs := [(0, _)]) rfl rfl Try.underlying22 F.ti3 rfl rfl rfl ?_
     intro b55
     refine zA (anb (an1 14 rfl ?_))
     refine qC rfl rfl rfl Try.underlying22 F.ti3 rfl rfl rfl (by unfold maxLen; omega) om ?_
     intro A4 c4
     refine zA (anb (zG 15 rfl rfl rfl (zV rfl F.fi27_2 F.ti22) ?_))
     refine an1 16 rfl ?_
     refine zI rfl rfl F.ti22 rfl ?_
     refine zA (anb (adn ?_))
     exact kH (A4, c4, s8, d1) ⟨hs8, hd12⟩ sbn pkk
    ·refine zNy rfl rfl rfl ?_
     rw [show (if (1 : Int) < ((sm / 2 : Nat) : Int) then ((sm / 2 : Nat) : Int) else 1) = ((max 1 (sm / 2) : Nat) : Int) from by split <;> omega]
     refine zA (anb (qN 1 7 kr rfl rfl rfl rfl ?_ ?_))
     ·refine zO rfl rfl F.one22 ?_
      refine zA (anb (an1 7 rfl ?_))
      refine yG rfl rfl rfl hB hN hs5 om om ?_
      rintro s6 y1 hs6 hy1
      refine zA (anb (an1 10 rfl ?_))
      refine yG rfl rfl rfl hB hN hs6 om om ?_
      rintro s7 y2 hs7 hy2
      refine zA (anb (an1 11 rfl ?_))
      refine kD (vs := [(0, _), (1, _), (2, _), (3, _), (4, _)]) rfl rfl Try.underlying22 F.ti3 rfl rfl rfl ?_
      intro b53
      refine zA (anb (an1 12 rfl ?_))
      refine vM [0, 1, 2, y1, y2] rfl rfl rfl hB hN hs7 om (by simp) (by simp) (InB.mem (b := b53)) ?_
      rintro s8 d1 hs8 hd1
      simp only [List.mem_cons, List.not_mem_nil, or_false] at hd1
      have hd12 : d1 <= 12 := by omega
      refine zA (anb (an1 13 rfl ?_))
      refine kD (vs := [(0, _)]) rfl rfl Try.underlying22 F.ti3 rfl rfl rfl ?_
      intro b55
      refine zA (anb (an1 14 rfl ?_))
      refine qC rfl rfl rfl Try.underlying22 F.ti3 rfl rfl rfl (by unfold maxLen; omega) om ?_
      intro A4 c4
      refine zA (anb (zG 15 rfl rfl rfl (zV rfl F.fi27_2 F.ti22) ?_))
      refine an1 16 rfl ?_
      refine zI rfl rfl F.ti22 rfl ?_
      refine zA (anb (adn ?_))
      exact kH (A4, c4, s8, d1) ⟨hs8, hd12⟩ sbn pkk
     ·refine yG rfl rfl rfl hB hN hs5 om om ?_
      rintro s6 y1 hs6 hy1
      refine zA (anb (qN 1 10 kr rfl rfl rfl rfl ?_ ?_))
      ·refine zO rfl rfl F.one22 ?_
       refine zA (anb (an1 10 rfl ?_))
       refine yG rfl rfl rfl hB hN hs6 om om ?_
       rintro s7 y2 hs7 hy2
       refine zA (anb (an1 11 rfl ?_))
       refine kD (vs := [(0, _), (1, _), (2, _), (3, _), (4, _)]) rfl rfl Try.underlying22 F.ti3 rfl rfl rfl ?_
       intro b53
       refine zA (anb (an1 12 rfl ?_))
       refine vM [0, 1, 2, y1, y2] rfl rfl rfl hB hN hs7 om (by simp) (by simp) (InB.mem (b := b53)) ?_
       rintro s8 d1 hs8 hd1
       simp only [List.mem_cons, List.not_mem_nil, or_false] at hd1
       have hd12 : d1 <= 12 := by omega
       refine zA (anb (an1 13 rfl ?_))
       refine kD (vs := [(0, _)]) rfl rfl Try.underlying22 F.ti3 rfl rfl rfl ?_
       intro b55
       refine zA (anb (an1 14 rfl ?_))
       refine qC rfl rfl rfl Try.underlying22 F.ti3 rfl rfl rfl (by unfold maxLen; omega) om ?_
       intro A4 c4
       refine zA (anb (zG 15 rfl rfl rfl (zV rfl F.fi27_2 F.ti22) ?_))
       refine an1 16 rfl ?_
       refine zI rfl rfl F.ti22 rfl ?_
       refine zA (anb (adn ?_))
       exact kH (A4, c4, s8, d1) ⟨hs8, hd12⟩ sbn pkk
      ·refine yG rfl rfl rfl hB hN hs6 om om ?_
       rintro s7 y2 hs7 hy2
       refine zA (anb (qN 1 11 kr rfl rfl rfl rfl ?_ ?_))
       ·refine zO rfl rfl F.one22 ?_
        refine zA (anb (an1 11 rfl ?_))
        refine kD (vs := [(0, _), (1, _), (2, _), (3, _), (4, _)]) rfl rfl Try.underlying22 F.ti3 rfl rfl rfl ?_
        intro b53
        refine zA (anb (an1 12 rfl ?_))
        refine vM [0, 1, 2, y1, y2] rfl rfl rfl hB hN hs7 om (by simp) (by simp) (InB.mem (b := b53)) ?_
        rintro s8 d1 hs8 hd1
        simp only [List.mem_cons, List.not_mem_nil, or_false] at hd1
        have hd12 : d1 <= 12 := by omega
        refine zA (anb (an1 13 rfl ?_))
        refine kD (vs := [(0, _)]) rfl rfl Try.underlying22 F.ti3 rfl rfl rfl ?_
        intro b55
        refine zA (anb (an1 14 rfl ?_))
        refine qC rfl rfl rfl Try.underlying22 F.ti3 rfl rfl rfl (by unfold maxLen; omega) om ?_
        intro A4 c4
        refine zA (anb (zG 15 rfl rfl rfl (zV rfl F.fi27_2 F.ti22) ?_))
        refine an1 16 rfl ?_
        refine zI rfl rfl F.ti22 rfl ?_
        refine zA (anb (adn ?_))
        exact kH (A4, c4, s8, d1) ⟨hs8, hd12⟩ sbn pkk
       ·refine kD (vs := [(0, _), (1, _), (2, _), (3, _), (4, _)]) rfl rfl Try.underlying22 F.ti3 rfl rfl rfl ?_
        intro b53
        refine zA (anb (qN 1 12 kr rfl rfl rfl rfl ?_ ?_))
        ·refine zO rfl rfl F.one22 ?_
         refine zA (anb (an1 12 rfl ?_))
         refine vM [0, 1, 2, y1, y2] rfl rfl rfl hB hN hs7 om (by simp) (by simp) (InB.mem (b := b53)) ?_
         rintro s8 d1 hs8 hd1
         simp only [List.mem_cons, List.not_mem_nil, or_false] at hd1
         have hd12 : d1 <= 12 := by omega
         refine zA (anb (an1 13 rfl ?_))
         refine kD (vs := [(0, _)]) rfl rfl Try.underlying22 F.ti3 rfl rfl rfl ?_
         intro b55
         refine zA (anb (an1 14 rfl ?_))
         refine qC rfl rfl rfl Try.underlying22 F.ti3 rfl rfl rfl (by unfold maxLen; omega) om ?_
         intro A4 c4
         refine zA (anb (zG 15 rfl rfl rfl (zV rfl F.fi27_2 F.ti22) ?_))
         refine an1 16 rfl ?_
         refine zI rfl rfl F.ti22 rfl ?_
         refine zA (anb (adn ?_))
         exact kH (A4, c4, s8, d1) ⟨hs8, hd12⟩ sbn pkk
        ·refine vM [0, 1, 2, y1, y2] rfl rfl rfl hB hN hs7 om (by simp) (by simp) (InB.mem (b := b53)) ?_
         rintro s8 d1 hs8 hd1
         simp only [List.mem_cons, List.not_mem_nil, or_false] at hd1
         have hd12 : d1 <= 12 := by omega
         refine zA (anb (qN 1 13 kr rfl rfl rfl rfl ?_ ?_))
         ·refine zO rfl rfl F.one22 ?_
          refine zA (anb (an1 13 rfl ?_))
          refine kD (vs := [(0, _)]) rfl rfl Try.underlying22 F.ti3 rfl rfl rfl ?_
          intro b55
          refine zA (anb (an1 14 rfl ?_))
          refine qC rfl rfl rfl Try.underlying22 F.ti3 rfl rfl rfl (by unfold maxLen; omega) om ?_
          intro A4 c4
          refine zA (anb (zG 15 rfl rfl rfl (zV rfl F.fi27_2 F.ti22) ?_))
          refine an1 16 rfl ?_
          refine zI rfl rfl F.ti22 rfl ?_
          refine zA (anb (adn ?_))
          exact kH (A4, c4, s8, d1) ⟨hs8, hd12⟩ sbn pkk
         ·refine kD (vs := [(0, _)]) rfl rfl Try.underlying22 F.ti3 rfl rfl rfl ?_
          intro b55
          refine zA (anb (an1 1 rfl ?_))
          refine zO rfl rfl F.one22 ?_
          refine zA (anb (an1 14 rfl ?_))
          refine qC rfl rfl rfl Try.underlying22 F.ti3 rfl rfl rfl (by unfold maxLen; omega) om ?_
          intro A4 c4
          refine zA (anb (zG 15 rfl rfl rfl (zV rfl F.fi27_2 F.ti22) ?_))
          refine an1 16 rfl ?_
          refine zI rfl rfl F.ti22 rfl ?_
          refine zA (anb (adn ?_))
          exact kH (A4, c4, s8, d1) ⟨hs8, hd12⟩ sbn pkk
   ·rintro ⟨A4, c4, s8, d1⟩ ⟨hs8, hd12⟩
    dsimp only at hs8 hd12 ⊢
    refine zM (zC (zB (zF rfl rfl (zJ rfl rfl rfl (fun w => xC w (show IntKind.i64.wrap (((i + 1 : Nat) : Int) - 1) = (i : Int) from by rw [zT _ om om]; omega)) ?_))))
    refine zE rfl rfl (zA (qO (i, t3 + 1 + 1 + 1, s8, A4, c4, ds ++ [d1]) ⟨by simp; omega, fun y hy => ?_, by simp; omega, hs8⟩ tdo (by dsimp only; (try rw [List.length_append, List.length_singleton]); repeat (first | exact Sub.nil _ | refine Sub.cons rfl ?_)) (by dsimp only; rw [List.length_append, List.length_singleton]; rw [zI1]; repeat (first | exact Pck.nil _ | exact Pck.refl _ | (apply Pck.cons; focus ((repeat (first | exact Rem.here _ | apply Rem.there)); done)) | refine Pck.skip _ ?_))))
    rcases List.mem_append.1 hy with h | h
    ·exact hdo y h
    ·simp at h; subst h; exact hd12
  ·obtain rfl : i = 0 := by omega
   refine jZ (zQ (zQ (jJ (zC (zD (zB (jF rfl rfl F.agg27 F.ti27 ?_)))))))
   refine zI rfl rfl F.ti27 rfl ?_
   refine zA (zC (zZ ?_))
   exact jH rfl (fun a w ha => by exact qX (ha := ha) rfl rfl F.agg27 F.ti27 rfl) (fun _ _ ha' => ⟨t3, s5, kiln, fs, ds, A1, A3, c1, c3, by omega, hs5, hfl2, by omega, ⟨hfl1, by omega, hlo, by omega, by omega, by omega, hdo⟩, rfl, ha.back (ha'.pck pkk)⟩)

theorem zV7 {C : Ctx} {fr : List (Nat × Value)} {T : List Res} {a : Act} {w : World} (hC : C.P = Try.prog) {hb tk st nc : Nat} {nA : Option Addr} {nums : List Int} (hB : C.w0.heap.size = C.B) (hN : RdL icell 1 C.w0 nA nums) (htk : tk <= 700000) (hst : st < 18446744073709551616) (ha : At C fr (.blk hb (hatO nA nums.length nc (tk) (st)) :: T) a w) : Calls C.P 22 #[.pointer (some ⟨hb, 0, none⟩)] w fun e w' => ∃ (tk' st' kiln : Nat) (fs : List Flt) (days : List Nat) (A D : Option Addr) (c dc : Nat), tk' <= tk + 101 ∧ st' < 18446744073709551616 ∧ ChV fs kiln days ∧ e = .returned (.agg [.slice A fs.length c, .int .i64 (kiln : Int), .slice D days.length dc].toArray) ∧ At C fr (.row 49 4 A fs.length c (fs.flatMap Flt.cells) :: .row 3 1 D days.length dc (ints days) :: .blk hb (hatO nA nums.length nc (tk') (st')) :: T) a w' := by
 obtain ⟨P, B, w0, N0, ds⟩ := C
 obtain rfl : P = Try.prog := hC
 (try dsimp only at hB)
 (try dsimp only at hN)
 refine vQ (N := 9) [(0, .pointer (some ⟨hb, 0, none⟩))] ha Try.func22 rfl Try.ntmps22 rfl rfl ?_
 refine zD (zB (zU rfl F.ti27 ?_))
 intro b2
 refine zA (zC (zD (zD (zB (zF rfl rfl (zB2 rfl rfl rfl hB hN hst om om om ?_))))))
 rintro s1 sb hs1
 refine zA (zC (qI rfl (fun hc0 => ?_) (fun hc0 => ?_)))
 ·refine zD (zB (zF rfl rfl (zEr (X := Nat × Nat × Nat × List Flt × List Nat × Option Addr × Option Addr × Nat × Nat) (vs := [_, _, _]) hb (fun y => hatO nA nums.length nc y.1 y.2.1) (fun y => [.row 49 4 y.2.2.2.2.2.1 y.2.2.2.1.length y.2.2.2.2.2.2.2.1 (y.2.2.2.1.flatMap Flt.cells), .row 3 1 y.2.2.2.2.2.2.1 y.2.2.2.2.1.length y.2.2.2.2.2.2.2.2 (ints y.2.2.2.2.1)]) (fun y => y.1 <= (tk + 1) + 100 ∧ y.2.1 < 18446744073709551616 ∧ y.2.2.2.1.length <= 3 ∧ y.2.2.2.2.1.length <= 2 ∧ ChV y.2.2.2.1 y.2.2.1 y.2.2.2.2.1) (fun y => .agg [.slice y.2.2.2.2.2.1 y.2.2.2.1.length y.2.2.2.2.2.2.2.1, .int .i64 (y.2.2.1 : Int), .slice y.2.2.2.2.2.2.1 y.2.2.2.2.1.length y.2.2.2.2.2.2.2.2].toArray) rfl rfl F.ent14 (fun a w ha => (zL4 (C := ⟨Try.prog, B, w0, _, _⟩) rfl hB hN (tk := (tk + 1)) (st := s1) (nf := 3) (ny := 2) om hs1 om om om om ha).mono (fun e w' h => by obtain ⟨t', s', k', f', d', A', D', c', dc', h1, h2, h3, h4, h5, h6, h7⟩ := h; exact ⟨(t', s', k', f', d', A', D', c', dc'), ⟨h1, h2, h3, h4, h5⟩, h6, h7⟩)) ?_)))
  rintro ⟨t2, s2, kiln, fs, days, A, D, c, dc⟩ ⟨ht2, hs2, hfsl, hdaysl, hfsv⟩
  dsimp only [List.cons_append, List.nil_append] at ht2 hs2 hfsl hdaysl hfsv ⊢
  refine zI rfl rfl F.ti27 rfl ?_
  refine zA (zC (zZ (jC ?_)))
  exact jH rfl (fun a w ha => by exact qX (ha := ha) rfl rfl F.agg27 F.ti27 rfl) (fun _ _ ha' => ⟨t2, s2, kiln, fs, days, A, D, c, dc, by omega, hs2, hfsv, rfl, ha.back (ha'.pck pkk)⟩)
 ·refine zS (zC (zD (zB (zF rfl rfl (zEr (X := Nat × Nat × Nat × List Flt × List Nat × Option Addr × Option Addr × Nat × Nat) (vs := [_, _, _]) hb (fun y => hatO nA nums.length nc y.1 y.2.1) (fun y => [.row 49 4 y.2.2.2.2.2.1 y.2.2.2.1.length y.2.2.2.2.2.2.2.1 (y.2.2.2.1.flatMap Flt.cells), .row 3 1 y.2.2.2.2.2.2.1 y.2.2.2.2.1.length y.2.2.2.2.2.2.2.2 (ints y.2.2.2.2.1)]) (fun y => y.1 <= (tk + 1) + 100 ∧ y.2.1 < 18446744073709551616 ∧ y.2.2.2.1.length <= 2 ∧ y.2.2.2.2.1.length <= 4 ∧ ChV y.2.2.2.1 y.2.2.1 y.2.2.2.2.1) (fun y => .agg [.slice y.2.2.2.2.2.1 y.2.2.2.1.length y.2.2.2.2.2.2.2.1, .int .i64 (y.2.2.1 : Int), .slice y.2.2.2.2.2.2.1 y.2.2.2.2.1.length y.2.2.2.2.2.2.2.2].toArray) rfl rfl F.ent14 (fun a w ha => (zL4 (C := ⟨Try.prog, B, w0, _, _⟩) rfl hB hN (tk := (tk + 1)) (st := s1) (nf := 2) (ny := 4) om hs1 om om om om ha).mono (fun e w' h => by obtain ⟨t', s', k', f', d', A', D', c', dc', h1, h2, h3, h4, h5, h6, h7⟩ := h; exact ⟨(t', s', k', f', d', A', D', c', dc'), ⟨h1, h2, h3, h4, h5⟩, h6, h7⟩)) ?_)))))
  rintro ⟨t2, s2, kiln, fs, days, A, D, c, dc⟩ ⟨ht2, hs2, hfsl, hdaysl, hfsv⟩
  dsimp only [List.cons_append, List.nil_append] at ht2 hs2 hfsl hdaysl hfsv ⊢
  refine zI rfl rfl F.ti27 rfl ?_
  refine zA (zC (zZ ?_))
  exact jH rfl (fun a w ha => by exact qX (ha := ha) rfl rfl F.agg27 F.ti27 rfl) (fun _ _ ha' => ⟨t2, s2, kiln, fs, days, A, D, c, dc, by omega, hs2, hfsv, rfl, ha.back (ha'.pck pkk)⟩)

end Go.Proofs.Yteppiphdbondeaa.N
namespace Go.Proofs.Yteppiphdbondeaa.N
open Go Go.RowKit Go.Proofs
set_option linter.unusedSectionVars false
section
variable (alw : Nat -> List Nat -> Bool) (las : Mor -> Bool) (fs : List Flt) (kiln : Nat) (days : List Nat)
inductive Pth : Nat -> Mor -> List (List Nat) -> Nat -> Nat -> Prop
 | last {m : Mor} : las m = true -> Pth 0 m [] 0 0
 | day {n : Nat} {m m1 : Mor} {acts : List Nat} {p : List (List Nat)} {f w : Nat} : acts ∈ exts [] fs.length -> alw (days.length - (n + 1)) acts = true -> dayE fs kiln m acts (days.getD (days.length - (n + 1)) 0) = (0, m1) -> Pth n m1 p f w -> Pth (n + 1) m (acts :: p) (f + spF acts) (w + spW acts)
end
section
variable {alw : Nat -> List Nat -> Bool} {las : Mor -> Bool} {fs : List Flt} {kiln : Nat} {days : List Nat}
theorem zV0 {rec : Mor -> Oc} {d : Nat} {m m1 : Mor} {l : List Nat} (h1 : alw d l = true) (h2 : dayE fs kiln m l (days.getD d 0) = (0, m1)) : stpO alw fs kiln days rec d m l = ⟨(rec m1).f + spF l, (rec m1).w + spW l, (rec m1).is⟩ := by
 unfold stpO
 rw [if_neg (by simp [h1]), if_neg (by rw [h2]; simp), h2]
end
def oF (o : Oc) : Nat := if o.is then o.f else 0
def oE (o : Oc) : Nat := if o.is then 0 else 11
section
variable [I : Sys] {C : Ctx} {fr : List (Nat × Value)} {hp : List Res} {a : Act} {w : World}
theorem zGz (ha : At C fr hp a w) {A : Option Addr} {c n : Nat} {l : List Nat} [hr : InR A 3 1 n c (ints l) hp] (hn : n = l.length) : RdL ncell 1 w A l :=
 xD ha (cells := ncell) (size := 1) (e := 3) (c := c) (n := n) (l := l) (fun _ => rfl) (by rw [<- zRj]; exact hr.mem) hn
theorem zD7 (ha : At C fr hp a w) {A : Option Addr} {c n : Nat} {l : List Flt} [hr : InR A 49 4 n c (l.flatMap Flt.cells) hp] (hn : n = l.length) : RdL Flt.cells 4 w A l :=
 xD ha (cells := Flt.cells) (size := 4) (e := 49) (c := c) (n := n) (l := l) (fun _ => rfl) hr.mem hn
end
end Go.Proofs.Yteppiphdbondeaa.N
namespace Go.Proofs.Yteppiphdbondeaa.N
open Go Go.RowKit Go.Proofs
set_option linter.unusedSectionVars false
variable [I : Sys]
theorem F.ent13 : Enters Try.prog 13 := jD Try.func13 rfl (by kernel_rfl)
theorem F.ent20 : Enters Try.prog 20 := jD Try.func20 rfl (by kernel_rfl)
theorem F.ent22 : Enters Try.prog 22 := jD Try.func22 rfl (by kernel_rfl)
end Go.Proofs.Yteppiphdbondeaa.N
namespace Go.Proofs.Yteppiphdbondeaa.N
open Go Go.RowKit Go.Proofs
set_option linter.unusedSectionVars false
section
variable [I : Sys] {C : Ctx} {fr : List (Nat × Value)} {hp hp' : List Res} {a : Act} {w : World} {ops : Array Oper} {Q : Exit -> Act -> World -> Prop} {rest : List Oper} {d : Nat} {ty : TypeId} {pos : String} {after : Array Edge}
theorem zVm {l : List Oper} (A : Option Addr) {e size n c : Nat} {xs : List Value} [hr : InR A e size n c xs hp] (hn : 0 < n) (k : ∀ g, A = some ⟨g, 0, none⟩ -> Lst C ops Q l fr hp) : Lst C ops Q l fr hp := fun a w ha => by
 obtain ⟨g, hg⟩ := wB (ha.own _ hr.mem) hn
 exact k g hg a w ha
end
theorem zKw (l : List Nat) (i j v : Nat) : (l.set i v).getD j 0 = if i = j ∧ i < l.length then v else l.getD j 0 := by
 rw [List.getD_eq_getElem?_getD, List.getD_eq_getElem?_getD, List.getElem?_set]
 by_cases h : i = j
 ·subst h
  by_cases h2 : i < l.length
  ·simp [h2]
  ·simp [h2]
 ·simp [h]
theorem zYt {fs : List Flt} {kiln : Nat} {m m1 : Mor} {acts : List Nat} {s : Nat} : dayE fs kiln m acts s = (0, m1) ↔ barred m acts acts.length = false ∧ firesN acts acts.length <= kiln ∧ (dRun fs m acts s acts.length).1 = 0 ∧ m1 = (dRun fs m acts s acts.length).2 := by
 unfold dayE
 by_cases h1 : barred m acts acts.length = true
 ·rw [if_pos h1]; simp [h1]
 ·rw [if_neg h1]
  by_cases h2 : kiln < firesN acts acts.length
  ·rw [if_pos h2]; simp; omega
  ·rw [if_neg h2]
   by_cases h3 : 0 < (dRun fs m acts s acts.length).1
   ·rw [if_pos h3]; simp; omega
   ·rw [if_neg h3]
    simp only [Prod.mk.injEq, true_and]
    constructor
    ·rintro rfl; exact ⟨by simpa using h1, by omega, by omega, rfl⟩
    ·rintro ⟨_, _, _, rfl⟩; rfl
theorem zSz (fs : List Flt) (i : Nat) : (start fs).s.getD i 0 = (fs.getD i default).now := by
 unfold start startN
 dsimp only
 rw [List.take_length, List.getD_eq_getElem?_getD, List.getElem?_append, List.length_map, List.getD_eq_getElem?_getD]
 split
 ·rename_i h
  rw [List.getElem?_map, List.getElem?_eq_getElem h]
  rfl
 ·rename_i h
  rw [List.getElem?_eq_none (l := fs) om]
  cases e : (List.replicate (3 - fs.length) 0)[i - fs.length]? with
  | none => rfl
  | some v =>
   have := List.mem_of_getElem? e
   rw [List.mem_replicate] at this
   exact this.2
end Go.Proofs.Yteppiphdbondeaa.N
namespace Go.Proofs.Yteppiphdbondeaa.N
open Go Go.RowKit Go.Proofs
set_option linter.unusedSectionVars false
variable [I : Sys]
theorem zFs {l : List Nat} {k x : Nat} (h : l[k]? = some x) : (ints l)[k]? = some (.int .i64 (x : Int)) := by
 unfold ints
 rw [List.getElem?_map, h]
 rfl

end Go.Proofs.Yteppiphdbondeaa.N
namespace Go.Proofs.Yteppiphdbondeaa.N
open Go Go.RowKit Go.Proofs
set_option linter.unusedSectionVars false
theorem zJs {s : Srch} : ∀ (n : Nat) (m : Mor), (s.bst n m).is = true -> Pth s.alw s.las s.fs s.kiln s.days n m (s.planL n m) (s.bst n m).f (s.bst n m).w
 | 0, m, h => .last h
 | n + 1, m, h => by
  obtain ⟨l, hl, hs⟩ := Srch.has h
  cases hf : (exts [] s.fs.length).find? (fun l => decide (s.stp n m l = s.bst (n + 1) m)) with
  | none => exact absurd hs (by simpa using List.find?_eq_none.1 hf l hl)
  | some l' =>
   have h1 : s.stp n m l' = s.bst (n + 1) m := by simpa using List.find?_some hf
   have h2 := List.mem_of_find?_eq_some hf
   obtain ⟨h3, h4, h5⟩ := Srch.stp_is (l := l') (by rw [h1]; exact h)
   have h6 : dayE s.fs s.kiln m l' (s.days.getD (s.days.length - (n + 1)) 0) = (0, (s.nxt n m l').2) := Prod.ext h3 rfl
   have h7 : s.stp n m l' = ⟨(s.bst n (s.nxt n m l').2).f + spF l', (s.bst n (s.nxt n m l').2).w + spW l', (s.bst n (s.nxt n m l').2).is⟩ := zV0 h5 h6
   unfold Srch.planL
   rw [Srch.pick_of hf, <- h1, h7]
   exact .day h2 h5 h6 (zJs n _ h4)
def wsh (i : Nat) (b : Bool) (l : List Nat) : Bool := (b || l.getD i 0 == 2) && l.getD i 0 != 3
theorem zVz {fs : List Flt} {m : Mor} {a : Nat × Mor} {i kind j : Nat} (hi : i < 3) (hj : j < 3) : (dStep fs m a i kind).2.w.testBit j = if i = j then ((a.2.w.testBit j || kind == 2) && kind != 3) else a.2.w.testBit j := by
 unfold dStep
 dsimp only
 split
 ·rename_i h; subst h; simp
 ·split
  ·rename_i h; subst h
   dsimp only
   unfold wWith
   rw [Nat.testBit_or, Nat.testBit_two_pow]
   by_cases e : i = j <;> simp [e]
  ·split
   ·rename_i h; subst h
    dsimp only
    unfold wOut
    rw [Nat.testBit_and]
    have h7 : ∀ i : Fin 3, ∀ j : Fin 3, (7 - 2 ^ i.1).testBit j.1 = decide (i.1 ≠ j.1) := by decide
    rw [h7 ⟨i, hi⟩ ⟨j, hj⟩]
    by_cases e : i = j <;> simp [e]
   ·rename_i h1 h2 h3
    dsimp only
    have e2 : (kind == 2) = false := by simpa using h2
    have e3 : (kind != 3) = true := by simpa using h3
    rw [e2, e3]
    simp
theorem zQy {fs : List Flt} {m : Mor} {acts : List Nat} {s j : Nat} (hj : j < 3) : ∀ k, k <= 3 -> (dRun fs m acts s k).2.w.testBit j = if j < k then wsh j (m.w.testBit j) acts else m.w.testBit j
 | 0, _ => by simp [dRun]
 | k + 1, hk => by
  rw [wH, zVz om hj, zQy hj k om]
  by_cases e : k = j
  ·subst e
   rw [if_pos rfl, if_neg (Nat.lt_irrefl _), if_pos (Nat.lt_succ_self _)]
   rfl
  ·rw [if_neg e]
   by_cases h : j < k
   ·rw [if_pos h, if_pos om]
   ·rw [if_neg h, if_neg om]
theorem zHn : ∀ (d : Nat) (l : List Nat), (∀ x ∈ l, x <= 3) -> ∀ m ∈ exts l d, ∀ x ∈ m, x <= 3
 | 0, l, h, m, hm => by
  simp only [exts, List.mem_singleton] at hm
  rw [hm]; exact h
 | d + 1, l, h, m, hm => by
  simp only [exts, List.mem_flatMap] at hm
  obtain ⟨k, hk, hm⟩ := hm
  have hk := List.mem_range.1 hk
  exact zHn d (l ++ [k]) (fun x hx => by
   rcases List.mem_append.1 hx with h1 | h1
   ·exact h x h1
   ·simp at h1; omega) m hm
def zl (l : List Nat) : List Int := l.map fun (n : Nat) => (n : Int)
theorem zIp (l : List Nat) : natL (zl l) = l := by
 unfold natL zl
 rw [List.map_map]
 exact (List.map_congr_left fun x _ => Int.toNat_natCast x).trans (List.map_id l)
theorem zDb (l : List Nat) : (zl l).length = l.length := List.length_map ..
theorem zTn (n : Nat) : szd (n : Int) n n = 0 := by
 unfold szd
 rw [if_neg om, if_neg om]
theorem zUb {l : List Nat} (h : ∀ x ∈ l, x <= 3) : badK (zl l) = false := by
 unfold badK
 rw [List.any_eq_false]
 intro x hx
 obtain ⟨n, hn, rfl⟩ := List.mem_map.1 hx
 have := h n hn
 unfold btw
 simp
 omega
def Cap (fs : List Flt) (m : Mor) : Prop := ∀ i, m.s.getD i 0 <= (fs.getD i default).power
theorem zWm {f : Flt} {now i kind s : Nat} {m : Mor} (h : now <= f.power) : aftOf f now i kind s m <= f.power := by
 unfold aftOf
 split
 ·omega
 ·split
  ·exact Nat.min_le_left ..
  ·split
   ·exact Nat.le_refl _
   ·exact h
theorem zGv {fs : List Flt} {m : Mor} {acts : List Nat} {s : Nat} (h : Cap fs m) : ∀ k, Cap fs (dRun fs m acts s k).2
 | 0 => h
 | k + 1 => by
  intro j
  rw [wH, zBk]
  dsimp only
  rw [zKw]
  split
  ·rename_i e
   rw [<- e.1]
   exact zWm (h k)
  ·exact zGv h k j
theorem zJk {fs : List Flt} (hf : ∀ f ∈ fs, FltOk f) : Cap fs (start fs) := by
 intro i
 rw [zSz]
 rcases Nat.lt_or_ge i fs.length with hi | hi
 ·rw [List.getD_eq_getElem?_getD, List.getElem?_eq_getElem hi]
  exact (hf _ (List.getElem_mem hi)).2.2.2
 ·rw [List.getD_eq_getElem?_getD, List.getElem?_eq_none hi]
  exact Nat.le_refl _
theorem zWu [I : Sys] {alw : Nat -> List Nat -> Bool} {las : Mor -> Bool} {fs : List Flt} {kiln : Nat} {days : List Nat} {n : Nat} {m : Mor} {p : List (List Nat)} {f w : Nat} (h3 : fs.length <= 3) (hf : ∀ f ∈ fs, FltOk f) (h : Pth alw las fs kiln days n m p f w) : n <= days.length -> MOk m -> Cap fs m ->
  ∃ outs mE, wk fs kiln days (p.map zl) (days.length - n) m = (0, outs, f) ∧ outs.length = n ∧ (strs fs m :: outs).getLast? = some (strs fs mE) ∧ las mE = true ∧ MOk mE ∧ (∀ i, i < fs.length -> mE.w.testBit i = p.foldl (wsh i) (m.w.testBit i)) ∧ p.length = n ∧ (∀ l ∈ p, l.length = fs.length ∧ ∀ x ∈ l, x <= 3) ∧ Cap fs mE := by
 induction h with
 | last h => exact fun _ hm hcap => ⟨[], _, rfl, rfl, rfl, h, hm, fun _ _ => rfl, rfl, fun l hl => (by cases hl), hcap⟩
 | @day n m m1 acts p f w h1 h2 h4 h5 ih =>
  intro hn hm hcap
  have hlen : acts.length = fs.length := by have := yJ _ _ acts h1; simpa using this
  have hsm := zHn _ _ (by simp) acts h1
  have hm1 : MOk m1 := by have := (vZ (kiln := kiln) (acts := acts) (sugar := days.getD (days.length - (n + 1)) 0) hf hm om h3).1; rw [h4] at this; exact this
  obtain ⟨outs, mE, a1, a2, a3, a4, a5, a6, a7, a8, a9⟩ := ih om hm1 (by obtain ⟨_, _, _, rfl⟩ := zYt.1 h4; exact zGv hcap _)
  have hd : days.length - (n + 1) + 1 = days.length - n := by omega
  refine ⟨strs fs m1 :: outs, mE, ?_, by rw [List.length_cons, a2], ?_, a4, a5, fun i hi => ?_, by rw [List.length_cons, a7], fun l hl => ?_, a9⟩
  ·rw [List.map_cons]
   unfold wk
   rw [zDb, hlen, zTn, zIp, h4, hd, a1, zUb hsm]
   simp only [ne_eq, not_true_eq_false, if_false, Bool.false_eq_true]
   rw [Nat.add_comm]
  ·rw [List.getLast?_cons_cons]; exact a3
  ·rw [a6 i hi, List.foldl_cons]
   obtain ⟨_, _, _, rfl⟩ := zYt.1 h4
   rw [zQy om _ om, if_pos om]
  ·rcases List.mem_cons.1 hl with rfl | hl
   ·exact ⟨hlen, hsm⟩
   ·exact a8 l hl
def zmeta (m : Meta) : MetaZ := (m.1, m.2.1, zl m.2.2)
theorem zO9 (m : Meta) : zmcell (zmeta m) = mcell m := by
 unfold zmcell zmeta mcell
 dsimp only
 rw [zDb]
section
variable [I : Sys] {C : Ctx} {fr : List (Nat × Value)} {hp hp' : List Res} {a : Act} {w : World} {ops : Array Oper} {Q : Exit -> Act -> World -> Prop}
theorem zBw {l : List Oper} (p : hp.Perm hp') (h : Lst C ops Q l fr hp') : Lst C ops Q l fr hp := fun a w ha => h a w (ha.permed p)
theorem zWr {A : Option Addr} {l : List Nat} (h : RdL ncell 1 w A l) : RdL zcell 1 w A (zl l) := fun hl => by
 rw [zDb] at hl
 obtain ⟨b, o, h1, h2, h3⟩ := h hl
 refine ⟨b, o, h1, h2, fun k x hk j u hu => ?_⟩
 unfold zl at hk
 rw [List.getElem?_map] at hk
 obtain ⟨n, hn, rfl⟩ := Option.map_eq_some_iff.1 hk
 exact h3 k n hn j u hu
theorem zQo (ha : At C fr hp a w) {A : Option Addr} {c : Nat} {mr : List Meta} (h1 : Res.row 22 1 A mr.length c (mr.reverse.map mcell) ∈ hp) (h2 : ∀ m ∈ mr, mrow m ∈ hp) : RdZ w A (mr.reverse.map zmeta) where
 outer := by
  refine xD ha (cells := fun m => [zmcell m]) (size := 1) (e := 22) (c := c) (n := mr.length) (fun _ => rfl) ?_ (by simp)
  rw [show (mr.reverse.map zmeta).flatMap (fun m => [zmcell m]) = mr.reverse.map mcell from ?_]
  ·exact h1
  ·rw [List.flatMap_map]
   induction mr.reverse with
   | nil => rfl
   | cons m l ih => rw [List.flatMap_cons, ih, List.map_cons, zO9]; rfl
 inner := fun m hm => by
  obtain ⟨x, hx, rfl⟩ := List.mem_map.1 hm
  exact zWr (zIi ha (fun _ => rfl) (h2 x (List.mem_reverse.1 hx)))
theorem zIv (ha : At C fr hp a w) {m : Meta} (hm : mrow m ∈ hp) (hl : 0 < m.2.2.length) : ∃ g, m.1 = some ⟨g, 0, none⟩ := wB (ha.own _ hm) hl
theorem zBn {mr : List Meta} {k : Nat} {m : Meta} (h : mr.reverse[k]? = some m) : (mr.reverse.map mcell)[k]? = some (mcell m) := by rw [List.getElem?_map, h]; rfl
end
end Go.Proofs.Yteppiphdbondeaa.N
namespace Go.Proofs.Yteppiphdbondeaa.N
open Go Go.RowKit Go.Proofs
set_option linter.unusedSectionVars false
variable [I : Sys]
theorem F.ent32 : Enters Try.prog 32 := jD Try.func32 rfl (by kernel_rfl)
end Go.Proofs.Yteppiphdbondeaa.N
namespace Go.Proofs.Yteppiphdbondeaa.N
open Go Go.RowKit Go.Proofs
set_option linter.unusedSectionVars false
inductive Cours (fs : List Flt) (kiln : Nat) (days : List Nat) : List (List Nat) -> Nat -> Mor -> List (List Nat) -> Nat -> Prop
 | nil (d : Nat) (m : Mor) : Cours fs kiln days [] d m [] 0
 | cons {l : List Nat} {ls outs : List (List Nat)} {d f : Nat} {m m1 : Mor} : l.length = fs.length -> dayE fs kiln m l (days.getD d 0) = (0, m1) -> Cours fs kiln days ls (d + 1) m1 outs f -> Cours fs kiln days (l :: ls) d m (strs fs m1 :: outs) (spF l + f)
theorem zRl {n k : Nat} (h : szd (n : Int) k k = 0) : n = k := by
 unfold szd at h
 split at h
 ·cases h
 ·split at h
  ·cases h
  ·omega
theorem zK5 {fs : List Flt} {kiln : Nat} {days : List Nat} : ∀ (P : List (List Nat)) (d : Nat) (m : Mor), (wk fs kiln days (P.map zl) d m).1 = 0 -> Cours fs kiln days P d m (wk fs kiln days (P.map zl) d m).2.1 (wk fs kiln days (P.map zl) d m).2.2
 | [], d, m, _ => .nil d m
 | l :: ls, d, m, h => by
  rw [List.map_cons] at h ⊢
  unfold wk at h ⊢
  rw [zIp, zDb] at h ⊢
  by_cases h1 : szd (l.length : Int) fs.length fs.length ≠ 0
  ·rw [if_pos h1] at h; exact absurd h h1
  ·rw [if_neg h1] at h ⊢
   by_cases h2 : badK (zl l) = true
   ·rw [if_pos h2] at h; cases h
   ·rw [if_neg h2] at h ⊢
    by_cases h3 : (dayE fs kiln m l (days.getD d 0)).1 ≠ 0
    ·rw [if_pos h3] at h; exact absurd h h3
    ·rw [if_neg h3] at h ⊢
     by_cases h4 : (wk fs kiln days (ls.map zl) (d + 1) (dayE fs kiln m l (days.getD d 0)).2).1 ≠ 0
     ·rw [if_pos h4] at h; exact absurd h h4
     ·rw [if_neg h4]
      exact .cons (zRl (by simpa using h1)) (Prod.ext (by simpa using h3) rfl) (zK5 ls (d + 1) _ (by simpa using h4))
theorem Cours.at {fs : List Flt} {kiln : Nat} {days : List Nat} (h3 : fs.length <= 3) (hf : ∀ f ∈ fs, FltOk f) {P outs : List (List Nat)} {d f : Nat} {m : Mor} (h : Cours fs kiln days P d m outs f) : MOk m -> Cap fs m -> ∀ k l, P[k]? = some l ->
  ∃ m0 m1, (strs fs m :: outs)[k]? = some (strs fs m0) ∧ outs[k]? = some (strs fs m1) ∧ dayE fs kiln m0 l (days.getD (d + k) 0) = (0, m1) ∧ MOk m0 ∧ Cap fs m0 ∧ MOk m1 ∧ Cap fs m1 ∧ l.length = fs.length := by
 induction h with
 | nil d m => intro _ _ k l hk; simp at hk
 | @cons l ls outs d f m m1 hl hd _ ih =>
  intro hm hc k l' hk
  have hm1 : MOk m1 := by have := (vZ (kiln := kiln) (acts := l) (sugar := days.getD d 0) hf hm om h3).1; rw [hd] at this; exact this
  have hc1 : Cap fs m1 := by obtain ⟨_, _, _, rfl⟩ := zYt.1 hd; exact zGv hc _
  match k with
  | 0 =>
   obtain rfl : l = l' := by simpa using hk
   exact ⟨m, m1, rfl, rfl, hd, hm, hc, hm1, hc1, hl⟩
  | k + 1 =>
   obtain ⟨a, b, c1, c2, c3, c4⟩ := ih hm1 hc1 k l' (by simpa using hk)
   exact ⟨a, b, by simpa using c1, by simpa using c2, by rw [show d + (k + 1) = d + 1 + k from by omega]; exact c3, c4⟩
theorem Cours.len {fs : List Flt} {kiln : Nat} {days : List Nat} {P outs : List (List Nat)} {d f : Nat} {m : Mor} (h : Cours fs kiln days P d m outs f) : outs.length = P.length := by
 induction h with
 | nil => rfl
 | cons _ _ _ ih => rw [List.length_cons, List.length_cons, ih]
theorem Cours.fires {fs : List Flt} {kiln : Nat} {days : List Nat} {P outs : List (List Nat)} {d f : Nat} {m : Mor} (h : Cours fs kiln days P d m outs f) : f = (P.map spF).sum := by
 induction h with
 | nil => rfl
 | cons _ _ _ ih => rw [List.map_cons, List.sum_cons, ih]
def gone (m m1 : Mor) (acts : List Nat) : Nat -> Nat
 | 0 => 0
 | k + 1 => gone m m1 acts k + if acts.getD k 0 = 0 then m.s.getD k 0 - m1.s.getD k 0 else 0
theorem zNq {fs : List Flt} {m : Mor} {acts : List Nat} {s : Nat} (h3 : m.s.length = 3) : ∀ k, k <= 3 -> (dRun fs m acts s k).2.s.length = 3 ∧ (∀ j, k <= j -> (dRun fs m acts s k).2.s.getD j 0 = m.s.getD j 0) ∧
  (∀ j, j < k -> (dRun fs m acts s k).2.s.getD j 0 <= m.s.getD j 0 ∨ acts.getD j 0 ≠ 0) ∧
  (∀ j, j < k -> acts.getD j 0 = 1 -> (dRun fs m acts s k).2.s.getD j 0 = m.s.getD j 0) ∧
  (∀ j, j < k -> acts.getD j 0 = 2 -> (dRun fs m acts s k).2.s.getD j 0 = min (fs.getD j default).power (m.s.getD j 0 + (fs.getD j default).gain)) ∧
  (∀ j, j < k -> acts.getD j 0 = 3 -> (dRun fs m acts s k).2.s.getD j 0 = (fs.getD j default).power) ∧
  gone m (dRun fs m acts s k).2 acts k + (dRun fs m acts s k).1 = s
 | 0, _ => ⟨h3, fun _ _ => rfl, fun _ h => absurd h (Nat.not_lt_zero _), fun _ h => absurd h (Nat.not_lt_zero _), fun _ h => absurd h (Nat.not_lt_zero _), fun _ h => absurd h (Nat.not_lt_zero _), Nat.zero_add _⟩
 | k + 1, hk => by
  obtain ⟨i1, i2, i3, i4, i5, i6, i7⟩ := zNq (fs := fs) (acts := acts) (s := s) h3 k om
  have hget : ∀ j, (dRun fs m acts s (k + 1)).2.s.getD j 0 = if k = j then aftOf (fs.getD k default) (m.s.getD k 0) k (acts.getD k 0) (dRun fs m acts s k).1 m else (dRun fs m acts s k).2.s.getD j 0 := by
   intro j
   rw [wH, zBk]
   dsimp only
   rw [zKw, i1]
   by_cases e : k = j
   ·rw [if_pos ⟨e, by omega⟩, if_pos e]
   ·rw [if_neg (fun h => e h.1), if_neg e]
  have hgone : ∀ n, n <= k -> gone m (dRun fs m acts s (k + 1)).2 acts n = gone m (dRun fs m acts s k).2 acts n := by
   intro n
   induction n with
   | zero => intro _; rfl
   | succ n ih =>
    intro hn
    unfold gone
    rw [ih om, hget n, if_neg (show ¬ k = n by omega)]
  refine ⟨by rw [wH, zBk]; dsimp only; rw [List.length_set, i1], fun j hj => ?_, fun j hj => ?_, fun j hj h => ?_, fun j hj h => ?_, fun j hj h => ?_, ?_⟩
  ·rw [hget, if_neg om]; exact i2 j om
  ·rw [hget]
   by_cases e : k = j
   ·subst e
    rw [if_pos rfl]
    unfold aftOf
    by_cases e0 : acts.getD k 0 = 0
    ·rw [if_pos e0]; exact .inl (Nat.sub_le ..)
    ·exact .inr e0
   ·rw [if_neg e]; exact i3 j om
  ·rw [hget]
   by_cases e : k = j
   ·subst e; rw [if_pos rfl]; unfold aftOf; rw [h]; rfl
   ·rw [if_neg e]; exact i4 j om h
  ·rw [hget]
   by_cases e : k = j
   ·subst e; rw [if_pos rfl]; unfold aftOf; rw [h]; rfl
   ·rw [if_neg e]; exact i5 j om h
  ·rw [hget]
   by_cases e : k = j
   ·subst e; rw [if_pos rfl]; unfold aftOf; rw [h]; rfl
   ·rw [if_neg e]; exact i6 j om h
  ·unfold gone
   rw [hgone k (Nat.le_refl _), hget k, if_pos rfl]
   have hfst : (dRun fs m acts s (k + 1)).1 = if acts.getD k 0 = 0 then (dRun fs m acts s k).1 - min (dRun fs m acts s k).1 (m.s.getD k 0) else (dRun fs m acts s k).1 := by
    rw [wH]
    unfold dStep
    dsimp only
    split
    ·rfl
    ·split
     ·rfl
     ·split <;> rfl
   rw [hfst]
   unfold aftOf
   by_cases e0 : acts.getD k 0 = 0
   ·rw [if_pos e0, if_pos e0, if_pos e0]; omega
   ·rw [if_neg e0, if_neg e0]; omega
end Go.Proofs.Yteppiphdbondeaa.N
namespace Go.Proofs.Yteppiphdbondeaa.N
open Go Go.RowKit Go.Proofs
set_option linter.unusedSectionVars false
variable [I : Sys]

theorem zS2 {C : Ctx} {fr : List (Nat × Value)} {T : List Res} {a : Act} {w : World} (hC : C.P = Try.prog) {hb tk st nc : Nat} {nA : Option Addr} {nums : List Int} (hB : C.w0.heap.size = C.B) (hN : RdL icell 1 C.w0 nA nums) (htk : tk <= 700000) (hst : st < 18446744073709551616) {A D : Option Addr} {c dc kiln : Nat} {fs : List Flt} {days : List Nat} (hf3 : fs.length <= 3) (hd4 : days.length <= 4) (ha : At C fr (.blk hb (hatO nA nums.length nc (tk) (st)) :: T) a w) : Calls C.P 31 #[.pointer (some ⟨hb, 0, none⟩), .agg [.slice A fs.length c, .int .i64 (kiln : Int), .slice D days.length dc].toArray] w fun e w' => ∃ (tk' st' : Nat) (oA : Option Addr) (oc : Nat) (mr : List Meta), tk' <= tk + 12 ∧ st' < 18446744073709551616 ∧ mr.length = days.length ∧ (∀ m ∈ mr, m.2.2.length = fs.length ∧ ∀ x ∈ m.2.2, x <= 3) ∧ e = .returned (.slice oA mr.length oc) ∧ At C fr (.row 22 1 oA mr.length oc (mr.reverse.map mcell) :: .blk hb (hatO nA nums.length nc (tk') (st')) :: (mr.map mrow ++ T)) a w' := by
 obtain ⟨P, B, w0, N0, ds⟩ := C
 obtain rfl : P = Try.prog := hC
 (try dsimp only at hB)
 (try dsimp only at hN)
 refine vQ (N := 34) [(0, .pointer (some ⟨hb, 0, none⟩)), (1, .agg [.slice A fs.length c, .int .i64 (kiln : Int), .slice D days.length dc].toArray)] ha Try.func31 rfl Try.ntmps31 rfl rfl ?_
 refine zD (zB (jV rfl rfl ?_))
 intro b3
 refine zE rfl rfl (zA (zC (zD (zB (zE rfl rfl (zA (zC (zD (zD (zB (zE rfl rfl (zA (zC (zW (zC8 22 1 ?_)))))))))))))))
 refine vJ (G := Nat × Nat × Nat × Option Addr × Nat × List Meta) (fun g => g.2.2.2.2.2.length = g.1 ∧ g.1 <= days.length ∧ (∀ m ∈ g.2.2.2.2.2, m.2.2.length = fs.length ∧ ∀ x ∈ m.2.2, x <= 3) ∧ g.2.1 <= tk + 3 * g.1 ∧ g.2.2.1 < 18446744073709551616) (fun g => days.length - g.1) (fun g => [(0, .pointer (some ⟨hb, 0, none⟩)), (3, .pointer (some ⟨b3, 0, none⟩)), (5, .slice g.2.2.2.1 g.2.2.2.2.2.length g.2.2.2.2.1), (6, .int .i64 (g.1 : Int))]) (fun g => .row 22 1 g.2.2.2.1 g.2.2.2.2.2.length g.2.2.2.2.1 (g.2.2.2.2.2.reverse.map mcell) :: .blk b3 (.cells [.slice A fs.length c, .int .i64 (kiln : Int), .slice D days.length dc].toArray 27 (0, 0)) :: .blk hb (hatO nA nums.length nc g.2.1 g.2.2.1) :: (g.2.2.2.2.2.map mrow ++ T)) (0, tk, st, none, 0, []) ⟨rfl, Nat.zero_le _, by simp, by simp, hst⟩ sbn pkk ?_
 rintro ⟨i, t1, s1, A5, c5, mr⟩ ⟨hmi, hi0, hmr, ht1, hs1⟩
 dsimp only at hmi hi0 hmr ht1 hs1 ⊢
 refine zD (zD (zB (zF rfl rfl (zL rfl rfl F.fi27_2 F.ti22 ?_))))
 refine zO rfl rfl F.one22 ?_
 refine kE rfl rfl Try.underlying22 ?_
 refine zJ rfl rfl rfl kL ?_
 refine zA (zC (zN rfl (fun hc0 => ?_) (fun hc0 => ?_)))
 ·refine zS (zC (zD (zW (zD (zB (zE rfl rfl (zA (zC (zD (zD (zB (zE rfl rfl (zA (zC (zW (zC8 3 1 ?_))))))))))))))))
  refine vJ (G := Nat × Nat × Nat × Option Addr × Nat × List Nat) (fun g => g.2.2.2.2.2.length = g.1 ∧ g.1 <= fs.length ∧ (∀ x ∈ g.2.2.2.2.2, x <= 3) ∧ g.2.1 <= t1 + g.1 ∧ g.2.2.1 < 18446744073709551616) (fun g => fs.length - g.1) (fun g => [(0, .pointer (some ⟨hb, 0, none⟩)), (3, .pointer (some ⟨b3, 0, none⟩)), (5, .slice A5 mr.length c5), (6, .int .i64 (i : Int)), (7, .slice g.2.2.2.1 g.2.2.2.2.2.length g.2.2.2.2.1), (8, .int .i64 (g.1 : Int))]) (fun g => .row 3 1 g.2.2.2.1 g.2.2.2.2.2.length g.2.2.2.2.1 (ints g.2.2.2.2.2) :: .row 22 1 A5 mr.length c5 (mr.reverse.map mcell) :: .blk b3 (.cells [.slice A fs.length c, .int .i64 (kiln : Int), .slice D days.length dc].toArray 27 (0, 0)) :: .blk hb (hatO nA nums.length nc g.2.1 g.2.2.1) :: (mr.map mrow ++ T)) (0, t1, s1, none, 0, []) ⟨rfl, Nat.zero_le _, by simp, by simp, hs1⟩ sbn pkk ?_
  rintro ⟨j, t2, s2, A7, c7, l⟩ ⟨hlj, hj0, hlx, ht2, hs2⟩
  dsimp only at hlj hj0 hlx ht2 hs2 ⊢
  refine zD (zD (zB (zF rfl rfl (zL rfl rfl F.fi27_0 F.ti25 ?_))))
  refine zO rfl rfl F.one25 ?_
  refine kE rfl rfl Try.underlying25 ?_
  refine zJ rfl rfl rfl kL ?_
  refine zA (zC (zN rfl (fun hc1 => ?_) (fun hc1 => ?_)))
  ·refine zS (zC (zD (zW (zB (zF rfl rfl (zF rfl rfl (kD (vs := [(0, _), (1, _), (2, _), (3, _), (4, _), (5, _)]) rfl rfl Try.underlying22 F.ti3 rfl rfl rfl ?_)))))))
   intro b25
   refine vM [0, 0, 0, 1, 2, 3] rfl rfl rfl hB hN hs2 om (by simp) (by simp) (InB.mem (b := b25)) ?_
   rintro s3 x1 hs3 hx1
   simp only [List.mem_cons, List.not_mem_nil, or_false] at hx1
   have hx3 : x1 <= 3 := by omega
   refine kD (vs := [(0, _)]) rfl rfl Try.underlying22 F.ti3 rfl rfl rfl ?_
   intro b27
   refine qC rfl rfl rfl Try.underlying22 F.ti3 rfl rfl rfl (by unfold maxLen; omega) om ?_
   intro A8 c8
   refine zE rfl rfl (zA (zM (zC (zB (zF rfl rfl (zJ rfl rfl rfl (fun w => jM w (zT _ om om)) ?_))))))
   refine zE rfl rfl (zA (qO (j + 1, t2 + 1, s3, A8, c8, l ++ [x1]) ⟨by simp; omega, by omega, fun y hy => ?_, by dsimp only; omega, hs3⟩ tdo (by dsimp only; (try rw [List.length_append, List.length_singleton]); repeat (first | exact Sub.nil _ | refine Sub.cons rfl ?_)) (by dsimp only; rw [List.length_append, List.length_singleton]; rw [zI1]; repeat (first | exact Pck.nil _ | exact Pck.refl _ | (apply Pck.cons; focus ((repeat (first | exact Rem.here _ | apply Rem.there)); done)) | refine Pck.skip _ ?_))))
   rcases List.mem_append.1 hy with h | h
   ·exact hlx y h
   ·simp at h; subst h; exact hx3
  ·obtain rfl : j = fs.length := by omega
   refine jZ (zQ (zQ (jJ (zC (zB (zF rfl rfl (zF rfl rfl (kD (vs := [(0, _)]) rfl rfl Try.underlying29 F.ti22 rfl rfl rfl ?_))))))))
   intro b31
   refine qC rfl rfl rfl Try.underlying29 F.ti22 rfl rfl rfl (by unfold maxLen; omega) om ?_
   intro A9 c9
   refine zE rfl rfl (zA (zM (zC (zB (zF rfl rfl (zJ rfl rfl rfl (fun w => jM w (zT _ om om)) ?_))))))
   refine zE rfl rfl (zA (qO (i + 1, t2, s2, A9, c9, (A7, c7, l) :: mr) ⟨by simp; omega, by omega, fun y hy => ?_, by dsimp only; omega, hs2⟩ tdo (by dsimp only; rw [List.length_cons]; repeat (first | exact Sub.nil _ | refine Sub.cons rfl ?_)) (by dsimp only; rw [List.length_cons, List.reverse_cons, List.map_append]; simp only [List.map_cons, List.map_nil, List.cons_append]; repeat (first | exact Pck.nil _ | exact Pck.refl _ | (apply Pck.cons; focus ((repeat (first | exact Rem.here _ | apply Rem.there)); done)) | refine Pck.skip _ ?_))))
   rcases List.mem_cons.1 hy with rfl | h
   ·exact ⟨by dsimp only; omega, hlx⟩
   ·exact hmr y h
 ·obtain rfl : i = days.length := by omega
  refine jZ (zQ (zQ (jJ (zC (zD (zB (zF rfl rfl (zE rfl rfl (zA (zC (zZ ?_)))))))))))
  exact jH rfl (fun a w ha => jP rfl rfl ha) (fun _ _ ha' => ⟨t1, s1, A5, c5, mr, by omega, hs1, hmi, hmr, rfl, ha.back (ha'.pck pkk)⟩)

theorem F.ent31 : Enters Try.prog 31 := jD Try.func31 rfl (by kernel_rfl)
theorem zSm [I : Sys] {fs : List Flt} {kiln : Nat} {days : List Nat} {mr : List Meta} (hc : ChV fs kiln days) (h : (bstA fs kiln days).is = true) (hm : mr.reverse.map (·.2.2) = planA fs kiln days) : mr.length <= 4 ∧ ∀ m ∈ mr, m.2.2.length = fs.length := by
  have hp : Pth (fun _ _ => true) (fun _ => true) fs kiln days days.length (start fs) (planA fs kiln days) (bstA fs kiln days).f (bstA fs kiln days).w := zJs (s := anyS none none 0 0 kiln fs days) _ _ h
  obtain ⟨outs, mE, a1, a2, a3, a4, a5, a6, a7, a8, a9⟩ := zWu hc.f3 hc.ff hp (Nat.le_refl _) (vI hc.f3 hc.ff _ (Nat.le_refl _)) (zJk hc.ff)
  have hl : mr.length = days.length := by rw [<- a7, <- hm]; simp
  exact ⟨by have := hc.d4; omega, fun m hx => (a8 m.2.2 (by rw [<- hm]; exact List.mem_map_of_mem (List.mem_reverse.2 hx))).1⟩

theorem zWh {a b c d x : Res} {l : List Res} : (a :: b :: c :: d :: x :: l).Perm (x :: a :: b :: c :: d :: l) := List.perm_middle (l₁ := [a, b, c, d])
theorem vP (a b : List Res) : Pck a (a ++ b) := by
  refine Pck.perm List.perm_append_comm ?_
  induction b with
  | nil => exact Pck.refl _
  | cons x b ih => exact Pck.skip _ ih
theorem zMz {fs : List Flt} {kiln : Nat} {days : List Nat} {P : List (List Nat)} (h : (workE fs kiln days (P.map zl)).1 = 0) :
    P.length = days.length ∧ ∃ outs, (workE fs kiln days (P.map zl)).2.1 = strs fs (start fs) :: outs ∧ Cours fs kiln days P 0 (start fs) outs (workE fs kiln days (P.map zl)).2.2 := by
  unfold workE at h ⊢
  rw [List.length_map] at h ⊢
  by_cases h1 : szd (P.length : Int) days.length days.length ≠ 0
  · rw [if_pos h1] at h; exact absurd h h1
  · rw [if_neg h1] at h ⊢
    by_cases h2 : (wk fs kiln days (P.map zl) 0 (start fs)).1 ≠ 0
    · rw [if_pos h2] at h; exact absurd h h2
    · rw [if_neg h2]
      exact ⟨zRl (by simpa using h1), _, rfl, zK5 P 0 _ (by simpa using h2)⟩

theorem zKz {fs : List Flt} {m : Mor} (h3 : fs.length <= 3) (hm : m.s.length = 3) : (strs fs m).length = fs.length := by
  unfold strs
  rw [List.length_take, hm]
  omega
theorem Cours.lens [I : Sys] {fs : List Flt} {kiln : Nat} {days : List Nat} (h3 : fs.length <= 3) (hf : ∀ f ∈ fs, FltOk f) {P outs : List (List Nat)} {d f : Nat} {m : Mor} (h : Cours fs kiln days P d m outs f) : MOk m -> ∀ o ∈ strs fs m :: outs, o.length = fs.length := by
  induction h with
  | nil d m => intro hm o ho; simp at ho; subst ho; exact zKz h3 hm.three
  | @cons l ls outs d f m m1 hl hd _ ih =>
    intro hm o ho
    have hm1 : MOk m1 := by have := (vZ (kiln := kiln) (acts := l) (sugar := days.getD d 0) hf hm om h3).1; rw [hd] at this; exact this
    rcases List.mem_cons.1 ho with rfl | ho
    · exact zKz h3 hm.three
    · exact ih hm1 o ho

def litN (l : List Nat) (k : Nat) : Nat := if (l.take k).any (· == 3) then 1 else 0
theorem zQ6 {α : Type} {P : List α} {k : Nat} {l : α} (hl : P[k]? = some l) : P.drop k = l :: P.drop (k + 1) := by
  obtain ⟨h, e⟩ := List.getElem?_eq_some_iff.1 hl
  rw [List.drop_eq_getElem_cons h, e]
theorem zP4 {l : List Nat} {k x : Nat} (h : l[k]? = some x) : litN l (k + 1) = if x = 3 then 1 else litN l k := by
  unfold litN
  rw [List.take_add_one, h, List.any_append]
  by_cases hx : x = 3
  · subst hx; simp
  · rw [if_neg hx]; simp [hx]
theorem zNx : ∀ P : List (List Nat), (P.map spF).sum <= P.length
  | [] => Nat.le_refl _
  | l :: P => by rw [List.map_cons, List.sum_cons, List.length_cons]; have := zNx P; have := zCh l; omega
theorem zTw {l : List Nat} {k : Nat} (h : k = l.length) : litN l k = spF l := by
  subst h
  unfold litN spF
  rw [List.take_length]
theorem zNu {m m1 : Mor} {l : List Nat} (h : ∀ j, m.s.getD j 0 <= 4) : ∀ k, gone m m1 l k <= 4 * k
  | 0 => Nat.zero_le _
  | k + 1 => by
    have := zNu h (m1 := m1) (l := l) k
    have := h k
    unfold gone
    split <;> omega
theorem zP5 {m m1 : Mor} {l : List Nat} {k x : Nat} (h : l[k]? = some x) : gone m m1 l (k + 1) = gone m m1 l k + if x = 0 then m.s.getD k 0 - m1.s.getD k 0 else 0 := by
  show gone m m1 l k + (if l.getD k 0 = 0 then m.s.getD k 0 - m1.s.getD k 0 else 0) = _
  rw [List.getD_eq_getElem?_getD, h]
  rfl
theorem MOk.four {m : Mor} (h : MOk m) (j : Nat) : m.s.getD j 0 <= 4 := by
  rw [List.getD_eq_getElem?_getD]
  cases hj : m.s[j]? with
  | none => exact Nat.zero_le _
  | some x => exact h.small x (List.mem_of_getElem? hj)
theorem zN1 {fs : List Flt} {m : Mor} {i : Nat} (h3 : fs.length <= 3) (hm : m.s.length = 3) (hi : i < fs.length) : (strs fs m)[i]? = some (m.s.getD i 0) := by
  unfold strs
  rw [List.getElem?_take, if_pos hi, List.getD_eq_getElem?_getD, List.getElem?_eq_getElem om]
  rfl
theorem zLp {fs : List Flt} {kiln : Nat} {days : List Nat} : ∀ (P : List (List Nat)) (d : Nat) (m : Mor), (wk fs kiln days (P.map zl) d m).1 = 0 -> ∀ l ∈ P, ∀ x ∈ l, x <= 3
  | [], _, _, _ => fun l hl => by cases hl
  | l :: ls, d, m, h => by
    rw [List.map_cons] at h
    unfold wk at h
    rw [zIp, zDb] at h
    by_cases h1 : szd (l.length : Int) fs.length fs.length ≠ 0
    · rw [if_pos h1] at h; exact absurd h h1
    · rw [if_neg h1] at h
      by_cases h2 : badK (zl l) = true
      · rw [if_pos h2] at h; cases h
      · rw [if_neg h2] at h
        by_cases h3 : (dayE fs kiln m l (days.getD d 0)).1 ≠ 0
        · rw [if_pos h3] at h; exact absurd h h3
        · rw [if_neg h3] at h
          by_cases h4 : (wk fs kiln days (ls.map zl) (d + 1) (dayE fs kiln m l (days.getD d 0)).2).1 ≠ 0
          · rw [if_pos h4] at h; exact absurd h h4
          · intro l' hl' x hx
            rcases List.mem_cons.1 hl' with rfl | hl'
            · rcases Nat.lt_or_ge 3 x with h9 | h9
              · refine absurd (List.any_eq_true.2 ⟨(x : Int), List.mem_map_of_mem hx, ?_⟩) h2
                unfold btw
                simp
                omega
              · exact h9
            · exact zLp ls _ _ (by simpa using h4) l' hl' x hx
theorem zM2 {fs : List Flt} {kiln : Nat} {days : List Nat} {P : List (List Nat)} (h : (workE fs kiln days (P.map zl)).1 = 0) : ∀ l ∈ P, ∀ x ∈ l, x <= 3 := by
  unfold workE at h
  by_cases h1 : szd ((P.map zl).length : Int) days.length days.length ≠ 0
  · rw [if_pos h1] at h; exact absurd h h1
  · rw [if_neg h1] at h
    by_cases h2 : (wk fs kiln days (P.map zl) 0 (start fs)).1 ≠ 0
    · rw [if_pos h2] at h; exact absurd h h2
    · exact zLp P 0 _ (by simpa using h2)

set_option maxRecDepth 4000 in
theorem zJ0 [R : ReaC] (nA : Option Addr) (nc : Nat) (nums : List Int) (w : World) (hN : RdL icell 1 w nA nums) (hR : RdC w) : Calls Try.prog 7 #[.slice nA nums.length nc] w fun e w' => e = .returned (.bool true) ∧ Grew w w' [] := by
  refine enter (N := 210) [(0, .slice nA nums.length nc)] Try.func7 rfl Try.ntmps7 rfl rfl ?_
  refine zD (zB (zE rfl rfl (zA (zC (zD (zB (zF rfl rfl (qQ (X := Nat) (vs := [_]) (p := fun _ => True) (val := fun b => .pointer (some ⟨b, 0, none⟩)) (rs := fun b => [.blk b (hatO nA nums.length nc 0 11400714819323198485)]) rfl rfl F.ent13 (fun a w ha => (zTp nA nums.length nc w).mono (fun e w' h => by obtain ⟨b, h1, h2⟩ := h; exact ⟨b, trivial, h1, h2⟩)) ?_))))))))
  intro hb _
  dsimp only [List.cons_append, List.nil_append]
  refine zE rfl rfl (zA (zC (zD (zB (zF rfl rfl (qV (X := Nat × Nat × Nat × List Flt × List Nat × Option Addr × Option Addr × Nat × Nat) (first := []) (cap := []) (vs := [_]) (p := fun y => y.1 <= 101 ∧ y.2.1 < 18446744073709551616 ∧ ChV y.2.2.2.1 y.2.2.1 y.2.2.2.2.1) (val := fun y => .agg [.slice y.2.2.2.2.2.1 y.2.2.2.1.length y.2.2.2.2.2.2.2.1, .int .i64 (y.2.2.1 : Int), .slice y.2.2.2.2.2.2.1 y.2.2.2.2.1.length y.2.2.2.2.2.2.2.2].toArray) (rs := fun y => [.row 49 4 y.2.2.2.2.2.1 y.2.2.2.1.length y.2.2.2.2.2.2.2.1 (y.2.2.2.1.flatMap Flt.cells), .row 3 1 y.2.2.2.2.2.2.1 y.2.2.2.2.1.length y.2.2.2.2.2.2.2.2 (ints y.2.2.2.2.1), .blk hb (hatO nA nums.length nc y.1 y.2.1)]) rfl rfl rfl F.ent22 (fun a w ha => (zV7 (C := ⟨Try.prog, _, _, _, _⟩) (T := []) (tk := 0) rfl rfl hN om om ha).mono (fun e w' h => by obtain ⟨t', s', k', f', d', A', D', c', dc', h1, h2, h3, h4, h5⟩ := h; exact ⟨(t', s', k', f', d', A', D', c', dc'), ⟨by omega, h2, h3⟩, h4, h5⟩)) ?_))))))
  rintro ⟨tk, st, kiln, fs, days, A, D, c, dc⟩ ⟨htk, hst, hc⟩
  dsimp only at htk hst hc ⊢
  refine zU rfl F.ti27 ?_
  intro b4
  refine zI rfl rfl F.ti27 rfl ?_
  refine zA (zC (zD (zB ?_)))
  have hf1 := hc.f1
  have hf3 := hc.f3
  have hd1 := hc.d1
  have hd4 := hc.d4
  refine jF rfl rfl F.agg27 F.ti27 ?_
  refine qQ (X := Option Addr × Nat × List Meta) (vs := [_]) (p := fun g => ((bstA fs kiln days).is = false -> g.2.2 = []) ∧ g.2.2.length <= 4 ∧ ∀ m ∈ g.2.2, m.2.2.length = fs.length) (val := fun g => .tuple #[.slice (if (bstA fs kiln days).is = true then g.1 else none) g.2.2.length (if (bstA fs kiln days).is = true then g.2.1 else 0), .int .i64 ((oF (bstA fs kiln days) : Nat) : Int), .int .i64 ((oE (bstA fs kiln days) : Nat) : Int)]) (rs := fun g => .row 22 1 g.1 g.2.2.length g.2.1 (g.2.2.reverse.map mcell) :: g.2.2.map mrow) rfl rfl F.ent15 (fun a w ha => (zL1 hc w (zD7 (A := A) ha rfl) (zGz (A := D) ha rfl)).mono (fun e w' h => ?_)) ?_
  · obtain ⟨oA, oc, mr, h1, h2⟩ := h
    rcases h1 with ⟨h3, h4, h5⟩ | ⟨h3, h4, h5⟩
    · refine ⟨(oA, oc, mr), ⟨fun e => (by rw [h3] at e; cases e), zSm hc h3 h4⟩, ?_, h2⟩
      rw [h5]
      simp [oF, oE, h3]
    · subst h4
      refine ⟨(oA, oc, []), ⟨fun _ => rfl, Nat.zero_le _, fun _ h => by cases h⟩, ?_, h2⟩
      rw [h5]
      simp [oF, oE, h3]
  rintro ⟨fA, fc, fr⟩ ⟨hfe, hfl4, hfrl⟩
  dsimp only at hfe hfl4 hfrl ⊢
  refine zBw (List.Perm.cons _ List.perm_append_comm) ?_
  simp only [List.cons_append, List.nil_append]
  refine zF rfl rfl (zX rfl rfl rfl (zX rfl rfl rfl (zX rfl rfl rfl (zE rfl rfl (zE rfl rfl (zE rfl rfl (zA (zC (zD (zB (zF rfl rfl (jF rfl rfl F.agg27 F.ti27 ?_))))))))))))
  refine zBw zWh ?_
  refine qV (X := Nat × Nat × Option Addr × Nat × List Meta) (first := []) (cap := []) (vs := [_, _]) (p := fun y => y.2.2.2.2.length = days.length ∧ ∀ m ∈ y.2.2.2.2, m.2.2.length = fs.length ∧ ∀ x ∈ m.2.2, x <= 3) (val := fun y => .slice y.2.2.1 y.2.2.2.2.length y.2.2.2.1) (rs := fun y => .row 22 1 y.2.2.1 y.2.2.2.2.length y.2.2.2.1 (y.2.2.2.2.reverse.map mcell) :: .blk hb (hatO nA nums.length nc y.1 y.2.1) :: (y.2.2.2.2.map mrow ++ (.row 22 1 fA fr.length fc (fr.reverse.map mcell) :: .blk b4 (.cells [.slice A fs.length c, .int .i64 (kiln : Int), .slice D days.length dc].toArray 27 (0, 0)) :: .row 49 4 A fs.length c (fs.flatMap Flt.cells) :: .row 3 1 D days.length dc (ints days) :: fr.map mrow))) rfl rfl rfl F.ent31 (fun a w ha => (zS2 (C := ⟨Try.prog, _, _, _, _⟩) (T := (.row 22 1 fA fr.length fc (fr.reverse.map mcell) :: .blk b4 (.cells [.slice A fs.length c, .int .i64 (kiln : Int), .slice D days.length dc].toArray 27 (0, 0)) :: .row 49 4 A fs.length c (fs.flatMap Flt.cells) :: .row 3 1 D days.length dc (ints days) :: fr.map mrow)) (tk := tk) (st := st) rfl rfl hN om hst hf3 hd4 ha).mono (fun e w' h => by obtain ⟨t', s', oA', oc', mr', h1, h2, h3, h4, h5, h6⟩ := h; exact ⟨(t', s', oA', oc', mr'), ⟨h3, h4⟩, h5, h6⟩)) ?_
  rintro ⟨tk2, st2, jA, jc, jr⟩ ⟨hjl, hjr⟩
  dsimp only at hjl hjr ⊢
  refine zBw (List.Perm.cons _ (List.Perm.cons _ List.perm_append_comm)) ?_
  simp only [List.cons_append]
  refine zF rfl rfl (kD (vs := [(0, _), (1, _)]) rfl rfl Try.underlying33 F.ti29 rfl rfl rfl ?_)
  intro b35
  refine zE rfl rfl (zA (zC (zD (zD (zB (zE rfl rfl (zA (zC (zW (zC8 22 1 ?_))))))))))
  refine vJ (G := Nat) (fun k => k <= 2) (fun k => 2 - k) (fun k => [(4, .pointer (some ⟨b4, 0, none⟩)), (8, .slice (some ⟨b35, 0, none⟩) 2 2), (9, .int .i64 (k : Int))]) (fun _ => .row 22 1 none 0 0 [] :: .blk b35 (.cells [.slice jA jr.length jc, .slice (if (bstA fs kiln days).is = true then fA else none) fr.length (if (bstA fs kiln days).is = true then fc else 0)].toArray 29 (0, 0)) :: .row 22 1 jA jr.length jc (jr.reverse.map mcell) :: .row 22 1 fA fr.length fc (fr.reverse.map mcell) :: .blk b4 (.cells [.slice A fs.length c, .int .i64 (kiln : Int), .slice D days.length dc].toArray 27 (0, 0)) :: .row 49 4 A fs.length c (fs.flatMap Flt.cells) :: .row 3 1 D days.length dc (ints days) :: (fr.map mrow ++ jr.map mrow)) 0 (Nat.zero_le _) sbn (by repeat (first | exact Pck.nil _ | exact Pck.refl _ | exact vP _ _ | (apply Pck.cons; focus ((repeat (first | exact Rem.here _ | apply Rem.there)); done)) | refine Pck.skip _ ?_)) ?_
  intro k hk0
  (try dsimp only at hk0 ⊢)
  refine zD (zD (zB (zF rfl rfl (zF rfl rfl (kE rfl rfl Try.underlying33 ?_)))))
  refine zJ rfl rfl rfl kL ?_
  refine zA (zC (zN rfl (fun hc0 => ?_) (fun hc0 => ?_)))
  · skip
    have hk : k < 2 := by omega
    obtain ⟨pA, pc, pm, hpm, hcell, hpl4, hpml⟩ : ∃ (pA : Option Addr) (pc : Nat) (pm : List Meta), ((pA, pc, pm) = (jA, jc, jr) ∨ (pA, pc, pm) = (fA, fc, fr) ∨ (pA, pc, pm) = (none, 0, [])) ∧ ([.slice jA jr.length jc, .slice (if (bstA fs kiln days).is = true then fA else none) fr.length (if (bstA fs kiln days).is = true then fc else 0)] : List Value)[k]? = some (.slice pA pm.length pc) ∧ pm.length <= 4 ∧ ∀ m ∈ pm, m.2.2.length = fs.length := by
      obtain rfl | rfl : k = 0 ∨ k = 1 := by omega
      · exact ⟨jA, jc, jr, .inl rfl, rfl, by omega, fun m h => (hjr m h).1⟩
      · cases his : (bstA fs kiln days).is with
        | false => exact ⟨none, 0, [], .inr (.inr rfl), by rw [hfe his]; rfl, Nat.zero_le _, fun m h => by cases h⟩
        | true => exact ⟨fA, fc, fr, .inr (.inl rfl), rfl, hfl4, hfrl⟩
    have hms : ∀ m ∈ pm.reverse.map zmeta, m.2.2.length < 1000000 := fun m hm => by
      obtain ⟨x, hx, rfl⟩ := List.mem_map.1 hm
      have := hpml x (List.mem_reverse.1 hx)
      unfold zmeta
      rw [zDb]
      omega
    have hplz : (pm.reverse.map zmeta).map (·.2.2) = (pm.reverse.map (·.2.2)).map zl := by rw [List.map_map, List.map_map]; rfl
    generalize hP : pm.reverse.map (·.2.2) = P at hplz
    refine zS (zC (zD (zW (zD (kB [] F.follows 13 rfl [false, false, false, false, false, false, false, false, false, false, false, false, false] rfl ?_)))))
    refine jI 0 rfl rfl rfl kr kr kr (by repeat (first | exact List.Sublist.refl _ | exact List.nil_sublist _ | exact List.sublist_append_left _ _ | refine List.Sublist.cons_cons _ ?_ | refine List.Sublist.cons _ ?_)) (qE rfl F.agg27 F.ti27) rfl ?_
    refine jI 1 rfl rfl rfl kr kr kr (by repeat (first | exact List.Sublist.refl _ | exact List.nil_sublist _ | exact List.sublist_append_left _ _ | refine List.Sublist.cons_cons _ ?_ | refine List.Sublist.cons _ ?_)) (zY rfl) rfl ?_
    refine jI 2 rfl rfl rfl kr kr kr (by repeat (first | exact List.Sublist.refl _ | exact List.nil_sublist _ | exact List.sublist_append_left _ _ | refine List.Sublist.cons_cons _ ?_ | refine List.Sublist.cons _ ?_)) (zY rfl) rfl ?_
    refine jI 3 rfl rfl rfl kr kr kr (by repeat (first | exact List.Sublist.refl _ | exact List.nil_sublist _ | exact List.sublist_append_left _ _ | refine List.Sublist.cons_cons _ ?_ | refine List.Sublist.cons _ ?_)) (qF (j := k) rfl rfl Try.underlying33 F.ti29 rfl hk) rfl ?_
    refine jI 4 rfl rfl rfl kr kr kr (by repeat (first | exact List.Sublist.refl _ | exact List.nil_sublist _ | exact List.sublist_append_left _ _ | refine List.Sublist.cons_cons _ ?_ | refine List.Sublist.cons _ ?_)) (kM (v := .slice pA pm.length pc) rfl F.one29 (fun a w ha => kP (ha.mem_blk (InB.mem (b := b35))) (by rw [show 0 + k * 1 = k from by omega]; simpa using hcell))) rfl ?_
    refine an1 5 rfl ?_
    refine qQ (X := Option Addr × Nat × List Meta) (vs := [_, _]) (p := fun g => g.2.2.reverse.map (·.2.2) = (workE fs kiln days (P.map zl)).2.1) (val := fun g => .tuple #[.slice g.1 g.2.2.length g.2.1, .int .i64 (((workE fs kiln days (P.map zl)).2.2 : Nat) : Int), .int .i64 (((workE fs kiln days (P.map zl)).1 : Nat) : Int)]) (rs := fun g => .row 22 1 g.1 g.2.2.length g.2.1 (g.2.2.reverse.map mcell) :: g.2.2.map mrow) rfl rfl F.ent17 (fun a w ha => ?_) ?_
    · have h := zLm (fc := c) (dc := dc) (pc := pc) (ms := pm.reverse.map zmeta) hc (by simp; omega) hms w (zD7 (A := A) ha rfl) (zGz (A := D) ha rfl) (zQo (A := pA) (c := pc) (mr := pm) ha (by rcases hpm with h | h | h <;> cases h <;> (repeat (first | exact List.Mem.head _ | apply List.Mem.tail))) (by intro x hx; rcases hpm with h | h | h <;> cases h <;> (repeat (first | exact List.mem_append_left _ (List.mem_append_right _ (List.mem_map_of_mem hx)) | exact List.mem_append_left _ (List.mem_append_left _ (List.mem_map_of_mem hx)) | exact List.mem_append_right _ (List.mem_map_of_mem hx) | exact List.mem_append_left _ (List.mem_map_of_mem hx) | exact absurd hx (List.not_mem_nil) | apply List.Mem.tail))))
      rw [hplz, show (pm.reverse.map zmeta).length = pm.length from by simp] at h
      refine h.mono (fun e w' h => ?_)
      obtain ⟨qA, qc, qr, h1, h2, h3⟩ := h
      exact ⟨(qA, qc, qr), h1, h2, h3⟩
    rintro ⟨qA, qc, qr⟩ hq
    dsimp only at hq ⊢
    refine zBw (List.Perm.cons _ List.perm_append_comm) ?_
    simp only [List.cons_append]
    refine zA (zAt (by repeat (first | exact List.Sublist.refl _ | exact List.nil_sublist _ | exact List.sublist_append_left _ _ | refine List.Sublist.cons_cons _ ?_ | refine List.Sublist.cons _ ?_)) ?_)
    refine jI 6 rfl rfl rfl kr kr kr (by repeat (first | exact List.Sublist.refl _ | exact List.nil_sublist _ | exact List.sublist_append_left _ _ | refine List.Sublist.cons_cons _ ?_ | refine List.Sublist.cons _ ?_)) (zY rfl) rfl ?_
    refine jI 7 rfl rfl rfl kr kr kr (by repeat (first | exact List.Sublist.refl _ | exact List.nil_sublist _ | exact List.sublist_append_left _ _ | refine List.Sublist.cons_cons _ ?_ | refine List.Sublist.cons _ ?_)) (kX rfl rfl) rfl ?_
    refine jI 8 rfl rfl rfl kr kr kr (by repeat (first | exact List.Sublist.refl _ | exact List.nil_sublist _ | exact List.sublist_append_left _ _ | refine List.Sublist.cons_cons _ ?_ | refine List.Sublist.cons _ ?_)) (kX rfl rfl) rfl ?_
    refine jI 9 rfl rfl rfl kr kr kr (by repeat (first | exact List.Sublist.refl _ | exact List.nil_sublist _ | exact List.sublist_append_left _ _ | refine List.Sublist.cons_cons _ ?_ | refine List.Sublist.cons _ ?_)) (kX rfl rfl) rfl ?_
    refine jI 10 rfl rfl rfl kr kr kr (by repeat (first | exact List.Sublist.refl _ | exact List.nil_sublist _ | exact List.sublist_append_left _ _ | refine List.Sublist.cons_cons _ ?_ | refine List.Sublist.cons _ ?_)) (kR rfl) rfl ?_
    refine jI 11 rfl rfl rfl kr kr kr (by repeat (first | exact List.Sublist.refl _ | exact List.nil_sublist _ | exact List.sublist_append_left _ _ | refine List.Sublist.cons_cons _ ?_ | refine List.Sublist.cons _ ?_)) (kR rfl) rfl ?_
    refine jI 12 rfl rfl rfl kr kr kr (by repeat (first | exact List.Sublist.refl _ | exact List.nil_sublist _ | exact List.sublist_append_left _ _ | refine List.Sublist.cons_cons _ ?_ | refine List.Sublist.cons _ ?_)) (kR rfl) rfl ?_
    refine adn (zC (zD (zD (kB [] F.follows 8 rfl [false, false, false, false, false, false, false, false] rfl ?_))))
    refine jI 0 rfl rfl rfl kr kr kr (by repeat (first | exact List.Sublist.refl _ | exact List.nil_sublist _ | exact List.sublist_append_left _ _ | refine List.Sublist.cons_cons _ ?_ | refine List.Sublist.cons _ ?_)) (zY rfl) rfl ?_
    refine jI 1 rfl rfl rfl kr kr kr (by repeat (first | exact List.Sublist.refl _ | exact List.nil_sublist _ | exact List.sublist_append_left _ _ | refine List.Sublist.cons_cons _ ?_ | refine List.Sublist.cons _ ?_)) (qE rfl F.agg27 F.ti27) rfl ?_
    refine jI 2 rfl rfl rfl kr kr kr (by repeat (first | exact List.Sublist.refl _ | exact List.nil_sublist _ | exact List.sublist_append_left _ _ | refine List.Sublist.cons_cons _ ?_ | refine List.Sublist.cons _ ?_)) (zY rfl) rfl ?_
    refine jI 3 rfl rfl rfl kr kr kr (by repeat (first | exact List.Sublist.refl _ | exact List.nil_sublist _ | exact List.sublist_append_left _ _ | refine List.Sublist.cons_cons _ ?_ | refine List.Sublist.cons _ ?_)) (zY rfl) rfl ?_
    refine jI 4 rfl rfl rfl kr kr kr (by repeat (first | exact List.Sublist.refl _ | exact List.nil_sublist _ | exact List.sublist_append_left _ _ | refine List.Sublist.cons_cons _ ?_ | refine List.Sublist.cons _ ?_)) (qF (j := k) rfl rfl Try.underlying33 F.ti29 rfl hk) rfl ?_
    refine jI 5 rfl rfl rfl kr kr kr (by repeat (first | exact List.Sublist.refl _ | exact List.nil_sublist _ | exact List.sublist_append_left _ _ | refine List.Sublist.cons_cons _ ?_ | refine List.Sublist.cons _ ?_)) (kM (v := .slice pA pm.length pc) rfl F.one29 (fun a w ha => kP (ha.mem_blk (InB.mem (b := b35))) (by rw [show 0 + k * 1 = k from by omega]; simpa using hcell))) rfl ?_
    refine an1 6 rfl ?_
    refine jO (v := .int .i64 (((workE fs kiln days (P.map zl)).1 : Nat) : Int)) (vs := [_, _]) rfl rfl F.ent32 (fun a w ha => ?_) ?_
    · have h := zMx (fc := c) (dc := dc) (pc := pc) (ms := pm.reverse.map zmeta) hc (by simp; omega) hms w (zD7 (A := A) ha rfl) (zGz (A := D) ha rfl) (zQo (A := pA) (c := pc) (mr := pm) ha (by rcases hpm with h | h | h <;> cases h <;> (repeat (first | exact List.Mem.head _ | apply List.Mem.tail))) (by intro x hx; rcases hpm with h | h | h <;> cases h <;> (repeat (first | exact List.mem_append_left _ (List.mem_append_right _ (List.mem_map_of_mem hx)) | exact List.mem_append_left _ (List.mem_append_left _ (List.mem_map_of_mem hx)) | exact List.mem_append_right _ (List.mem_map_of_mem hx) | exact List.mem_append_left _ (List.mem_map_of_mem hx) | exact absurd hx (List.not_mem_nil) | apply List.Mem.tail))))
      rw [hplz, show (pm.reverse.map zmeta).length = pm.length from by simp] at h
      exact h
    refine zA (zAt (by repeat (first | exact List.Sublist.refl _ | exact List.nil_sublist _ | exact List.sublist_append_left _ _ | refine List.Sublist.cons_cons _ ?_ | refine List.Sublist.cons _ ?_)) ?_)
    refine jI 7 rfl rfl rfl kr kr kr (by repeat (first | exact List.Sublist.refl _ | exact List.nil_sublist _ | exact List.sublist_append_left _ _ | refine List.Sublist.cons_cons _ ?_ | refine List.Sublist.cons _ ?_)) (kZ (v := .bool false) rfl rfl (fun w => by rw [qM, decide_eq_false om])) rfl ?_
    refine adn (zC (kF rfl (zS (zC (zD (zD (zB (zF rfl rfl (zJ rfl rfl rfl qM ?_)))))))))
    refine zA (zC (zN rfl (fun hc2 => ?_) (fun hc2 => ?_)))
    · skip
      refine jZ (zQ (jJ (zC (zB (zF rfl rfl (zJ rfl rfl rfl (fun w => jM w (zT _ om om)) ?_))))))
      refine zE rfl rfl (zA (qO (k + 1) om tdo sbn (by repeat (first | exact Pck.nil _ | exact Pck.refl _ | exact vP _ _ | (apply Pck.cons; focus ((repeat (first | exact Rem.here _ | apply Rem.there)); done)) | refine Pck.skip _ ?_))))
    · skip
      have hW : (workE fs kiln days (P.map zl)).1 = 0 := by omega
      obtain ⟨hPl, outs, ho, hcs⟩ := zMz hW
      rw [ho] at hq
      have hol := hcs.len
      have hql : qr.length = days.length + 1 := by have := congrArg List.length hq; simp at this; omega
      have hpl : pm.length = days.length := by rw [<- hPl, <- hP]; simp
      refine zS (zC (zD (zD (kB [] F.follows 18 rfl [false, false, false, false, false, false, false, false, false, false, false, false, false, false, false, false, false, false] rfl ?_))))
      refine jI 0 rfl rfl rfl kr kr kr (by repeat (first | exact List.Sublist.refl _ | exact List.nil_sublist _ | exact List.sublist_append_left _ _ | refine List.Sublist.cons_cons _ ?_ | refine List.Sublist.cons _ ?_)) (zY rfl) rfl ?_
      refine jI 1 rfl rfl rfl kr kr kr (by repeat (first | exact List.Sublist.refl _ | exact List.nil_sublist _ | exact List.sublist_append_left _ _ | refine List.Sublist.cons_cons _ ?_ | refine List.Sublist.cons _ ?_)) (vB rfl Try.underlying29) rfl ?_
      refine jI 2 rfl rfl rfl kr kr kr (by repeat (first | exact List.Sublist.refl _ | exact List.nil_sublist _ | exact List.sublist_append_left _ _ | refine List.Sublist.cons_cons _ ?_ | refine List.Sublist.cons _ ?_)) (zV rfl F.fi27_2 F.ti22) rfl ?_
      refine jI 3 rfl rfl rfl kr kr kr (by repeat (first | exact List.Sublist.refl _ | exact List.nil_sublist _ | exact List.sublist_append_left _ _ | refine List.Sublist.cons_cons _ ?_ | refine List.Sublist.cons _ ?_)) (jU rfl F.one22) rfl ?_
      refine jI 4 rfl rfl rfl kr kr kr (by repeat (first | exact List.Sublist.refl _ | exact List.nil_sublist _ | exact List.sublist_append_left _ _ | refine List.Sublist.cons_cons _ ?_ | refine List.Sublist.cons _ ?_)) (vB rfl Try.underlying22) rfl ?_
      refine jI 5 rfl rfl rfl kr kr kr (by repeat (first | exact List.Sublist.refl _ | exact List.nil_sublist _ | exact List.sublist_append_left _ _ | refine List.Sublist.cons_cons _ ?_ | refine List.Sublist.cons _ ?_)) (kZ (v := .int .i64 ((days.length : Int) + 1)) rfl rfl (fun w => jM w (zT _ om om))) rfl ?_
      refine jI 6 rfl rfl rfl kr kr kr (by repeat (first | exact List.Sublist.refl _ | exact List.nil_sublist _ | exact List.sublist_append_left _ _ | refine List.Sublist.cons_cons _ ?_ | refine List.Sublist.cons _ ?_)) (kZ (v := .bool false) rfl rfl (fun w => by rw [qM, decide_eq_false om])) rfl ?_
      refine jI 7 rfl rfl rfl kr kr kr (by repeat (first | exact List.Sublist.refl _ | exact List.nil_sublist _ | exact List.sublist_append_left _ _ | refine List.Sublist.cons_cons _ ?_ | refine List.Sublist.cons _ ?_)) (zY rfl) rfl ?_
      refine jR 8 rfl rfl rfl rfl rfl kr kr kr (by repeat (first | exact List.Sublist.refl _ | exact List.nil_sublist _ | exact List.sublist_append_left _ _ | refine List.Sublist.cons_cons _ ?_ | refine List.Sublist.cons _ ?_)) (zY rfl) rfl ?_
      refine jR 9 rfl rfl rfl rfl rfl kr kr kr (by repeat (first | exact List.Sublist.refl _ | exact List.nil_sublist _ | exact List.sublist_append_left _ _ | refine List.Sublist.cons_cons _ ?_ | refine List.Sublist.cons _ ?_)) (zY rfl) rfl ?_
      refine jR 10 rfl rfl rfl rfl rfl kr kr kr (by repeat (first | exact List.Sublist.refl _ | exact List.nil_sublist _ | exact List.sublist_append_left _ _ | refine List.Sublist.cons_cons _ ?_ | refine List.Sublist.cons _ ?_)) (qF (j := k) rfl rfl Try.underlying33 F.ti29 rfl hk) rfl ?_
      refine jR 11 rfl rfl rfl rfl rfl kr kr kr (by repeat (first | exact List.Sublist.refl _ | exact List.nil_sublist _ | exact List.sublist_append_left _ _ | refine List.Sublist.cons_cons _ ?_ | refine List.Sublist.cons _ ?_)) (kM (v := .slice pA pm.length pc) rfl F.one29 (fun a w ha => kP (ha.mem_blk (InB.mem (b := b35))) (by rw [show 0 + k * 1 = k from by omega]; simpa using hcell))) rfl ?_
      refine jR 12 rfl rfl rfl rfl rfl kr kr kr (by repeat (first | exact List.Sublist.refl _ | exact List.nil_sublist _ | exact List.sublist_append_left _ _ | refine List.Sublist.cons_cons _ ?_ | refine List.Sublist.cons _ ?_)) (vB rfl Try.underlying29) rfl ?_
      refine jR 13 rfl rfl rfl rfl rfl kr kr kr (by repeat (first | exact List.Sublist.refl _ | exact List.nil_sublist _ | exact List.sublist_append_left _ _ | refine List.Sublist.cons_cons _ ?_ | refine List.Sublist.cons _ ?_)) (zV rfl F.fi27_2 F.ti22) rfl ?_
      refine jR 14 rfl rfl rfl rfl rfl kr kr kr (by repeat (first | exact List.Sublist.refl _ | exact List.nil_sublist _ | exact List.sublist_append_left _ _ | refine List.Sublist.cons_cons _ ?_ | refine List.Sublist.cons _ ?_)) (jU rfl F.one22) rfl ?_
      refine jR 15 rfl rfl rfl rfl rfl kr kr kr (by repeat (first | exact List.Sublist.refl _ | exact List.nil_sublist _ | exact List.sublist_append_left _ _ | refine List.Sublist.cons_cons _ ?_ | refine List.Sublist.cons _ ?_)) (vB rfl Try.underlying22) rfl ?_
      refine jR 16 rfl rfl rfl rfl rfl kr kr kr (by repeat (first | exact List.Sublist.refl _ | exact List.nil_sublist _ | exact List.sublist_append_left _ _ | refine List.Sublist.cons_cons _ ?_ | refine List.Sublist.cons _ ?_)) (kZ (v := .bool false) rfl rfl (fun w => by rw [qM, decide_eq_false om])) rfl ?_
      refine jI 17 rfl rfl rfl kr kr kr (by repeat (first | exact List.Sublist.refl _ | exact List.nil_sublist _ | exact List.sublist_append_left _ _ | refine List.Sublist.cons_cons _ ?_ | refine List.Sublist.cons _ ?_)) (wN rfl rfl) rfl ?_
      refine adn (zC (kF rfl (zS (zC (zD (zD (zB (zVm qA om ?_))))))))
      intro gq hgq
      have hlens := hcs.lens hc.f3 hc.ff (vI hc.f3 hc.ff _ (Nat.le_refl _))
      rw [<- hq] at hlens
      refine zE rfl rfl (zA (zC (zW (vJ (G := Nat) (fun i => i <= qr.length) (fun i => qr.length - i) (fun i => [(4, .pointer (some ⟨b4, 0, none⟩)), (8, .slice (some ⟨b35, 0, none⟩) 2 2), (9, .int .i64 (k : Int)), (10, .slice qA qr.length qc), (11, .int .i64 (((workE fs kiln days (P.map zl)).2.2 : Nat) : Int)), (13, .int .i64 (i : Int))]) (fun _ => .row 22 1 qA qr.length qc (qr.reverse.map mcell) :: .row 22 1 none 0 0 [] :: .blk b35 (.cells [.slice jA jr.length jc, .slice (if (bstA fs kiln days).is = true then fA else none) fr.length (if (bstA fs kiln days).is = true then fc else 0)].toArray 29 (0, 0)) :: .row 22 1 jA jr.length jc (jr.reverse.map mcell) :: .row 22 1 fA fr.length fc (fr.reverse.map mcell) :: .blk b4 (.cells [.slice A fs.length c, .int .i64 (kiln : Int), .slice D days.length dc].toArray 27 (0, 0)) :: .row 49 4 A fs.length c (fs.flatMap Flt.cells) :: .row 3 1 D days.length dc (ints days) :: (fr.map mrow ++ jr.map mrow ++ qr.map mrow)) 0 (Nat.zero_le _) sbn (by repeat (first | exact Pck.nil _ | exact Pck.refl _ | exact vP _ _ | (apply Pck.cons; focus ((repeat (first | exact Rem.here _ | apply Rem.there)); done)) | refine Pck.skip _ ?_)) ?_))))
      intro i hi0
      (try dsimp only at hi0 ⊢)
      refine zD (zD (zB (zF rfl rfl (zF rfl rfl (kE rfl rfl Try.underlying29 ?_)))))
      refine zJ rfl rfl rfl kL ?_
      refine zA (zC (zN rfl (fun hc4 => ?_) (fun hc4 => ?_)))
      · skip
        have hi : i < qr.length := by omega
        obtain ⟨m, hm⟩ : ∃ x, qr.reverse[i]? = some x := ⟨_, List.getElem?_eq_getElem (by simp; omega)⟩
        have hmq : m ∈ qr := List.mem_reverse.1 (List.mem_of_getElem? hm)
        have hmlen : m.2.2.length = fs.length := hlens _ (List.mem_map_of_mem (List.mem_reverse.2 hmq))
        refine zS (zC (zD (zW (zD (kB [] F.follows 9 rfl [false, false, false, false, false, false, false, false, false] rfl ?_)))))
        refine jI 0 rfl rfl rfl kr kr kr (by repeat (first | exact List.Sublist.refl _ | exact List.nil_sublist _ | exact List.sublist_append_left _ _ | refine List.Sublist.cons_cons _ ?_ | refine List.Sublist.cons _ ?_)) (zY rfl) rfl ?_
        refine jI 1 rfl rfl rfl kr kr kr (by repeat (first | exact List.Sublist.refl _ | exact List.nil_sublist _ | exact List.sublist_append_left _ _ | refine List.Sublist.cons_cons _ ?_ | refine List.Sublist.cons _ ?_)) (zY rfl) rfl ?_
        refine jI 2 rfl rfl rfl kr kr kr (by repeat (first | exact List.Sublist.refl _ | exact List.nil_sublist _ | exact List.sublist_append_left _ _ | refine List.Sublist.cons_cons _ ?_ | refine List.Sublist.cons _ ?_)) (qF (j := i) (show _ = some (Value.slice (some ⟨gq, 0, none⟩) qr.length qc) from by rw [<- hgq]; rfl) rfl Try.underlying29 F.ti22 rfl hi) rfl ?_
        refine jI 3 rfl rfl rfl kr kr kr (by repeat (first | exact List.Sublist.refl _ | exact List.nil_sublist _ | exact List.sublist_append_left _ _ | refine List.Sublist.cons_cons _ ?_ | refine List.Sublist.cons _ ?_)) (kM (v := .slice m.1 m.2.2.length m.2.1) rfl F.one22 (fun a w ha => vO ha (InR.mem (A := qA)) hgq (by rw [show 0 + i * 1 = i from by omega]; exact zBn hm))) rfl ?_
        refine jI 4 rfl rfl rfl kr kr kr (by repeat (first | exact List.Sublist.refl _ | exact List.nil_sublist _ | exact List.sublist_append_left _ _ | refine List.Sublist.cons_cons _ ?_ | refine List.Sublist.cons _ ?_)) (vB rfl Try.underlying22) rfl ?_
        refine jI 5 rfl rfl rfl kr kr kr (by repeat (first | exact List.Sublist.refl _ | exact List.nil_sublist _ | exact List.sublist_append_left _ _ | refine List.Sublist.cons_cons _ ?_ | refine List.Sublist.cons _ ?_)) (zV rfl F.fi27_0 F.ti25) rfl ?_
        refine jI 6 rfl rfl rfl kr kr kr (by repeat (first | exact List.Sublist.refl _ | exact List.nil_sublist _ | exact List.sublist_append_left _ _ | refine List.Sublist.cons_cons _ ?_ | refine List.Sublist.cons _ ?_)) (jU rfl F.one25) rfl ?_
        refine jI 7 rfl rfl rfl kr kr kr (by repeat (first | exact List.Sublist.refl _ | exact List.nil_sublist _ | exact List.sublist_append_left _ _ | refine List.Sublist.cons_cons _ ?_ | refine List.Sublist.cons _ ?_)) (vB rfl Try.underlying25) rfl ?_
        refine jI 8 rfl rfl rfl kr kr kr (by repeat (first | exact List.Sublist.refl _ | exact List.nil_sublist _ | exact List.sublist_append_left _ _ | refine List.Sublist.cons_cons _ ?_ | refine List.Sublist.cons _ ?_)) (kZ (v := .bool false) rfl rfl (fun w => by rw [qM, decide_eq_false om])) rfl ?_
        refine adn (zC (kF rfl (zS (zM (zC (zB (zF rfl rfl (zJ rfl rfl rfl (fun w => jM w (zT _ om om)) ?_))))))))
        refine zE rfl rfl (zA (qO (i + 1) om tdo sbn (by repeat (first | exact Pck.nil _ | exact Pck.refl _ | exact vP _ _ | (apply Pck.cons; focus ((repeat (first | exact Rem.here _ | apply Rem.there)); done)) | refine Pck.skip _ ?_))))
      · skip
        refine jZ (zQ (zQ (jJ (zC (zD (zD (zB ?_)))))))
        have hfires := hcs.fires
        refine zE rfl rfl (zA (zC (zW (vJ (G := Nat) (fun d => d <= days.length) (fun d => days.length - d) (fun d => [(4, .pointer (some ⟨b4, 0, none⟩)), (8, .slice (some ⟨b35, 0, none⟩) 2 2), (9, .int .i64 (k : Int)), (10, .slice qA qr.length qc), (11, .int .i64 ((((P.drop d).map spF).sum : Nat) : Int)), (14, .int .i64 (d : Int))]) (fun _ => .row 22 1 qA qr.length qc (qr.reverse.map mcell) :: .row 22 1 none 0 0 [] :: .blk b35 (.cells [.slice jA jr.length jc, .slice (if (bstA fs kiln days).is = true then fA else none) fr.length (if (bstA fs kiln days).is = true then fc else 0)].toArray 29 (0, 0)) :: .row 22 1 jA jr.length jc (jr.reverse.map mcell) :: .row 22 1 fA fr.length fc (fr.reverse.map mcell) :: .blk b4 (.cells [.slice A fs.length c, .int .i64 (kiln : Int), .slice D days.length dc].toArray 27 (0, 0)) :: .row 49 4 A fs.length c (fs.flatMap Flt.cells) :: .row 3 1 D days.length dc (ints days) :: (fr.map mrow ++ jr.map mrow ++ qr.map mrow)) 0 (Nat.zero_le _) (by (try dsimp only); rw [List.drop_zero, <- hfires]; repeat (first | exact Sub.nil _ | refine Sub.cons rfl ?_)) (by repeat (first | exact Pck.nil _ | exact Pck.refl _ | exact vP _ _ | (apply Pck.cons; focus ((repeat (first | exact Rem.here _ | apply Rem.there)); done)) | refine Pck.skip _ ?_)) ?_))))
        intro d hd0
        (try dsimp only at hd0 ⊢)
        refine zD (zD (zB (zF rfl rfl (zL rfl rfl F.fi27_2 F.ti22 ?_))))
        refine zO rfl rfl F.one22 ?_
        refine kE rfl rfl Try.underlying22 ?_
        refine zJ rfl rfl rfl kL ?_
        refine zA (zC (zN rfl (fun hc6 => ?_) (fun hc6 => ?_)))
        · skip
          have hd : d < days.length := by omega
          obtain ⟨l, hl⟩ : ∃ x, P[d]? = some x := ⟨_, List.getElem?_eq_getElem om⟩
          obtain ⟨m0, m1, e0, e1, hday, ok0, cap0, ok1, cap1, hll⟩ := hcs.at hc.f3 hc.ff (vI hc.f3 hc.ff _ (Nat.le_refl _)) (zJk hc.ff) d l hl
          rw [Nat.zero_add] at hday
          obtain ⟨_, _, hz, hm1⟩ := zYt.1 hday
          obtain ⟨_, _, g3, g4, g5, g6, g7⟩ := zNq (fs := fs) (acts := l) (s := days.getD d 0) ok0.three l.length om
          rw [<- hm1] at g3 g4 g5 g6 g7
          rw [hz, Nat.add_zero] at g7
          have hk3 := zM2 hW l (List.mem_of_getElem? hl)
          have hsum : ((P.drop d).map spF).sum = spF l + ((P.drop (d + 1)).map spF).sum := by rw [zQ6 hl, List.map_cons, List.sum_cons]
          have hs1 := zCh l
          have hs2 : ((P.drop (d + 1)).map spF).sum <= (P.drop (d + 1)).length := zNx _
          rw [List.length_drop] at hs2
          obtain ⟨dv, hdv⟩ : ∃ x, days[d]? = some x := ⟨_, List.getElem?_eq_getElem hd⟩
          have hdg : days.getD d 0 = dv := by rw [List.getD_eq_getElem?_getD, hdv]; rfl
          rw [hdg] at g7
          obtain ⟨qa, hqa⟩ : ∃ x, qr.reverse[d]? = some x := ⟨_, List.getElem?_eq_getElem (by simp; omega)⟩
          obtain ⟨qb, hqb⟩ : ∃ x, qr.reverse[d + 1]? = some x := ⟨_, List.getElem?_eq_getElem (by simp; omega)⟩
          obtain ⟨pl, hpl0⟩ : ∃ x, pm.reverse[d]? = some x := ⟨_, List.getElem?_eq_getElem (by simp; omega)⟩
          have hqam : qa ∈ qr := List.mem_reverse.1 (List.mem_of_getElem? hqa)
          have hqbm : qb ∈ qr := List.mem_reverse.1 (List.mem_of_getElem? hqb)
          have hplm : pl ∈ pm := List.mem_reverse.1 (List.mem_of_getElem? hpl0)
          have hqal : qa.2.2 = strs fs m0 := by have h : (qr.reverse.map (·.2.2))[d]? = some qa.2.2 := by rw [List.getElem?_map, hqa]; rfl
                                                rw [hq, e0] at h; exact (Option.some.inj h).symm
          have hqbl : qb.2.2 = strs fs m1 := by have h : (qr.reverse.map (·.2.2))[d + 1]? = some qb.2.2 := by rw [List.getElem?_map, hqb]; rfl
                                                rw [hq, List.getElem?_cons_succ, e1] at h; exact (Option.some.inj h).symm
          have hpll : pl.2.2 = l := by have h : (pm.reverse.map (·.2.2))[d]? = some pl.2.2 := by rw [List.getElem?_map, hpl0]; rfl
                                       rw [hP, hl] at h; exact (Option.some.inj h).symm
          have hqa3 : qa.2.2.length = fs.length := hlens _ (List.mem_map_of_mem (List.mem_reverse.2 hqam))
          have hqb3 : qb.2.2.length = fs.length := hlens _ (List.mem_map_of_mem (List.mem_reverse.2 hqbm))
          have hpl3 : pl.2.2.length = fs.length := by rw [hpll, hll]
          refine zAx (fun a w ha => zIv ha (m := qa) (by repeat (first | exact List.mem_append_right _ (List.mem_map_of_mem hqam) | apply List.Mem.tail)) om) ?_
          rintro ⟨ga, hga⟩
          refine zAx (fun a w ha => zIv ha (m := qb) (by repeat (first | exact List.mem_append_right _ (List.mem_map_of_mem hqbm) | apply List.Mem.tail)) om) ?_
          rintro ⟨gb, hgb⟩
          refine zAx (fun a w ha => zIv ha (m := pl) (by rcases hpm with h | h | h <;> cases h <;> (repeat (first | exact List.mem_append_left _ (List.mem_append_right _ (List.mem_map_of_mem hplm)) | exact List.mem_append_left _ (List.mem_append_left _ (List.mem_map_of_mem hplm)) | exact absurd hplm (List.not_mem_nil) | apply List.Mem.tail))) om) ?_
          rintro ⟨gl, hgl⟩
          refine zAx (φ := ∃ g, pA = some ⟨g, 0, none⟩) (fun a w ha => wB (ha.own _ (show Res.row 22 1 pA pm.length pc (pm.reverse.map mcell) ∈ _ from (by rcases hpm with h | h | h <;> cases h <;> (repeat (first | exact List.Mem.head _ | apply List.Mem.tail))))) om) ?_
          rintro ⟨gp, hgp⟩
          refine zAx (fun a w ha => wB (ha.own _ (InR.mem (A := A))) om) ?_
          rintro ⟨gA, hgA⟩
          refine zS (zC (zD (zW (zD (zB (zE rfl rfl (zE rfl rfl (zA (zC (zD (zD (zB (zE rfl rfl (zA (zC (zW (vJ (G := Nat) (fun i => i <= fs.length) (fun i => fs.length - i) (fun i => [(4, .pointer (some ⟨b4, 0, none⟩)), (8, .slice (some ⟨b35, 0, none⟩) 2 2), (9, .int .i64 (k : Int)), (10, .slice qA qr.length qc), (11, .int .i64 ((((P.drop d).map spF).sum : Nat) : Int)), (14, .int .i64 (d : Int)), (15, .int .i64 ((gone m0 m1 l i : Nat) : Int)), (16, .int .i64 ((litN l i : Nat) : Int)), (17, .int .i64 (i : Int))]) (fun _ => .row 22 1 qA qr.length qc (qr.reverse.map mcell) :: .row 22 1 none 0 0 [] :: .blk b35 (.cells [.slice jA jr.length jc, .slice (if (bstA fs kiln days).is = true then fA else none) fr.length (if (bstA fs kiln days).is = true then fc else 0)].toArray 29 (0, 0)) :: .row 22 1 jA jr.length jc (jr.reverse.map mcell) :: .row 22 1 fA fr.length fc (fr.reverse.map mcell) :: .blk b4 (.cells [.slice A fs.length c, .int .i64 (kiln : Int), .slice D days.length dc].toArray 27 (0, 0)) :: .row 49 4 A fs.length c (fs.flatMap Flt.cells) :: .row 3 1 D days.length dc (ints days) :: (fr.map mrow ++ jr.map mrow ++ qr.map mrow)) 0 (Nat.zero_le _) sbn (by repeat (first | exact Pck.nil _ | exact Pck.refl _ | exact vP _ _ | (apply Pck.cons; focus ((repeat (first | exact Rem.here _ | apply Rem.there)); done)) | refine Pck.skip _ ?_)) ?_)))))))))))))))))
          intro i hi0
          (try dsimp only at hi0 ⊢)
          refine zD (zD (zB (zF rfl rfl (zL rfl rfl F.fi27_0 F.ti25 ?_))))
          refine zO rfl rfl F.one25 ?_
          refine kE rfl rfl Try.underlying25 ?_
          refine zJ rfl rfl rfl kL ?_
          refine zA (zC (zN rfl (fun hc7 => ?_) (fun hc7 => ?_)))
          · skip
            have hi : i < fs.length := by omega
            obtain ⟨f, hx⟩ : ∃ x, fs[i]? = some x := ⟨_, List.getElem?_eq_getElem hi⟩
            have hgd : fs.getD i default = f := by rw [List.getD_eq_getElem?_getD, hx]; rfl
            obtain ⟨x, hxi⟩ : ∃ x, l[i]? = some x := ⟨_, List.getElem?_eq_getElem om⟩
            have hxg : l.getD i 0 = x := by rw [List.getD_eq_getElem?_getD, hxi]; rfl
            have hx3 := hk3 x (List.mem_of_getElem? hxi)
            have hfo := hc.ff f (List.mem_of_getElem? hx)
            have hgs := zP5 (m := m0) (m1 := m1) hxi
            have hgb0 := zNu (m1 := m1) (l := l) ok0.four i
            have hli := zP4 hxi
            have h0b := ok0.four i
            have h1b := ok1.four i
            have a3 := g3 i om
            have a4 := g4 i om
            have a5 := g5 i om
            have a6 := g6 i om
            have a7 := cap1 i
            rw [hxg] at a3 a4 a5 a6
            rw [hgd] at a5 a6 a7
            have hqai : qa.2.2[i]? = some (m0.s.getD i 0) := by rw [hqal]; exact zN1 hc.f3 ok0.three hi
            have hqbi : qb.2.2[i]? = some (m1.s.getD i 0) := by rw [hqbl]; exact zN1 hc.f3 ok1.three hi
            have hpli : pl.2.2[i]? = some x := by rw [hpll]; exact hxi
            have hf3 := hc.f3
            have hf1 := hc.f1
            obtain ⟨pw, gn, nw, wd⟩ := f
            obtain ⟨hp1, hp4, hgp4, hnp4⟩ := hfo
            dsimp only at a5 a6 a7 hp1 hp4 hgp4 hnp4
            refine zS (zC (zD (zW (zD (kB [] F.follows 24 rfl [false, false, false, false, false, false, false, false, false, false, false, false, false, false, false, false, false, false, false, false, false, false, false, false] rfl ?_)))))
            refine jI 0 rfl rfl rfl kr kr kr (by repeat (first | exact List.Sublist.refl _ | exact List.nil_sublist _ | exact List.sublist_append_left _ _ | refine List.Sublist.cons_cons _ ?_ | refine List.Sublist.cons _ ?_)) (zY rfl) rfl ?_
            refine jI 1 rfl rfl rfl kr kr kr (by repeat (first | exact List.Sublist.refl _ | exact List.nil_sublist _ | exact List.sublist_append_left _ _ | refine List.Sublist.cons_cons _ ?_ | refine List.Sublist.cons _ ?_)) (zY rfl) rfl ?_
            refine jI 2 rfl rfl rfl kr kr kr (by repeat (first | exact List.Sublist.refl _ | exact List.nil_sublist _ | exact List.sublist_append_left _ _ | refine List.Sublist.cons_cons _ ?_ | refine List.Sublist.cons _ ?_)) (qF (j := d) (show _ = some (Value.slice (some ⟨gq, 0, none⟩) qr.length qc) from by rw [<- hgq]; rfl) rfl Try.underlying29 F.ti22 rfl om) rfl ?_
            refine jI 3 rfl rfl rfl kr kr kr (by repeat (first | exact List.Sublist.refl _ | exact List.nil_sublist _ | exact List.sublist_append_left _ _ | refine List.Sublist.cons_cons _ ?_ | refine List.Sublist.cons _ ?_)) (kM (v := .slice qa.1 qa.2.2.length qa.2.1) rfl F.one22 (fun a w ha => vO ha (InR.mem (A := qA)) hgq (by rw [show 0 + d * 1 = d from by omega]; exact zBn hqa))) rfl ?_
            refine jI 4 rfl rfl rfl kr kr kr (by repeat (first | exact List.Sublist.refl _ | exact List.nil_sublist _ | exact List.sublist_append_left _ _ | refine List.Sublist.cons_cons _ ?_ | refine List.Sublist.cons _ ?_)) (zY rfl) rfl ?_
            refine jI 5 rfl rfl rfl kr kr kr (by repeat (first | exact List.Sublist.refl _ | exact List.nil_sublist _ | exact List.sublist_append_left _ _ | refine List.Sublist.cons_cons _ ?_ | refine List.Sublist.cons _ ?_)) (qF (j := i) (show _ = some (Value.slice (some ⟨ga, 0, none⟩) qa.2.2.length qa.2.1) from by rw [<- hga]; rfl) rfl Try.underlying22 F.ti3 rfl om) rfl ?_
            refine jI 6 rfl rfl rfl kr kr kr (by repeat (first | exact List.Sublist.refl _ | exact List.nil_sublist _ | exact List.sublist_append_left _ _ | refine List.Sublist.cons_cons _ ?_ | refine List.Sublist.cons _ ?_)) (kM (v := .int .i64 ((m0.s.getD i 0 : Nat) : Int)) rfl F.one3 (fun a w ha => vO ha (show mrow qa ∈ _ from (by repeat (first | exact List.mem_append_right _ (List.mem_map_of_mem hqam) | apply List.Mem.tail))) hga (by rw [show 0 + i * 1 = i from by omega]; exact zFs hqai))) rfl ?_
            refine jI 7 rfl rfl rfl kr kr kr (by repeat (first | exact List.Sublist.refl _ | exact List.nil_sublist _ | exact List.sublist_append_left _ _ | refine List.Sublist.cons_cons _ ?_ | refine List.Sublist.cons _ ?_)) (zY rfl) rfl ?_
            refine jI 8 rfl rfl rfl kr kr kr (by repeat (first | exact List.Sublist.refl _ | exact List.nil_sublist _ | exact List.sublist_append_left _ _ | refine List.Sublist.cons_cons _ ?_ | refine List.Sublist.cons _ ?_)) (zY rfl) rfl ?_
            refine jI 9 rfl rfl rfl kr kr kr (by repeat (first | exact List.Sublist.refl _ | exact List.nil_sublist _ | exact List.sublist_append_left _ _ | refine List.Sublist.cons_cons _ ?_ | refine List.Sublist.cons _ ?_)) (kZ (v := .int .i64 ((d : Int) + 1)) rfl rfl (fun w => jM w (zT _ om om))) rfl ?_
            refine jI 10 rfl rfl rfl kr kr kr (by repeat (first | exact List.Sublist.refl _ | exact List.nil_sublist _ | exact List.sublist_append_left _ _ | refine List.Sublist.cons_cons _ ?_ | refine List.Sublist.cons _ ?_)) (qF (j := d + 1) (show _ = some (Value.slice (some ⟨gq, 0, none⟩) qr.length qc) from by rw [<- hgq]; rfl) rfl Try.underlying29 F.ti22 rfl om) rfl ?_
            refine jI 11 rfl rfl rfl kr kr kr (by repeat (first | exact List.Sublist.refl _ | exact List.nil_sublist _ | exact List.sublist_append_left _ _ | refine List.Sublist.cons_cons _ ?_ | refine List.Sublist.cons _ ?_)) (kM (v := .slice qb.1 qb.2.2.length qb.2.1) rfl F.one22 (fun a w ha => vO ha (InR.mem (A := qA)) hgq (by rw [show 0 + (d + 1) * 1 = d + 1 from by omega]; exact zBn hqb))) rfl ?_
            refine jI 12 rfl rfl rfl kr kr kr (by repeat (first | exact List.Sublist.refl _ | exact List.nil_sublist _ | exact List.sublist_append_left _ _ | refine List.Sublist.cons_cons _ ?_ | refine List.Sublist.cons _ ?_)) (zY rfl) rfl ?_
            refine jI 13 rfl rfl rfl kr kr kr (by repeat (first | exact List.Sublist.refl _ | exact List.nil_sublist _ | exact List.sublist_append_left _ _ | refine List.Sublist.cons_cons _ ?_ | refine List.Sublist.cons _ ?_)) (qF (j := i) (show _ = some (Value.slice (some ⟨gb, 0, none⟩) qb.2.2.length qb.2.1) from by rw [<- hgb]; rfl) rfl Try.underlying22 F.ti3 rfl om) rfl ?_
            refine jI 14 rfl rfl rfl kr kr kr (by repeat (first | exact List.Sublist.refl _ | exact List.nil_sublist _ | exact List.sublist_append_left _ _ | refine List.Sublist.cons_cons _ ?_ | refine List.Sublist.cons _ ?_)) (kM (v := .int .i64 ((m1.s.getD i 0 : Nat) : Int)) rfl F.one3 (fun a w ha => vO ha (show mrow qb ∈ _ from (by repeat (first | exact List.mem_append_right _ (List.mem_map_of_mem hqbm) | apply List.Mem.tail))) hgb (by rw [show 0 + i * 1 = i from by omega]; exact zFs hqbi))) rfl ?_
            refine jI 15 rfl rfl rfl kr kr kr (by repeat (first | exact List.Sublist.refl _ | exact List.nil_sublist _ | exact List.sublist_append_left _ _ | refine List.Sublist.cons_cons _ ?_ | refine List.Sublist.cons _ ?_)) (zV rfl F.fi27_0 F.ti25) rfl ?_
            refine jI 16 rfl rfl rfl kr kr kr (by repeat (first | exact List.Sublist.refl _ | exact List.nil_sublist _ | exact List.sublist_append_left _ _ | refine List.Sublist.cons_cons _ ?_ | refine List.Sublist.cons _ ?_)) (jU rfl F.one25) rfl ?_
            refine jI 17 rfl rfl rfl kr kr kr (by repeat (first | exact List.Sublist.refl _ | exact List.nil_sublist _ | exact List.sublist_append_left _ _ | refine List.Sublist.cons_cons _ ?_ | refine List.Sublist.cons _ ?_)) (zY rfl) rfl ?_
            refine jI 18 rfl rfl rfl kr kr kr (by repeat (first | exact List.Sublist.refl _ | exact List.nil_sublist _ | exact List.sublist_append_left _ _ | refine List.Sublist.cons_cons _ ?_ | refine List.Sublist.cons _ ?_)) (qF (j := i) (show _ = some (Value.slice (some ⟨gA, 0, none⟩) fs.length c) from by rw [<- hgA]; rfl) rfl Try.underlying25 F.ti49 rfl hi) rfl ?_
            refine jI 19 rfl rfl rfl kr kr kr (by repeat (first | exact List.Sublist.refl _ | exact List.nil_sublist _ | exact List.sublist_append_left _ _ | refine List.Sublist.cons_cons _ ?_ | refine List.Sublist.cons _ ?_)) (zCg (l := [.int .i64 (pw : Int), .int .i64 (gn : Int), .int .i64 (nw : Int), .bool wd]) rfl F.agg49 F.ti49 rfl (fun a w ha j u hu => by
              obtain ⟨b9, o9, h1, _, h3⟩ := zD7 (A := A) (l := fs) ha rfl om
              rw [hgA] at h1
              cases h1
              exact h3 i _ hx j u hu)) rfl ?_
            refine an1 20 rfl ?_
            refine zU rfl F.ti49 ?_
            intro b20
            refine zA (zAt (by repeat (first | exact List.Sublist.refl _ | exact List.nil_sublist _ | exact List.sublist_append_left _ _ | refine List.Sublist.cons_cons _ ?_ | refine List.Sublist.cons _ ?_)) ?_)
            refine jI 21 rfl rfl rfl kr kr kr (by repeat (first | exact List.Sublist.refl _ | exact List.nil_sublist _ | exact List.sublist_append_left _ _ | refine List.Sublist.cons_cons _ ?_ | refine List.Sublist.cons _ ?_)) (kR rfl) rfl ?_
            refine jI 22 rfl rfl rfl kr kr kr (by repeat (first | exact List.Sublist.refl _ | exact List.nil_sublist _ | exact List.sublist_append_left _ _ | refine List.Sublist.cons_cons _ ?_ | refine List.Sublist.cons _ ?_)) (kR rfl) rfl ?_
            refine an1 23 rfl ?_
            refine zI rfl rfl F.ti49 rfl ?_
            refine zA (zAt (by repeat (first | exact List.Sublist.refl _ | exact List.nil_sublist _ | exact List.sublist_append_left _ _ | refine List.Sublist.cons_cons _ ?_ | refine List.Sublist.cons _ ?_)) ?_)
            refine adn (zC (zD (zD (kB [] F.follows 22 rfl [false, false, false, false, false, false, false, false, false, false, false, false, false, false, false, false, false, false, false, false, false, false] rfl ?_))))
            refine jI 0 rfl rfl rfl kr kr kr (by repeat (first | exact List.Sublist.refl _ | exact List.nil_sublist _ | exact List.sublist_append_left _ _ | refine List.Sublist.cons_cons _ ?_ | refine List.Sublist.cons _ ?_)) (zY rfl) rfl ?_
            refine jI 1 rfl rfl rfl kr kr kr (by repeat (first | exact List.Sublist.refl _ | exact List.nil_sublist _ | exact List.sublist_append_left _ _ | refine List.Sublist.cons_cons _ ?_ | refine List.Sublist.cons _ ?_)) (kZ (v := .bool false) rfl rfl (fun w => by rw [kL, decide_eq_false om])) rfl ?_
            refine jI 2 rfl rfl rfl kr kr kr (by repeat (first | exact List.Sublist.refl _ | exact List.nil_sublist _ | exact List.sublist_append_left _ _ | refine List.Sublist.cons_cons _ ?_ | refine List.Sublist.cons _ ?_)) (zY rfl) rfl ?_
            refine jR 3 rfl rfl rfl rfl rfl kr kr kr (by repeat (first | exact List.Sublist.refl _ | exact List.nil_sublist _ | exact List.sublist_append_left _ _ | refine List.Sublist.cons_cons _ ?_ | refine List.Sublist.cons _ ?_)) (zY rfl) rfl ?_
            refine jR 4 rfl rfl rfl rfl rfl kr kr kr (by repeat (first | exact List.Sublist.refl _ | exact List.nil_sublist _ | exact List.sublist_append_left _ _ | refine List.Sublist.cons_cons _ ?_ | refine List.Sublist.cons _ ?_)) (zV rfl F.fi49_0 F.ti3) rfl ?_
            refine jR 5 rfl rfl rfl rfl rfl kr kr kr (by repeat (first | exact List.Sublist.refl _ | exact List.nil_sublist _ | exact List.sublist_append_left _ _ | refine List.Sublist.cons_cons _ ?_ | refine List.Sublist.cons _ ?_)) (jU rfl F.one3) rfl ?_
            refine jR 6 rfl rfl rfl rfl rfl kr kr kr (by repeat (first | exact List.Sublist.refl _ | exact List.nil_sublist _ | exact List.sublist_append_left _ _ | refine List.Sublist.cons_cons _ ?_ | refine List.Sublist.cons _ ?_)) (kZ (v := .bool false) rfl rfl (fun w => by rw [zAw, decide_eq_false om])) rfl ?_
            refine jI 7 rfl rfl rfl kr kr kr (by repeat (first | exact List.Sublist.refl _ | exact List.nil_sublist _ | exact List.sublist_append_left _ _ | refine List.Sublist.cons_cons _ ?_ | refine List.Sublist.cons _ ?_)) (wN rfl rfl) rfl ?_
            refine jI 8 rfl rfl rfl kr kr kr (by repeat (first | exact List.Sublist.refl _ | exact List.nil_sublist _ | exact List.sublist_append_left _ _ | refine List.Sublist.cons_cons _ ?_ | refine List.Sublist.cons _ ?_)) (zY rfl) rfl ?_
            refine jR 9 rfl rfl rfl rfl rfl kr kr kr (by repeat (first | exact List.Sublist.refl _ | exact List.nil_sublist _ | exact List.sublist_append_left _ _ | refine List.Sublist.cons_cons _ ?_ | refine List.Sublist.cons _ ?_)) (zY rfl) rfl ?_
            refine jR 10 rfl rfl rfl rfl rfl kr kr kr (by repeat (first | exact List.Sublist.refl _ | exact List.nil_sublist _ | exact List.sublist_append_left _ _ | refine List.Sublist.cons_cons _ ?_ | refine List.Sublist.cons _ ?_)) (zY rfl) rfl ?_
            refine jR 11 rfl rfl rfl rfl rfl kr kr kr (by repeat (first | exact List.Sublist.refl _ | exact List.nil_sublist _ | exact List.sublist_append_left _ _ | refine List.Sublist.cons_cons _ ?_ | refine List.Sublist.cons _ ?_)) (qF (j := k) rfl rfl Try.underlying33 F.ti29 rfl hk) rfl ?_
            refine jR 12 rfl rfl rfl rfl rfl kr kr kr (by repeat (first | exact List.Sublist.refl _ | exact List.nil_sublist _ | exact List.sublist_append_left _ _ | refine List.Sublist.cons_cons _ ?_ | refine List.Sublist.cons _ ?_)) (kM (v := .slice pA pm.length pc) rfl F.one29 (fun a w ha => kP (ha.mem_blk (InB.mem (b := b35))) (by rw [show 0 + k * 1 = k from by omega]; simpa using hcell))) rfl ?_
            refine jR 13 rfl rfl rfl rfl rfl kr kr kr (by repeat (first | exact List.Sublist.refl _ | exact List.nil_sublist _ | exact List.sublist_append_left _ _ | refine List.Sublist.cons_cons _ ?_ | refine List.Sublist.cons _ ?_)) (zY rfl) rfl ?_
            refine jR 14 rfl rfl rfl rfl rfl kr kr kr (by repeat (first | exact List.Sublist.refl _ | exact List.nil_sublist _ | exact List.sublist_append_left _ _ | refine List.Sublist.cons_cons _ ?_ | refine List.Sublist.cons _ ?_)) (qF (j := d) (show _ = some (Value.slice (some ⟨gp, 0, none⟩) pm.length pc) from by rw [<- hgp]; rfl) rfl Try.underlying29 F.ti22 rfl om) rfl ?_
            refine jR 15 rfl rfl rfl rfl rfl kr kr kr (by repeat (first | exact List.Sublist.refl _ | exact List.nil_sublist _ | exact List.sublist_append_left _ _ | refine List.Sublist.cons_cons _ ?_ | refine List.Sublist.cons _ ?_)) (kM (v := .slice pl.1 pl.2.2.length pl.2.1) rfl F.one22 (fun a w ha => vO ha (show Res.row 22 1 pA pm.length pc (pm.reverse.map mcell) ∈ _ from (by rcases hpm with h | h | h <;> cases h <;> (repeat (first | exact List.Mem.head _ | apply List.Mem.tail)))) hgp (by rw [show 0 + d * 1 = d from by omega]; exact zBn hpl0))) rfl ?_
            refine jR 16 rfl rfl rfl rfl rfl kr kr kr (by repeat (first | exact List.Sublist.refl _ | exact List.nil_sublist _ | exact List.sublist_append_left _ _ | refine List.Sublist.cons_cons _ ?_ | refine List.Sublist.cons _ ?_)) (vB rfl Try.underlying22) rfl ?_
            refine jR 17 rfl rfl rfl rfl rfl kr kr kr (by repeat (first | exact List.Sublist.refl _ | exact List.nil_sublist _ | exact List.sublist_append_left _ _ | refine List.Sublist.cons_cons _ ?_ | refine List.Sublist.cons _ ?_)) (zV rfl F.fi27_0 F.ti25) rfl ?_
            refine jR 18 rfl rfl rfl rfl rfl kr kr kr (by repeat (first | exact List.Sublist.refl _ | exact List.nil_sublist _ | exact List.sublist_append_left _ _ | refine List.Sublist.cons_cons _ ?_ | refine List.Sublist.cons _ ?_)) (jU rfl F.one25) rfl ?_
            refine jR 19 rfl rfl rfl rfl rfl kr kr kr (by repeat (first | exact List.Sublist.refl _ | exact List.nil_sublist _ | exact List.sublist_append_left _ _ | refine List.Sublist.cons_cons _ ?_ | refine List.Sublist.cons _ ?_)) (vB rfl Try.underlying25) rfl ?_
            refine jR 20 rfl rfl rfl rfl rfl kr kr kr (by repeat (first | exact List.Sublist.refl _ | exact List.nil_sublist _ | exact List.sublist_append_left _ _ | refine List.Sublist.cons_cons _ ?_ | refine List.Sublist.cons _ ?_)) (kZ (v := .bool false) rfl rfl (fun w => by rw [qM, decide_eq_false om])) rfl ?_
            refine jI 21 rfl rfl rfl kr kr kr (by repeat (first | exact List.Sublist.refl _ | exact List.nil_sublist _ | exact List.sublist_append_left _ _ | refine List.Sublist.cons_cons _ ?_ | refine List.Sublist.cons _ ?_)) (wN rfl rfl) rfl ?_
            refine adn (zC (kF rfl (zS (zC (zD (zB (zF rfl rfl (zF rfl rfl (qW (j := k) rfl rfl rfl Try.underlying33 F.ti29 rfl hk ?_)))))))))
            refine kU (v := .slice pA pm.length pc) rfl rfl F.one29 (fun a w ha => kP (ha.mem_blk (InB.mem (b := b35))) (by rw [show 0 + k * 1 = k from by omega]; simpa using hcell)) ?_
            refine zF rfl rfl (qW (j := d) rfl (show _ = some (Value.slice (some ⟨gp, 0, none⟩) pm.length pc) from by rw [<- hgp]; rfl) rfl Try.underlying29 F.ti22 rfl om ?_)
            refine kU (v := .slice pl.1 pl.2.2.length pl.2.1) rfl rfl F.one22 (fun a w ha => vO ha (show Res.row 22 1 pA pm.length pc (pm.reverse.map mcell) ∈ _ from (by rcases hpm with h | h | h <;> cases h <;> (repeat (first | exact List.Mem.head _ | apply List.Mem.tail)))) hgp (by rw [show 0 + d * 1 = d from by omega]; exact zBn hpl0)) ?_
            refine zF rfl rfl (qW (j := i) rfl (show _ = some (Value.slice (some ⟨gl, 0, none⟩) pl.2.2.length pl.2.1) from by rw [<- hgl]; rfl) rfl Try.underlying22 F.ti3 rfl om ?_)
            refine kU (v := .int .i64 (x : Int)) rfl rfl F.one3 (fun a w ha => vO ha (show mrow pl ∈ _ from (by rcases hpm with h | h | h <;> cases h <;> (repeat (first | exact List.mem_append_left _ (List.mem_append_right _ (List.mem_map_of_mem hplm)) | exact List.mem_append_left _ (List.mem_append_left _ (List.mem_map_of_mem hplm)) | exact absurd hplm (List.not_mem_nil) | apply List.Mem.tail)))) hgl (by rw [show 0 + i * 1 = i from by omega]; exact zFs hpli)) ?_
            refine zA (zC (zW (zD (zB (zJ rfl rfl rfl kI ?_)))))
            refine zE rfl rfl (zA (zC (zN rfl (fun hc9 => ?_) (fun hc9 => ?_))))
            · skip
              obtain rfl : x = 0 := by omega
              rw [if_pos rfl] at hgs
              rw [if_neg (by decide)] at hli
              have a3 : m1.s.getD i 0 <= m0.s.getD i 0 := a3.resolve_right (fun h => h rfl)
              refine zB (zF rfl rfl (zF rfl rfl (zJ rfl rfl rfl (fun w => jM w (zT _ om om)) ?_)))
              refine zF rfl rfl (zJ (v := .int .i64 ((gone m0 m1 l (i + 1) : Nat) : Int)) rfl rfl rfl (fun w => xC w (by rw [zT _ om om]; omega)) ?_)
              refine zE rfl rfl (zA (zM (zM (zC (zB (zF rfl rfl (zJ rfl rfl rfl (fun w => jM w (zT _ om om)) ?_)))))))
              refine zE rfl rfl (zA (qO (i + 1) om tdo (by (try dsimp only); rw [hli]; repeat (first | exact Sub.nil _ | refine Sub.cons rfl ?_)) (by repeat (first | exact Pck.nil _ | exact Pck.refl _ | exact vP _ _ | (apply Pck.cons; focus ((repeat (first | exact Rem.here _ | apply Rem.there)); done)) | refine Pck.skip _ ?_))))
            · skip
              rw [if_neg om] at hgs
              refine zD (zB (zJ rfl rfl rfl kI ?_))
              refine zE rfl rfl (zA (zC (zN rfl (fun hc10 => ?_) (fun hc10 => ?_))))
              · skip
                obtain rfl : x = 1 := by omega
                rw [if_neg (by decide)] at hli
                have a4 := a4 rfl
                refine zB (zF rfl rfl (zF rfl rfl (zF rfl rfl (zJ (v := .int .i64 0) rfl rfl rfl (fun w => xC w (by refine (congrArg IntKind.i64.wrap (?_ : _ = (0 : Int))).trans rfl; omega)) ?_))))
                refine zJ (v := .int .i64 0) rfl rfl rfl (fun w => zCc w rfl) ?_
                refine zJ (v := .int .i64 ((gone m0 m1 l (i + 1) : Nat) : Int)) rfl rfl rfl (fun w => jM w (by rw [zT _ om om]; omega)) ?_
                refine zE rfl rfl (zA (zM (zM (zC (zB (zF rfl rfl (zJ rfl rfl rfl (fun w => jM w (zT _ om om)) ?_)))))))
                refine zE rfl rfl (zA (qO (i + 1) om tdo (by (try dsimp only); rw [hli]; repeat (first | exact Sub.nil _ | refine Sub.cons rfl ?_)) (by repeat (first | exact Pck.nil _ | exact Pck.refl _ | exact vP _ _ | (apply Pck.cons; focus ((repeat (first | exact Rem.here _ | apply Rem.there)); done)) | refine Pck.skip _ ?_))))
              · skip
                refine zD (zB (zJ rfl rfl rfl kI ?_))
                refine zE rfl rfl (zA (zC (zN rfl (fun hc11 => ?_) (fun hc11 => ?_))))
                · skip
                  obtain rfl : x = 2 := by omega
                  rw [if_neg (by decide)] at hli
                  have a5 := a5 rfl
                  refine zB (zF rfl rfl (zF rfl rfl (zL rfl rfl F.fi49_0 F.ti3 ?_)))
                  refine zO rfl rfl F.one3 ?_
                  refine zF rfl rfl (zL rfl rfl F.fi49_1 F.ti3 ?_)
                  refine zO rfl rfl F.one3 ?_
                  refine zJ rfl rfl rfl (fun w => jM w (zT _ om om)) ?_
                  refine zIk rfl rfl rfl ?_
                  refine zJ (v := .int .i64 0) rfl rfl rfl (fun w => xC w (by refine (congrArg IntKind.i64.wrap (?_ : _ = (0 : Int))).trans rfl; rw [a5]; split <;> omega)) ?_
                  refine zJ (v := .int .i64 0) rfl rfl rfl (fun w => zCc w rfl) ?_
                  refine zJ (v := .int .i64 ((gone m0 m1 l (i + 1) : Nat) : Int)) rfl rfl rfl (fun w => jM w (by rw [zT _ om om]; omega)) ?_
                  refine zE rfl rfl (zA (zM (zM (zC (zB (zF rfl rfl (zJ rfl rfl rfl (fun w => jM w (zT _ om om)) ?_)))))))
                  refine zE rfl rfl (zA (qO (i + 1) om tdo (by (try dsimp only); rw [hli]; repeat (first | exact Sub.nil _ | refine Sub.cons rfl ?_)) (by repeat (first | exact Pck.nil _ | exact Pck.refl _ | exact vP _ _ | (apply Pck.cons; focus ((repeat (first | exact Rem.here _ | apply Rem.there)); done)) | refine Pck.skip _ ?_))))
                · skip
                  obtain rfl : x = 3 := by omega
                  rw [if_pos rfl] at hli
                  have a6 := a6 rfl
                  refine zD (zB (zF rfl rfl (zF rfl rfl (zL rfl rfl F.fi49_0 F.ti3 ?_))))
                  refine zO rfl rfl F.one3 ?_
                  refine zJ (v := .int .i64 0) rfl rfl rfl (fun w => xC w (by refine (congrArg IntKind.i64.wrap (?_ : _ = (0 : Int))).trans rfl; omega)) ?_
                  refine zJ (v := .int .i64 0) rfl rfl rfl (fun w => zCc w rfl) ?_
                  refine zJ (v := .int .i64 ((gone m0 m1 l (i + 1) : Nat) : Int)) rfl rfl rfl (fun w => jM w (by rw [zT _ om om]; omega)) ?_
                  refine zE rfl rfl (zA (zC (zB (zE rfl rfl (zA (zM (zM (zC (zB (zF rfl rfl (zJ rfl rfl rfl (fun w => jM w (zT _ om om)) ?_)))))))))))
                  refine zE rfl rfl (zA (qO (i + 1) om tdo (by (try dsimp only); rw [hli]; repeat (first | exact Sub.nil _ | refine Sub.cons rfl ?_)) (by repeat (first | exact Pck.nil _ | exact Pck.refl _ | exact vP _ _ | (apply Pck.cons; focus ((repeat (first | exact Rem.here _ | apply Rem.there)); done)) | refine Pck.skip _ ?_))))
          · skip
            obtain rfl : i = fs.length := by omega
            rw [zTw om, <- hll, g7, hll]
            have hdv12 := hc.dd dv (List.mem_of_getElem? hdv)
            refine jZ (zQ (zQ (jJ (zC (zD (zD (zB (zF rfl rfl (zL rfl rfl F.fi27_2 F.ti22 ?_)))))))))
            refine zO rfl rfl F.one22 ?_
            refine zF rfl rfl (zKl (A := D) (j := d) rfl rfl rfl Try.underlying22 F.ti3 rfl hd rfl rfl ?_)
            intro gD hgD
            refine zK6 (A := D) (v := .int .i64 (dv : Int)) rfl rfl F.one3 hgD (by rw [Nat.mul_one]; exact zFs hdv) ?_
            refine zJ (v := .bool false) rfl rfl rfl (fun w => by rw [qM, decide_eq_false om]) ?_
            refine zA (zC (kF rfl (zS (zC (zB (zF rfl rfl (zF rfl rfl (zJ (v := .int .i64 ((((P.drop (d + 1)).map spF).sum : Nat) : Int)) rfl rfl rfl (fun w => xC w (by rw [zT _ om om]; omega)) ?_))))))))
            refine zE rfl rfl (zA (zM (zC (zB (zF rfl rfl (zJ rfl rfl rfl (fun w => jM w (zT _ om om)) ?_))))))
            refine zE rfl rfl (zA (qO (d + 1) om tdo sbn (by repeat (first | exact Pck.nil _ | exact Pck.refl _ | exact vP _ _ | (apply Pck.cons; focus ((repeat (first | exact Rem.here _ | apply Rem.there)); done)) | refine Pck.skip _ ?_))))
        · skip
          obtain rfl : d = days.length := by omega
          rw [List.drop_of_length_le om]
          refine jZ (zQ (zQ (jJ (zC (zD (zB (zF rfl rfl (zJ (v := .bool false) rfl rfl rfl (fun w => by rw [qM]; rfl) ?_))))))))
          refine zA (zC (kF rfl (zS (zM (zC (zB (zF rfl rfl (zJ rfl rfl rfl (fun w => jM w (zT _ om om)) ?_))))))))
          refine zE rfl rfl (zA (qO (k + 1) om tdo sbn (by repeat (first | exact Pck.nil _ | exact Pck.refl _ | exact vP _ _ | (apply Pck.cons; focus ((repeat (first | exact Rem.here _ | apply Rem.there)); done)) | refine Pck.skip _ ?_))))
  · skip
    refine jZ (zQ (zQ (jJ (zC (zD (zB (jO (v := .bool true) (vs := []) rfl rfl F.ent20 (fun a w ha => zRs w (hR.later ha.below)) ?_)))))))
    refine zE rfl rfl (zA (zC (zZ ?_)))
    exact jH rfl (fun a w ha => jP rfl rfl ha) (fun a w ha => ⟨rfl, ha.grown nsl⟩)

end Go.Proofs.Yteppiphdbondeaa.N
namespace Go.Proofs.Yteppiphdbondeaa.N
open Go Go.RowKit Go.Conc
set_option linter.unusedSectionVars false

def seenZ (W : World) : World := { seenW W with output := gout [0] }
theorem zQl (W : World) : Hid (Viewed W) (fun _ => False) W (seenZ W) := by
 have h := zRr W
 exact ⟨h.1, h.2, h.3, h.4, h.5, h.6, h.7, h.8, h.9, h.10⟩
theorem zP0 {W : World} {p : Addr} {u : Value} (h : W.cell? p = some u) : (seenZ W).cell? p = some u := zO4 h
section
variable {P : Program} {W : World} {f : FuncId} {args : Array Value} {Post : Value -> World -> Prop}
theorem zMt {F : Nat -> Prop} {w w' v' : World} (hk : Kept F (fun _ => False) w w') (hv : Hid F (fun _ => False) w' v') (hb : Bas W (Viewed W) (fun i => i = 0) (fun _ => F) w) (hv0 : Below (seenZ W).heap.size (seenZ W) v') : Below W.heap.size W w' := by
 refine ⟨hk.os.trans hb.os, hk.tape.trans hb.tape, hk.output.trans hb.output, Nat.le_trans hb.size hk.size, fun b hlt => ?_⟩
 by_cases hF : F b
 ·rw [hk.block b (Nat.lt_of_lt_of_le hlt hb.size) (.inl hF)]
  exact (hb.held b (hb.new b hlt hF)).2.1
 ·rw [<- hv.same b hF (fun x => x), hv0.block b (by simpa [seenZ, seenW] using hlt)]
  show (seenW W).heap[b]? = _
  rw [zAo]
  cases h : W.heap[b]? with
  | none => rfl
  | some o =>
   cases o with
   | view p t => exact absurd ((hb.held b ⟨p, t, h⟩).2.2 0 rfl) hF
   | _ => rfl
def sig0 : Cst := ⟨0, 0, 0, [], 0, false, false, false, 0, 0, .rest, [], [], fun _ => none, []⟩
theorem zOq : sig0.blank := ⟨fun _ => rfl, rfl, rfl, rfl, rfl, rfl, rfl, rfl, rfl⟩
theorem zU4 (low : Nat) : Cok low sig0 := by
 refine ⟨List.nodup_nil, rfl, fun j => ?_, fun j p h => (by cases h), fun b hb => (by cases hb), fun h => (by cases h), fun h => (by cases h), fun h => (by cases h), by decide, rfl, .nil, zOq⟩
 constructor
 ·intro h; cases h
 ·rintro ⟨p, h⟩; cases h
theorem zVb {low : Nat} {tW : TypeId} {msg : Nat -> Value} {σ : Cst} (hok : Cok low σ) (h : σ.gh 0 = some [0]) : Alone (Cp low tW msg) σ ∧ σ.lent = [] ∧ ∀ c, ¬ (Cst.ts σ).Ca c := by
 rw [zAd] at h
 have hp := hok.phase
 cases hm : σ.mn <;> rw [hm] at h <;> simp [Mn.enc] at h
 unfold Cst.phase at hp
 rw [hm] at hp
 obtain ⟨h1, h2, h3, h4, h5, h6, h7, h8, h9⟩ := hp
 refine ⟨?_, h9, fun c hc => ?_⟩
 ·refine ⟨fun j hj => zAb hj h1, ?_⟩
  show (Cst.ts σ).D 0 = 0
  simp [Cst.ts, hm, Mn.deaf]
 ·rcases hc with ⟨h, _⟩ | ⟨h, _⟩ <;> omega
theorem zIg {low : Nat} {tW : TypeId} {msg : Nat -> Value} (hK : low = W.heap.size) (noInit : P.inits.idxOf? f = none)
  (h : @Calls P (zSys P (Cp low tW msg)) f args (seenZ W) fun e v' => ∃ x, e = .returned x ∧ Below (seenZ W).heap.size (seenZ W) v' ∧ ∀ W', Below W.heap.size W W' -> Post x W') :
  ∃ N last o w' t', runNT P (N + 1) (solo (G (Frame.enter P f args .normal) []) W) #[] = (.ended o w', t') ∧ runN P N (solo (G (Frame.enter P f args .normal) []) W) = .next last ∧ step P last = .ended o w' ∧ Go.Conc.Good P Post last o w' t' := by
 refine zXv (K := Cp low tW msg) (σ := sig0) (γ := [0]) zUu hK (zQl W) rfl (zU4 low) rfl (fun j hj => zAc hj rfl) (fun b hb => (by cases hb)) rfl rfl (@Gs.mono P (zSys P (Cp low tW msg)) _ _ _ _ (h []) fun g v' hs => ?_)
 obtain ⟨e, fr, v₀, ⟨x, rfl, hb, hp⟩, hr, rfl, hfn, hm, hd, hkd, fn, hf, ht, hres⟩ := hs
 have hb' : Below (seenZ W).heap.size (seenZ W) v' := hb.trans (hr.mono hb.size)
 refine ⟨rfl, ⟨[0], hb'.output, fun σ hok hg => zVb hok hg⟩, fun F w hv hbas => ?_⟩
 obtain ⟨w', h1, h2, h3, h4, h5⟩ := ht.ok (hres v' (Rl.refl v')) hv
 have hno : P.inits.idxOf? fr.fn = none := by rw [hfn]; exact noInit
 refine ⟨x, w', seen P fr.fn ((results fn fr.tmps).events P v' #[]), ?_, ?_, hp w' (zMt h4 h3 hbas hb')⟩
 ·rw [<- h2]
  simp [G, stepG, unwind, doReturn, hm, hd, hkd, hf, h1, hno, GStep.after]
 ·rw [<- hv.size]
  exact fun e he => h5 e (Go.Conc.mem_seen he)
end
theorem zAm {H : Type} {enc : TypeId × Value -> H} {a : Assume} {C : Checked} {os : Os} {f : FuncId} {fn : Func} {s : ChangeSpec} {conds : List PathCond} {apart fresh handsOn again : Bool} (tW : TypeId) (msg : Nat -> Value)
  (own : ownKnob C.prog.godebug = none) (started : os.Started) (noInit : C.prog.inits.idxOf? f = none) (hfn : C.prog.funcs[f]? = some fn)
  (witness : ∃ (w : World) (tape : Tape) (i : Input), w.os = os ∧ (w.forCall tape i).Shaped C.prog ∧ i.vars = [] ∧ Input.okWide C.prog (w.forCall tape i) .any w.heap.size f i ∧
   s.pre6 enc C.prog fn conds apart (w.forCall tape i).memory i.args ∧ a.holds C.prog (lone (Frame.enter C.prog f i.args .normal) [] (w.forCall tape i)))
  (contract : ∀ (W : World) (base : Nat) (args : Array Value) (ds gs : List (DataW H)) (before : List MemPlace),
   (∀ (j : Nat) t v, fn.params[j]? = some t -> args[j]? = some v -> Value.okWide C.prog W .any base t v) ->
   DataW.Whole enc C.prog fn.params.toList s.vars apart W args.toList ds gs before ->
   conds.all (PathCond.test C.prog ⟨fn.params.toList, ds, s.plain.varTypes C.prog, gs⟩) = true ->
   (DataW.weightsEach C.prog (fn.params.toList ++ s.plain.varTypes C.prog) (ds ++ gs)).all (· <= reachBytes) = true ->
   a.holds C.prog (lone (Frame.enter C.prog f args .normal) [] W) ->
   @Calls C.prog (zSys C.prog (Cp W.heap.size tW msg)) f args (seenZ W) fun e v' => ∃ x, e = .returned x ∧ Below (seenZ W).heap.size (seenZ W) v' ∧ ∀ W', Below W.heap.size W W' -> s.post enc C.prog fn apart fresh handsOn again W args x W') :
  ReturnsInLeavingWide a C os f .any (s.pre6 enc C.prog fn conds apart) (s.post enc C.prog fn apart fresh handsOn again) := by
 refine returnsInLeavingWide_of_good own started witness ?_
 intro w tape i _ _ _ hok hpre hholds
 obtain ⟨_, _, _, fn', hfn', _, _, _, _, hval⟩ := hok
 have e : fn' = fn := Option.some.inj (hfn'.symm.trans hfn)
 subst e
 obtain ⟨⟨ds, gs, before, hw, hc⟩, hz⟩ := hpre
 have hw' := DataW.Whole.of_heap (w' := w.forCall tape i) (by rfl) hw
 have hcalls := contract (w.forCall tape i) w.heap.size i.args ds gs before hval hw' hc (hz.weights hw) hholds
 obtain ⟨M, last, o, w', t', h1, h2, h3, h4⟩ := zIg rfl noInit hcalls
 exact ⟨M, last, o, w', t', h1, h2, h3, h4.mono fun v hp => ChangeSpec.post_blind hp⟩
end Go.Proofs.Yteppiphdbondeaa.N
