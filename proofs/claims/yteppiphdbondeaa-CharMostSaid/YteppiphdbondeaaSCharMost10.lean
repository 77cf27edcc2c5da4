/- Parts of the walk of the law CharMost: T28, Sx7, ChA, ChG, T29, T30, ChU, ChY, T31, T32, T33, ChAA, T34, ChD, ChAB, T35, ChRow. -/
import Derived.Test.YteppiphdbondeaaSCharMost09
import Derived.Test.YteppiphdbondeaaProg
import Derived.Test.YteppiphdbondeaaSCharMost05
import Derived.DeepKeys3
import Derived.Test.YteppiphdbondeaaSCharMost08
import Derived.Test.YteppiphdbondeaaSCharMost03
namespace Go.Proofs.Yteppiphdbondeaa.N
open Go Go.RowKit Go.Proofs
set_option linter.unusedSectionVars false
variable [I : Sys]
theorem F.ent14 : Enters Try.prog 14 := jC Try.func14 rfl (by kernel_rfl)
theorem F.ent27 : Enters Try.prog 27 := jC Try.func27 rfl (by kernel_rfl)
theorem zP3 {C : Ctx} {fr : List (Nat × Value)} {T : List Res} {a : Act} {w : World} (hC : C.P = Try.prog) {hb tk st nc : Nat} {nA : Option Addr} {nums : List Int} (hB : C.w0.heap.size = C.B) (hN : RdL icell 1 C.w0 nA nums) (htk : tk <= 900000) (hst : st < 18446744073709551616) (ha : At C fr (.blk hb (hatO nA nums.length nc (tk) (st)) :: T) a w) : Calls C.P 27 #[.pointer (some ⟨hb, 0, none⟩)] w fun e w' => ∃ (tk' st' : Nat) (f : Flt), tk' <= tk + 10 ∧ st' < 18446744073709551616 ∧ FltOk f ∧ e = .returned (.agg [.int .i64 (f.power : Int), .int .i64 (f.gain : Int), .int .i64 (f.now : Int), .bool f.washed].toArray) ∧ At C fr (.blk hb (hatO nA nums.length nc (tk') (st')) :: T) a w' := by
 obtain ⟨P, B, w0, N0, ds⟩ := C
 obtain rfl : P = Try.prog := hC
 (try dsimp only at hB)
 (try dsimp only at hN)
 refine vP (N := 30) [(0, .pointer (some ⟨hb, 0, none⟩))] ha Try.func27 rfl Try.ntmps27 rfl rfl ?_
 refine zD (zB (zV rfl F.ti49 ?_))
 intro b2
 refine zA (zC (zD (zB (zF rfl rfl (kH (vs := [(0, _), (1, _), (2, _), (3, _), (4, _), (5, _)]) rfl rfl Try.underlying22 F.ti3 rfl rfl rfl ?_)))))
 intro b5
 refine vL [1, 2, 2, 3, 3, 4] rfl rfl rfl hB hN hst om (by simp) (by simp) (InB.mem (b := b5)) ?_
 rintro s1 pw hs1 hpw
 simp only [List.mem_cons, List.not_mem_nil, or_false] at hpw
 refine jU (vs := [(0, _)]) (l' := [_, _, _, _]) rfl rfl F.ti49 F.pl49 (.cons rfl rfl (.nil _)) rfl ?_
 refine zV rfl F.ti49 ?_
 intro b3
 refine zI rfl rfl F.ti49 rfl ?_
 refine zA (zC (zD (xH (G := Nat × Nat) (fun g => g.1 < 18446744073709551616 ∧ g.2 <= pw) (fun g => [(0, .pointer (some ⟨hb, 0, none⟩)), (2, .pointer (some ⟨b2, 0, none⟩)), (3, .pointer (some ⟨b3, 0, none⟩))]) (fun g => .blk hb (hatO nA nums.length nc (tk + 1 + 1 + 1) (g.1)) :: .blk b3 (.cells [.int .i64 (pw : Int), .int .i64 (g.2 : Int), .int .i64 (pw : Int), .bool false].toArray 49 (0, 0)) :: .blk b2 (.cells [.int .i64 0, .int .i64 0, .int .i64 0, .bool false].toArray 49 (0, 0)) :: T) ?_ ?_)))
 ·refine kF [.b b3, .b hb] F.follows 13 rfl [false, false, false, false, false, false, false, false, false, false, false, false, false] rfl ?_
  refine zG 0 rfl rfl rfl (jI rfl) ?_
  refine zG 1 rfl rfl rfl (jI rfl) ?_
  refine zG 2 rfl rfl rfl (zY rfl F.fi49_0 F.ti3) ?_
  refine zG 7 rfl rfl rfl (zY rfl F.fi49_0 F.ti3) ?_
  refine qG 3 8 kr rfl rfl rfl rfl ?_ ?_
  ·refine zQ rfl rfl F.one3 ?_
   refine zA (anb (qG 4 8 kr rfl rfl rfl rfl ?_ ?_))
   ·refine vV rfl rfl rfl hB hN hs1 om om ?_
    rintro s2 g1 hs2 hg1
    refine zA (anb (qG 5 8 kr rfl rfl rfl rfl ?_ ?_))
    ·refine kH (vs := [(0, _), (1, _), (2, _), (3, _)]) rfl rfl Try.underlying22 F.ti3 rfl rfl rfl ?_
     intro b13
     refine zA (anb (qG 6 8 kr rfl rfl rfl rfl ?_ ?_))
     ·refine vL [0, 1, 1, g1] rfl rfl rfl hB hN hs2 om (by simp) (by simp) (InB.mem (b := b13)) ?_
      rintro s3 gn hs3 hgn
      simp only [List.mem_cons, List.not_mem_nil, or_false] at hgn
      refine zA (anb (an1 8 rfl ?_))
      refine zQ rfl rfl F.one3 ?_
      refine zA (anb (zG 9 rfl rfl rfl (zY rfl F.fi49_1 F.ti3) ?_))
      refine an1 10 rfl ?_
      refine zI rfl rfl F.ti3 rfl ?_
      refine zA (anb (zG 11 rfl rfl rfl (zY rfl F.fi49_2 F.ti3) ?_))
      refine an1 12 rfl ?_
      refine zI rfl rfl F.ti3 rfl ?_
      refine zA (anb (adn ?_))
      exact jT (s3, gn) ⟨hs3, by dsimp only; omega⟩ sbn pkk
     ·refine zQ rfl rfl F.one3 ?_
      refine zA (anb (an1 6 rfl ?_))
      refine vL [0, 1, 1, g1] rfl rfl rfl hB hN hs2 om (by simp) (by simp) (InB.mem (b := b13)) ?_
      rintro s3 gn hs3 hgn
      simp only [List.mem_cons, List.not_mem_nil, or_false] at hgn
      refine zA (anb (zG 9 rfl rfl rfl (zY rfl F.fi49_1 F.ti3) ?_))
      refine an1 10 rfl ?_
      refine zI rfl rfl F.ti3 rfl ?_
      refine zA (anb (zG 11 rfl rfl rfl (zY rfl F.fi49_2 F.ti3) ?_))
      refine an1 12 rfl ?_
      refine zI rfl rfl F.ti3 rfl ?_
      refine zA (anb (adn ?_))
      exact jT (s3, gn) ⟨hs3, by dsimp only; omega⟩ sbn pkk
    ·refine zQ rfl rfl F.one3 ?_
     refine zA (anb (an1 5 rfl ?_))
     refine kH (vs := [(0, _), (1, _), (2, _), (3, _)]) rfl rfl Try.underlying22 F.ti3 rfl rfl rfl ?_
     intro b13
     refine zA (anb (an1 6 rfl ?_))
     refine vL [0, 1, 1, g1] rfl rfl rfl hB hN hs2 om (by simp) (by simp) (InB.mem (b := b13)) ?_
     rintro s3 gn hs3 hgn
     simp only [List.mem_cons, List.not_mem_nil, or_false] at hgn
     refine zA (anb (zG 9 rfl rfl rfl (zY rfl F.fi49_1 F.ti3) ?_))
     refine an1 10 rfl ?_
     refine zI rfl rfl F.ti3 rfl ?_
     refine zA (anb (zG 11 rfl rfl rfl (zY rfl F.fi49_2 F.ti3) ?_))
     refine an1 12 rfl ?_
     refine zI rfl rfl F.ti3 rfl ?_
     refine zA (anb (adn ?_))
     exact jT (s3, gn) ⟨hs3, by dsimp only; omega⟩ sbn pkk
   ·refine zQ rfl rfl F.one3 ?_
    refine zA (anb (an1 4 rfl ?_))
    refine vV rfl rfl rfl hB hN hs1 om om ?_
    rintro s2 g1 hs2 hg1
    refine zA (anb (an1 5 rfl ?_))
    refine kH (vs := [(0, _), (1, _), (2, _), (3, _)]) rfl rfl Try.underlying22 F.ti3 rfl rfl rfl ?_
    intro b13
    refine zA (anb (an1 6 rfl ?_))
    refine vL [0, 1, 1, g1] rfl rfl rfl hB hN hs2 om (by simp) (by simp) (InB.mem (b := b13)) ?_
    rintro s3 gn hs3 hgn
    simp only [List.mem_cons, List.not_mem_nil, or_false] at hgn
    refine zA (anb (zG 9 rfl rfl rfl (zY rfl F.fi49_1 F.ti3) ?_))
    refine an1 10 rfl ?_
    refine zI rfl rfl F.ti3 rfl ?_
    refine zA (anb (zG 11 rfl rfl rfl (zY rfl F.fi49_2 F.ti3) ?_))
    refine an1 12 rfl ?_
    refine zI rfl rfl F.ti3 rfl ?_
    refine zA (anb (adn ?_))
    exact jT (s3, gn) ⟨hs3, by dsimp only; omega⟩ sbn pkk
  ·refine zQ rfl rfl F.one3 ?_
   refine zA (anb (an1 3 rfl ?_))
   refine zQ rfl rfl F.one3 ?_
   refine zA (anb (an1 4 rfl ?_))
   refine vV rfl rfl rfl hB hN hs1 om om ?_
   rintro s2 g1 hs2 hg1
   refine zA (anb (an1 5 rfl ?_))
   refine kH (vs := [(0, _), (1, _), (2, _), (3, _)]) rfl rfl Try.underlying22 F.ti3 rfl rfl rfl ?_
   intro b13
   refine zA (anb (an1 6 rfl ?_))
   refine vL [0, 1, 1, g1] rfl rfl rfl hB hN hs2 om (by simp) (by simp) (InB.mem (b := b13)) ?_
   rintro s3 gn hs3 hgn
   simp only [List.mem_cons, List.not_mem_nil, or_false] at hgn
   refine zA (anb (zG 9 rfl rfl rfl (zY rfl F.fi49_1 F.ti3) ?_))
   refine an1 10 rfl ?_
   refine zI rfl rfl F.ti3 rfl ?_
   refine zA (anb (zG 11 rfl rfl rfl (zY rfl F.fi49_2 F.ti3) ?_))
   refine an1 12 rfl ?_
   refine zI rfl rfl F.ti3 rfl ?_
   refine zA (anb (adn ?_))
   exact jT (s3, gn) ⟨hs3, by dsimp only; omega⟩ sbn pkk
 ·rintro ⟨s3, gn⟩ ⟨hs3, hgn⟩
  dsimp only at hs3 hgn ⊢
  refine zC (zD (zD (zB (zF rfl rfl (zBw rfl rfl rfl hB hN hs3 om om om ?_)))))
  rintro s4 sb hs4
  refine zA (zC (kW rfl (fun hc0 => ?_) (fun hc0 => ?_)))
  ·refine zB (zF rfl rfl (zK rfl rfl F.fi49_0 F.ti3 ?_))
   refine zQ rfl rfl F.one3 ?_
   refine vV rfl rfl rfl hB hN hs4 om om ?_
   rintro s5 nw hs5 hnw
   refine zK rfl rfl F.fi49_2 F.ti3 ?_
   refine zI rfl rfl F.ti3 rfl ?_
   refine zA (zC (zD (zB (zF rfl rfl (zBw rfl rfl rfl hB hN hs5 om om om ?_)))))
   rintro s6 wb hs6
   refine zK rfl rfl F.fi49_3 F.ti4 ?_
   refine zI rfl rfl F.ti4 rfl ?_
   refine zA (zC (zD (zB (jA rfl rfl F.agg49 F.ti49 ?_))))
   refine zI rfl rfl F.ti49 rfl ?_
   refine zA (zC (zU ?_))
   exact jE rfl (fun a w ha => by exact qH (ha := ha) rfl rfl F.agg49 F.ti49 rfl) (fun _ _ ha' => ⟨tk + 1 + 1 + 1 + 1 + 1 + 1, s6, ⟨pw, gn, nw, wb⟩, by omega, hs6, ⟨by show 1 <= pw; omega, by show pw <= 4; omega, by show gn <= pw; omega, by show nw <= pw; omega⟩, rfl, ha.back (ha'.pck pkk)⟩)
  ·refine zR (zC (zD (zB (zF rfl rfl (zBw rfl rfl rfl hB hN hs4 om om om ?_)))))
   rintro s6 wb hs6
   refine zK rfl rfl F.fi49_3 F.ti4 ?_
   refine zI rfl rfl F.ti4 rfl ?_
   refine zA (zC (zD (zB (jA rfl rfl F.agg49 F.ti49 ?_))))
   refine zI rfl rfl F.ti49 rfl ?_
   refine zA (zC (zU ?_))
   exact jE rfl (fun a w ha => by exact qH (ha := ha) rfl rfl F.agg49 F.ti49 rfl) (fun _ _ ha' => ⟨tk + 1 + 1 + 1 + 1 + 1, s6, ⟨pw, gn, pw, wb⟩, by omega, hs6, ⟨by show 1 <= pw; omega, by show pw <= 4; omega, by show gn <= pw; omega, by show pw <= pw; omega⟩, rfl, ha.back (ha'.pck pkk)⟩)

theorem zMb {C : Ctx} {fr : List (Nat × Value)} {T : List Res} {a : Act} {w : World} (hC : C.P = Try.prog) {hb tk st nc : Nat} {nA : Option Addr} {nums : List Int} (hB : C.w0.heap.size = C.B) (hN : RdL icell 1 C.w0 nA nums) (htk : tk <= 800000) (hst : st < 18446744073709551616) {nf ny : Nat} (hf1 : 1 <= nf) (hf3 : nf <= 3) (hy1 : 1 <= ny) (hy4 : ny <= 4) (ha : At C fr (.blk hb (hatO nA nums.length nc (tk) (st)) :: T) a w) : Calls C.P 14 #[.pointer (some ⟨hb, 0, none⟩), .int .i64 (nf : Int), .int .i64 (ny : Int)] w fun e w' => ∃ (tk' st' kiln : Nat) (fs : List Flt) (days : List Nat) (A D : Option Addr) (c dc : Nat), tk' <= tk + 100 ∧ st' < 18446744073709551616 ∧ fs.length <= nf ∧ days.length <= ny ∧ ChV fs kiln days ∧ e = .returned (.agg [.slice A fs.length c, .int .i64 (kiln : Int), .slice D days.length dc].toArray) ∧ At C fr (.row 49 4 A fs.length c (fs.flatMap Flt.cells) :: .row 3 1 D days.length dc (ints days) :: .blk hb (hatO nA nums.length nc (tk') (st')) :: T) a w' := by
 obtain ⟨P, B, w0, N0, ds⟩ := C
 obtain rfl : P = Try.prog := hC
 (try dsimp only at hB)
 (try dsimp only at hN)
 refine vP (N := 59) [(0, .pointer (some ⟨hb, 0, none⟩)), (1, .int .i64 (nf : Int)), (2, .int .i64 (ny : Int))] ha Try.func14 rfl Try.ntmps14 rfl rfl ?_
 refine zD (zB (zV rfl F.ti27 ?_))
 intro b6
 refine zA (zC (zD (zB (zF rfl rfl (kH (vs := [(0, _), (1, _), (2, _), (3, _)]) rfl rfl Try.underlying22 F.ti3 rfl rfl rfl ?_)))))
 intro b13
 refine vL [0, 1, 1, 2] rfl rfl rfl hB hN hst om (by simp) (by simp) (InB.mem (b := b13)) ?_
 rintro s0 kiln hs0 hkiln
 simp only [List.mem_cons, List.not_mem_nil, or_false] at hkiln
 refine jU (vs := [(1, _)]) (l' := [_, _, _]) rfl rfl F.ti27 F.pl27 (.cons rfl rfl (.nil _)) rfl ?_
 refine zV rfl F.ti27 ?_
 intro b7
 refine zI rfl rfl F.ti27 rfl ?_
 refine zA (zC (zD (zB (zE rfl rfl (zA (zC (zD (zD (zB (zF rfl rfl (zF rfl rfl (zL5 (lo := 1) (hi := nf) rfl rfl rfl hB hN hs0 om om om ?_))))))))))))
 rintro s1 n0 hs1 hn0a hn0b
 refine zE rfl rfl (zA (zC (zZ (zN3 49 4 ?_))))
 refine vF (G := Nat × Nat × Nat × Option Addr × Nat × List Flt × Nat) (fun g => g.1 + g.2.2.2.2.2.1.length = n0 ∧ (∀ x ∈ g.2.2.2.2.2.1, FltOk x) ∧ g.2.1 <= tk + 2 + 10 * g.2.2.2.2.2.1.length ∧ g.2.2.1 < 18446744073709551616 ∧ g.2.2.2.2.2.2 <= 4 * g.2.2.2.2.2.1.length) (fun g => g.1) (fun g => [(0, .pointer (some ⟨hb, 0, none⟩)), (1, .int .i64 (nf : Int)), (2, .int .i64 (ny : Int)), (6, .pointer (some ⟨b6, 0, none⟩)), (7, .pointer (some ⟨b7, 0, none⟩)), (8, .int .i64 (g.2.2.2.2.2.2 : Int)), (9, .int .i64 (g.1 : Int))]) (fun g => .row 49 4 g.2.2.2.1 g.2.2.2.2.2.1.length g.2.2.2.2.1 (g.2.2.2.2.2.1.flatMap Flt.cells) :: .blk b7 (.cells [.slice g.2.2.2.1 g.2.2.2.2.2.1.length g.2.2.2.2.1, .int .i64 (kiln : Int), .slice none 0 0].toArray 27 (0, 0)) :: .blk b6 (.cells [.slice none 0 0, .int .i64 0, .slice none 0 0].toArray 27 (0, 0)) :: .blk hb (hatO nA nums.length nc (g.2.1) (g.2.2.1)) :: T) (n0, tk + 1 + 1, s1, none, 0, [], 0) ⟨by simp, by simp, by simp, hs1, by simp⟩ sbn pkk ?_
 rintro ⟨i, t1, s2, A1, c1, fs, sm⟩ ⟨hil, hlo, ht1, hs2, hsm⟩
 (try dsimp only at hil hlo ht1 hs2 hsm ⊢)
 refine zD (zD (zB (zF rfl rfl (zJ rfl rfl rfl yL ?_))))
 refine zA (zC (zO rfl (fun hc0 => ?_) (fun hc0 => ?_)))
 ·obtain ⟨i, rfl⟩ : ∃ i', i = i' + 1 := ⟨i - 1, by omega⟩
  refine zR (zC (zD (zZ (zD (zB (zF rfl rfl (wD (X := Nat × Nat × Flt) (vs := [_]) hb (fun y => hatO nA nums.length nc (y.1) (y.2.1)) (fun y => y.1 <= t1 + 10 ∧ y.2.1 < 18446744073709551616 ∧ FltOk y.2.2) (fun y => .agg [.int .i64 (y.2.2.power : Int), .int .i64 (y.2.2.gain : Int), .int .i64 (y.2.2.now : Int), .bool y.2.2.washed].toArray) rfl rfl F.ent27 (fun a w ha => (zP3 (C := ⟨Try.prog, B, w0, _, _⟩) rfl hB hN (tk := t1) (st := s2) om hs2 ha).mono (fun e w' h => by obtain ⟨t', s', x, h1, h2, h3, h4, h5⟩ := h; exact ⟨(t', s', x), ⟨h1, h2, h3⟩, h4, h5⟩)) ?_)))))))
  rintro ⟨t2, s3, ⟨pw, gn, nw, wd⟩⟩ ⟨ht2, hs3, hfo⟩
  dsimp only at ht2 hs3 hfo ⊢
  refine zV rfl F.ti49 ?_
  intro b10
  refine zI rfl rfl F.ti49 rfl ?_
  refine zA (zC (xH (G := Option Addr × Nat) (fun _ => True) (fun x => [(0, .pointer (some ⟨hb, 0, none⟩)), (1, .int .i64 (nf : Int)), (2, .int .i64 (ny : Int)), (6, .pointer (some ⟨b6, 0, none⟩)), (7, .pointer (some ⟨b7, 0, none⟩)), (8, .int .i64 ((sm + pw : Nat) : Int)), (9, .int .i64 ((i + 1 : Nat) : Int))]) (fun x => .row 49 4 x.1 (fs.length + 1) x.2 (fs.flatMap Flt.cells ++ [.int .i64 (pw : Int), .int .i64 (gn : Int), .int .i64 (nw : Int), .bool wd]) :: .blk b7 (.cells [.slice x.1 (fs.length + 1) x.2, .int .i64 (kiln : Int), .slice none 0 0].toArray 27 (0, 0)) :: .blk b6 (.cells [.slice none 0 0, .int .i64 0, .slice none 0 0].toArray 27 (0, 0)) :: .blk hb (hatO nA nums.length nc (t2) (s3)) :: T) ?_ ?_))
  ·refine kF [.b b7, .r A1] F.follows 12 rfl [false, false, false, false, false, false, false, false, false, false, false, false] rfl ?_
   have hpw4 : pw <= 4 := hfo.2.1
   refine zG 0 rfl rfl rfl (zY rfl F.fi27_0 F.ti25) ?_
   refine zG 2 rfl rfl rfl (qC rfl F.agg49 F.ti49) ?_
   refine zG 5 rfl rfl rfl (jI rfl) ?_
   refine zG 6 rfl rfl rfl (zY rfl F.fi49_0 F.ti3) ?_
   refine zG 7 rfl rfl rfl (jW rfl F.one3) ?_
   refine zG 8 rfl rfl rfl (qS (v := .int .i64 ((sm + pw : Nat) : Int)) rfl rfl (fun w => jN w (zX _ om om))) ?_
   refine qG 1 3 kr rfl rfl rfl rfl ?_ ?_
   ·refine zQ rfl rfl F.one25 ?_
    refine zA (anb (an1 3 rfl ?_))
    refine yT (vs := [(0, .agg ([.int .i64 (pw : Int), .int .i64 (gn : Int), .int .i64 (nw : Int), .bool wd] : List Value).toArray)]) [.int .i64 (pw : Int), .int .i64 (gn : Int), .int .i64 (nw : Int), .bool wd] rfl rfl Try.underlying25 F.ti49 rfl rfl rfl (Lit.agg (l1 := [.int .i64 (pw : Int), .int .i64 (gn : Int), .int .i64 (nw : Int), .bool wd]) (l := []) rfl rfl) ?_
    intro b28
    refine zA (anb (an1 4 rfl ?_))
    refine qB rfl rfl rfl Try.underlying25 F.ti49 rfl rfl rfl (by unfold maxLen; omega) om ?_
    intro A2 c2
    refine zA (anb (zG 9 rfl rfl rfl (zY rfl F.fi27_0 F.ti25) ?_))
    refine an1 10 rfl ?_
    refine zI rfl rfl F.ti25 rfl ?_
    refine zA (anb (zG 11 rfl rfl rfl (kV rfl) ?_))
    refine adn ?_
    exact jT (A2, c2) trivial sbn pkk
   ·refine yT (vs := [(0, .agg ([.int .i64 (pw : Int), .int .i64 (gn : Int), .int .i64 (nw : Int), .bool wd] : List Value).toArray)]) [.int .i64 (pw : Int), .int .i64 (gn : Int), .int .i64 (nw : Int), .bool wd] rfl rfl Try.underlying25 F.ti49 rfl rfl rfl (Lit.agg (l1 := [.int .i64 (pw : Int), .int .i64 (gn : Int), .int .i64 (nw : Int), .bool wd]) (l := []) rfl rfl) ?_
    intro b28
    refine zA (anb (an1 1 rfl ?_))
    refine zQ rfl rfl F.one25 ?_
    refine zA (anb (an1 4 rfl ?_))
    refine qB rfl rfl rfl Try.underlying25 F.ti49 rfl rfl rfl (by unfold maxLen; omega) om ?_
    intro A2 c2
    refine zA (anb (zG 9 rfl rfl rfl (zY rfl F.fi27_0 F.ti25) ?_))
    refine an1 10 rfl ?_
    refine zI rfl rfl F.ti25 rfl ?_
    refine zA (anb (zG 11 rfl rfl rfl (kV rfl) ?_))
    refine adn ?_
    exact jT (A2, c2) trivial sbn pkk
  ·rintro ⟨A2, c2⟩ -
   have hpw4 : pw <= 4 := hfo.2.1
   (try dsimp only)
   refine zN (zC (zB (zF rfl rfl (zJ rfl rfl rfl (fun w => xJ w (show IntKind.i64.wrap (((i + 1 : Nat) : Int) - 1) = (i : Int) from by rw [zX _ om om]; omega)) ?_))))
   refine zE rfl rfl (zA (qU (i, t2, s3, A2, c2, fs ++ [⟨pw, gn, nw, wd⟩], sm + pw) ⟨by simp; omega, fun y hy => ?_, by simp; omega, hs3, by simp; omega⟩ tdo (by dsimp only; (try rw [List.length_append, List.length_singleton]); repeat (first | exact Sub.nil _ | refine Sub.cons rfl ?_)) (by dsimp only; rw [List.length_append, List.length_singleton]; rw [List.flatMap_append, List.flatMap_singleton]; repeat (first | exact Pck.nil _ | exact Pck.refl _ | (apply Pck.cons; focus ((repeat (first | exact Rem.here _ | apply Rem.there)); done)) | refine Pck.skip _ ?_))))
   rcases List.mem_append.1 hy with h | h
   ·exact hlo y h
   ·simp at h; subst h; exact hfo
 ·obtain rfl : i = 0 := by omega
  have hn0 : fs.length = n0 := by omega
  have hfl1 : 1 <= fs.length := by omega
  have hfl2 : fs.length <= nf := by omega
  refine kC (zS (zS (jH (zC (zD (zD (zB (zF rfl rfl (zF rfl rfl (zL5 (lo := 1) (hi := ny) rfl rfl rfl hB hN hs2 om om om ?_))))))))))
  rintro s4 m0 hs4 hm0a hm0b
  refine zE rfl rfl (zA (zC (zZ (zN3 3 1 ?_))))
  refine vF (G := Nat × Nat × Nat × Option Addr × Nat × List Nat) (fun g => g.1 + g.2.2.2.2.2.length = m0 ∧ (∀ x ∈ g.2.2.2.2.2, x <= 12) ∧ g.2.1 <= t1 + 1 + 3 * g.2.2.2.2.2.length ∧ g.2.2.1 < 18446744073709551616) (fun g => g.1) (fun g => [(0, .pointer (some ⟨hb, 0, none⟩)), (1, .int .i64 (nf : Int)), (2, .int .i64 (ny : Int)), (6, .pointer (some ⟨b6, 0, none⟩)), (7, .pointer (some ⟨b7, 0, none⟩)), (8, .int .i64 (sm : Int)), (11, .int .i64 (g.1 : Int))]) (fun g => .row 3 1 g.2.2.2.1 g.2.2.2.2.2.length g.2.2.2.2.1 (ints g.2.2.2.2.2) :: .row 49 4 A1 fs.length c1 (fs.flatMap Flt.cells) :: .blk b7 (.cells [.slice A1 fs.length c1, .int .i64 (kiln : Int), .slice g.2.2.2.1 g.2.2.2.2.2.length g.2.2.2.2.1].toArray 27 (0, 0)) :: .blk b6 (.cells [.slice none 0 0, .int .i64 0, .slice none 0 0].toArray 27 (0, 0)) :: .blk hb (hatO nA nums.length nc (g.2.1) (g.2.2.1)) :: T) (m0, t1 + 1, s4, none, 0, []) ⟨by simp, by simp, by simp, hs4⟩ sbn pkk ?_
  rintro ⟨i, t3, s5, A3, c3, ds⟩ ⟨hjl, hdo, ht3, hs5⟩
  (try dsimp only at hjl hdo ht3 hs5 ⊢)
  refine zD (zD (zB (zF rfl rfl (zJ rfl rfl rfl yL ?_))))
  refine zA (zC (zO rfl (fun hc1 => ?_) (fun hc1 => ?_)))
  ·obtain ⟨i, rfl⟩ : ∃ i', i = i' + 1 := ⟨i - 1, by omega⟩
   refine zR (zC (zD (zZ (xH (G := Option Addr × Nat × Nat × Nat) (fun x => x.2.2.1 < 18446744073709551616 ∧ x.2.2.2 <= 12) (fun x => [(0, .pointer (some ⟨hb, 0, none⟩)), (1, .int .i64 (nf : Int)), (2, .int .i64 (ny : Int)), (6, .pointer (some ⟨b6, 0, none⟩)), (7, .pointer (some ⟨b7, 0, none⟩)), (8, .int .i64 (sm : Int)), (11, .int .i64 ((i + 1 : Nat) : Int))]) (fun x => .row 3 1 x.1 (ds.length + 1) x.2.1 (ints ds ++ [.int .i64 (x.2.2.2 : Int)]) :: .row 49 4 A1 fs.length c1 (fs.flatMap Flt.cells) :: .blk b7 (.cells [.slice A1 fs.length c1, .int .i64 (kiln : Int), .slice x.1 (ds.length + 1) x.2.1].toArray 27 (0, 0)) :: .blk b6 (.cells [.slice none 0 0, .int .i64 0, .slice none 0 0].toArray 27 (0, 0)) :: .blk hb (hatO nA nums.length nc (t3 + 1 + 1 + 1) (x.2.2.1)) :: T) ?_ ?_))))
   ·refine kF [.b b7, .b hb, .r A3] F.follows 17 rfl [false, false, false, false, false, false, false, false, false, false, false, false, false, false, false, false, false] rfl ?_
    refine zG 0 rfl rfl rfl (zY rfl F.fi27_2 F.ti22) ?_
    refine zG 2 rfl rfl rfl (jI rfl) ?_
    refine zG 3 rfl rfl rfl (jI rfl) ?_
    refine zG 4 rfl rfl rfl (jI rfl) ?_
    refine zG 5 rfl rfl rfl (qS (v := .int .i64 ((sm / 2 : Nat) : Int)) rfl rfl (fun w => zU5 w om (by rw [show ((sm : Int).tdiv 2) = ((sm / 2 : Nat) : Int) from (Int.ofNat_tdiv sm 2).symm]; exact zX _ om om))) ?_
    refine zG 8 rfl rfl rfl (jI rfl) ?_
    refine zG 9 rfl rfl rfl (jI rfl) ?_
    refine qG 1 6 kr rfl rfl rfl rfl ?_ ?_
    ·refine zQ rfl rfl F.one22 ?_
     refine zA (anb (an1 6 rfl ?_))
     refine zIs rfl rfl rfl ?_
     rw [show (if (1 : Int) < ((sm / 2 : Nat) : Int) then ((sm / 2 : Nat) : Int) else 1) = ((max 1 (sm / 2) : Nat) : Int) from by split <;> omega]
     refine zA (anb (an1 7 rfl ?_))
     refine vV rfl rfl rfl hB hN hs5 om om ?_
     rintro s6 y1 hs6 hy1
     refine zA (anb (an1 10 rfl ?_))
     refine vV rfl rfl rfl hB hN hs6 om om ?_
     rintro s7 y2 hs7 hy2
     refine zA (anb (an1 11 rfl ?_))
     refine kH (vs := [(0, _), (1, _), (2, _), (3, _), (4, _)]) rfl rfl Try.underlying22 F.ti3 rfl rfl rfl ?_
     intro b53
     refine zA (anb (an1 12 rfl ?_))
     refine vL [0, 1, 2, y1, y2] rfl rfl rfl hB hN hs7 om (by simp) (by simp) (InB.mem (b := b53)) ?_
     rintro s8 d1 hs8 hd1
     simp only [List.mem_cons, List.not_mem_nil, or_false] at hd1
     have hd12 : d1 <= 12 := by omega
     refine zA (anb (an1 13 rfl ?_))
     refine kH (vs := [(0, _)]) rfl rfl Try.underlying22 F.ti3 rfl rfl rfl ?_
     intro b55
     refine zA (anb (an1 14 rfl ?_))
     refine qB rfl rfl rfl Try.underlying22 F.ti3 rfl rfl rfl (by unfold maxLen; omega) om ?_
     intro A4 c4
     refine zA (anb (zG 15 rfl rfl rfl (zY rfl F.fi27_2 F.ti22) ?_))
     refine an1 16 rfl ?_
     refine zI rfl rfl F.ti22 rfl ?_
     refine zA (anb (adn ?_))
     exact jT (A4, c4, s8, d1) ⟨hs8, hd12⟩ sbn pkk
    ·refine zIs rfl rfl rfl ?_
     rw [show (if (1 : Int) < ((sm / 2 : Nat) : Int) then ((sm / 2 : Nat) : Int) else 1) = ((max 1 (sm / 2) : Nat) : Int) from by split <;> omega]
     refine zA (anb (qG 1 7 kr rfl rfl rfl rfl ?_ ?_))
     ·refine zQ rfl rfl F.one22 ?_
      refine zA (anb (an1 7 rfl ?_))
      refine vV rfl rfl rfl hB hN hs5 om om ?_
      rintro s6 y1 hs6 hy1
      refine zA (anb (an1 10 rfl ?_))
      refine vV rfl rfl rfl hB hN hs6 om om ?_
      rintro s7 y2 hs7 hy2
      refine zA (anb (an1 11 rfl ?_))
      refine kH (vs := [(0, _), (1, _), (2, _), (3, _), (4, _)]) rfl rfl Try.underlying22 F.ti3 rfl rfl rfl ?_
      intro b53
      refine zA (anb (an1 12 rfl ?_))
      refine vL [0, 1, 2, y1, y2] rfl rfl rfl hB hN hs7 om (by simp) (by simp) (InB.mem (b := b53)) ?_
      rintro s8 d1 hs8 hd1
      simp only [List.mem_cons, List.not_mem_nil, or_false] at hd1
      have hd12 : d1 <= 12 := by omega
      refine zA (anb (an1 13 rfl ?_))
      refine kH (vs := [(0, _)]) rfl rfl Try.underlying22 F.ti3 rfl rfl rfl ?_
      intro b55
      refine zA (anb (an1 14 rfl ?_))
      refine qB rfl rfl rfl Try.underlying22 F.ti3 rfl rfl rfl (by unfold maxLen; omega) om ?_
      intro A4 c4
      refine zA (anb (zG 15 rfl rfl rfl (zY rfl F.fi27_2 F.ti22) ?_))
      refine an1 16 rfl ?_
      refine zI rfl rfl F.ti22 rfl ?_
      refine zA (anb (adn ?_))
      exact jT (A4, c4, s8, d1) ⟨hs8, hd12⟩ sbn pkk
     ·refine vV rfl rfl rfl hB hN hs5 om om ?_
      rintro s6 y1 hs6 hy1
      refine zA (anb (qG 1 10 kr rfl rfl rfl rfl ?_ ?_))
      ·refine zQ rfl rfl F.one22 ?_
       refine zA (anb (an1 10 rfl ?_))
       refine vV rfl rfl rfl hB hN hs6 om om ?_
       rintro s7 y2 hs7 hy2
       refine zA (anb (an1 11 rfl ?_))
       refine kH (vs := [(0, _), (1, _), (2, _), (3, _), (4, _)]) rfl rfl Try.underlying22 F.ti3 rfl rfl rfl ?_
       intro b53
       refine zA (anb (an1 12 rfl ?_))
       refine vL [0, 1, 2, y1, y2] rfl rfl rfl hB hN hs7 om (by simp) (by simp) (InB.mem (b := b53)) ?_
       rintro s8 d1 hs8 hd1
       simp only [List.mem_cons, List.not_mem_nil, or_false] at hd1
       have hd12 : d1 <= 12 := by omega
       refine zA (anb (an1 13 rfl ?_))
       refine kH (vs := [(0, _)]) rfl rfl Try.underlying22 F.ti3 rfl rfl rfl ?_
       intro b55
       refine zA (anb (an1 14 rfl ?_))
       refine qB rfl rfl rfl Try.underlying22 F.ti3 rfl rfl rfl (by unfold maxLen; omega) om ?_
       intro A4 c4
       refine zA (anb (zG 15 rfl rfl rfl (zY rfl F.fi27_2 F.ti22) ?_))
       refine an1 16 rfl ?_
       refine zI rfl rfl F.ti22 rfl ?_
       refine zA (anb (adn ?_))
       exact jT (A4, c4, s8, d1) ⟨hs8, hd12⟩ sbn pkk
      ·refine vV rfl rfl rfl hB hN hs6 om om ?_
       rintro s7 y2 hs7 hy2
       refine zA (anb (qG 1 11 kr rfl rfl rfl rfl ?_ ?_))
       ·refine zQ rfl rfl F.one22 ?_
        refine zA (anb (an1 11 rfl ?_))
        refine kH (vs := [(0, _), (1, _), (2, _), (3, _), (4, _)]) rfl rfl Try.underlying22 F.ti3 rfl rfl rfl ?_
        intro b53
        refine zA (anb (an1 12 rfl ?_))
        refine vL [0, 1, 2, y1, y2] rfl rfl rfl hB hN hs7 om (by simp) (by simp) (InB.mem (b := b53)) ?_
        rintro s8 d1 hs8 hd1
        simp only [List.mem_cons, List.not_mem_nil, or_false] at hd1
        have hd12 : d1 <= 12 := by omega
        refine zA (anb (an1 13 rfl ?_))
        refine kH (vs := [(0, _)]) rfl rfl Try.underlying22 F.ti3 rfl rfl rfl ?_
        intro b55
        refine zA (anb (an1 14 rfl ?_))
        refine qB rfl rfl rfl Try.underlying22 F.ti3 rfl rfl rfl (by unfold maxLen; omega) om ?_
        intro A4 c4
        refine zA (anb (zG 15 rfl rfl rfl (zY rfl F.fi27_2 F.ti22) ?_))
        refine an1 16 rfl ?_
        refine zI rfl rfl F.ti22 rfl ?_
        refine zA (anb (adn ?_))
        exact jT (A4, c4, s8, d1) ⟨hs8, hd12⟩ sbn pkk
       ·refine kH (vs := [(0, _), (1, _), (2, _), (3, _), (4, _)]) rfl rfl Try.underlying22 F.ti3 rfl rfl rfl ?_
        intro b53
        refine zA (anb (qG 1 12 kr rfl rfl rfl rfl ?_ ?_))
        ·refine zQ rfl rfl F.one22 ?_
         refine zA (anb (an1 12 rfl ?_))
         refine vL [0, 1, 2, y1, y2] rfl rfl rfl hB hN hs7 om (by simp) (by simp) (InB.mem (b := b53)) ?_
         rintro s8 d1 hs8 hd1
         simp only [List.mem_cons, List.not_mem_nil, or_false] at hd1
         have hd12 : d1 <= 12 := by omega
         refine zA (anb (an1 13 rfl ?_))
         refine kH (vs := [(0, _)]) rfl rfl Try.underlying22 F.ti3 rfl rfl rfl ?_
         intro b55
         refine zA (anb (an1 14 rfl ?_))
         refine qB rfl rfl rfl Try.underlying22 F.ti3 rfl rfl rfl (by unfold maxLen; omega) om ?_
         intro A4 c4
         refine zA (anb (zG 15 rfl rfl rfl (zY rfl F.fi27_2 F.ti22) ?_))
         refine an1 16 rfl ?_
         refine zI rfl rfl F.ti22 rfl ?_
         refine zA (anb (adn ?_))
         exact jT (A4, c4, s8, d1) ⟨hs8, hd12⟩ sbn pkk
        ·refine vL [0, 1, 2, y1, y2] rfl rfl rfl hB hN hs7 om (by simp) (by simp) (InB.mem (b := b53)) ?_
         rintro s8 d1 hs8 hd1
         simp only [List.mem_cons, List.not_mem_nil, or_false] at hd1
         have hd12 : d1 <= 12 := by omega
         refine zA (anb (qG 1 13 kr rfl rfl rfl rfl ?_ ?_))
         ·refine zQ rfl rfl F.one22 ?_
          refine zA (anb (an1 13 rfl ?_))
          refine kH (vs := [(0, _)]) rfl rfl Try.underlying22 F.ti3 rfl rfl rfl ?_
          intro b55
          refine zA (anb (an1 14 rfl ?_))
          refine qB rfl rfl rfl Try.underlying22 F.ti3 rfl rfl rfl (by unfold maxLen; omega) om ?_
          intro A4 c4
          refine zA (anb (zG 15 rfl rfl rfl (zY rfl F.fi27_2 F.ti22) ?_))
          refine an1 16 rfl ?_
          refine zI rfl rfl F.ti22 rfl ?_
          refine zA (anb (adn ?_))
          exact jT (A4, c4, s8, d1) ⟨hs8, hd12⟩ sbn pkk
         ·refine kH (vs := [(0, _)]) rfl rfl Try.underlying22 F.ti3 rfl rfl rfl ?_
          intro b55
          refine zA (anb (an1 1 rfl ?_))
          refine zQ rfl rfl F.one22 ?_
          refine zA (anb (an1 14 rfl ?_))
          refine qB rfl rfl rfl Try.underlying22 F.ti3 rfl rfl rfl (by unfold maxLen; omega) om ?_
          intro A4 c4
          refine zA (anb (zG 15 rfl rfl rfl (zY rfl F.fi27_2 F.ti22) ?_))
          refine an1 16 rfl ?_
          refine zI rfl rfl F.ti22 rfl ?_
          refine zA (anb (adn ?_))
          exact jT (A4, c4, s8, d1) ⟨hs8, hd12⟩ sbn pkk
   ·rintro ⟨A4, c4, s8, d1⟩ ⟨hs8, hd12⟩
    dsimp only at hs8 hd12 ⊢
    refine zN (zC (zB (zF rfl rfl (zJ rfl rfl rfl (fun w => xJ w (show IntKind.i64.wrap (((i + 1 : Nat) : Int) - 1) = (i : Int) from by rw [zX _ om om]; omega)) ?_))))
    refine zE rfl rfl (zA (qU (i, t3 + 1 + 1 + 1, s8, A4, c4, ds ++ [d1]) ⟨by simp; omega, fun y hy => ?_, by simp; omega, hs8⟩ tdo (by dsimp only; (try rw [List.length_append, List.length_singleton]); repeat (first | exact Sub.nil _ | refine Sub.cons rfl ?_)) (by dsimp only; rw [List.length_append, List.length_singleton]; rw [zQx]; repeat (first | exact Pck.nil _ | exact Pck.refl _ | (apply Pck.cons; focus ((repeat (first | exact Rem.here _ | apply Rem.there)); done)) | refine Pck.skip _ ?_))))
    rcases List.mem_append.1 hy with h | h
    ·exact hdo y h
    ·simp at h; subst h; exact hd12
  ·obtain rfl : i = 0 := by omega
   refine kC (zS (zS (jH (zC (zD (zB (jA rfl rfl F.agg27 F.ti27 ?_)))))))
   refine zI rfl rfl F.ti27 rfl ?_
   refine zA (zC (zU ?_))
   exact jE rfl (fun a w ha => by exact qH (ha := ha) rfl rfl F.agg27 F.ti27 rfl) (fun _ _ ha' => ⟨t3, s5, kiln, fs, ds, A1, A3, c1, c3, by omega, hs5, hfl2, by omega, ⟨hfl1, by omega, hlo, by omega, by omega, by omega, hdo⟩, rfl, ha.back (ha'.pck pkk)⟩)

theorem zWy {C : Ctx} {fr : List (Nat × Value)} {T : List Res} {a : Act} {w : World} (hC : C.P = Try.prog) {hb tk st nc : Nat} {nA : Option Addr} {nums : List Int} (hB : C.w0.heap.size = C.B) (hN : RdL icell 1 C.w0 nA nums) (htk : tk <= 700000) (hst : st < 18446744073709551616) (ha : At C fr (.blk hb (hatO nA nums.length nc (tk) (st)) :: T) a w) : Calls C.P 22 #[.pointer (some ⟨hb, 0, none⟩)] w fun e w' => ∃ (tk' st' kiln : Nat) (fs : List Flt) (days : List Nat) (A D : Option Addr) (c dc : Nat), tk' <= tk + 101 ∧ st' < 18446744073709551616 ∧ ChV fs kiln days ∧ e = .returned (.agg [.slice A fs.length c, .int .i64 (kiln : Int), .slice D days.length dc].toArray) ∧ At C fr (.row 49 4 A fs.length c (fs.flatMap Flt.cells) :: .row 3 1 D days.length dc (ints days) :: .blk hb (hatO nA nums.length nc (tk') (st')) :: T) a w' := by
 obtain ⟨P, B, w0, N0, ds⟩ := C
 obtain rfl : P = Try.prog := hC
 (try dsimp only at hB)
 (try dsimp only at hN)
 refine vP (N := 9) [(0, .pointer (some ⟨hb, 0, none⟩))] ha Try.func22 rfl Try.ntmps22 rfl rfl ?_
 refine zD (zB (zV rfl F.ti27 ?_))
 intro b2
 refine zA (zC (zD (zD (zB (zF rfl rfl (zBw rfl rfl rfl hB hN hst om om om ?_))))))
 rintro s1 sb hs1
 refine zA (zC (kW rfl (fun hc0 => ?_) (fun hc0 => ?_)))
 ·refine zD (zB (zF rfl rfl (zEm (X := Nat × Nat × Nat × List Flt × List Nat × Option Addr × Option Addr × Nat × Nat) (vs := [_, _, _]) hb (fun y => hatO nA nums.length nc y.1 y.2.1) (fun y => [.row 49 4 y.2.2.2.2.2.1 y.2.2.2.1.length y.2.2.2.2.2.2.2.1 (y.2.2.2.1.flatMap Flt.cells), .row 3 1 y.2.2.2.2.2.2.1 y.2.2.2.2.1.length y.2.2.2.2.2.2.2.2 (ints y.2.2.2.2.1)]) (fun y => y.1 <= (tk + 1) + 100 ∧ y.2.1 < 18446744073709551616 ∧ y.2.2.2.1.length <= 3 ∧ y.2.2.2.2.1.length <= 2 ∧ ChV y.2.2.2.1 y.2.2.1 y.2.2.2.2.1) (fun y => .agg [.slice y.2.2.2.2.2.1 y.2.2.2.1.length y.2.2.2.2.2.2.2.1, .int .i64 (y.2.2.1 : Int), .slice y.2.2.2.2.2.2.1 y.2.2.2.2.1.length y.2.2.2.2.2.2.2.2].toArray) rfl rfl F.ent14 (fun a w ha => (zMb (C := ⟨Try.prog, B, w0, _, _⟩) rfl hB hN (tk := (tk + 1)) (st := s1) (nf := 3) (ny := 2) om hs1 om om om om ha).mono (fun e w' h => by obtain ⟨t', s', k', f', d', A', D', c', dc', h1, h2, h3, h4, h5, h6, h7⟩ := h; exact ⟨(t', s', k', f', d', A', D', c', dc'), ⟨h1, h2, h3, h4, h5⟩, h6, h7⟩)) ?_)))
  rintro ⟨t2, s2, kiln, fs, days, A, D, c, dc⟩ ⟨ht2, hs2, hfsl, hdaysl, hfsv⟩
  dsimp only [List.cons_append, List.nil_append] at ht2 hs2 hfsl hdaysl hfsv ⊢
  refine zI rfl rfl F.ti27 rfl ?_
  refine zA (zC (zU (zW ?_)))
  exact jE rfl (fun a w ha => by exact qH (ha := ha) rfl rfl F.agg27 F.ti27 rfl) (fun _ _ ha' => ⟨t2, s2, kiln, fs, days, A, D, c, dc, by omega, hs2, hfsv, rfl, ha.back (ha'.pck pkk)⟩)
 ·refine zR (zC (zD (zB (zF rfl rfl (zEm (X := Nat × Nat × Nat × List Flt × List Nat × Option Addr × Option Addr × Nat × Nat) (vs := [_, _, _]) hb (fun y => hatO nA nums.length nc y.1 y.2.1) (fun y => [.row 49 4 y.2.2.2.2.2.1 y.2.2.2.1.length y.2.2.2.2.2.2.2.1 (y.2.2.2.1.flatMap Flt.cells), .row 3 1 y.2.2.2.2.2.2.1 y.2.2.2.2.1.length y.2.2.2.2.2.2.2.2 (ints y.2.2.2.2.1)]) (fun y => y.1 <= (tk + 1) + 100 ∧ y.2.1 < 18446744073709551616 ∧ y.2.2.2.1.length <= 2 ∧ y.2.2.2.2.1.length <= 4 ∧ ChV y.2.2.2.1 y.2.2.1 y.2.2.2.2.1) (fun y => .agg [.slice y.2.2.2.2.2.1 y.2.2.2.1.length y.2.2.2.2.2.2.2.1, .int .i64 (y.2.2.1 : Int), .slice y.2.2.2.2.2.2.1 y.2.2.2.2.1.length y.2.2.2.2.2.2.2.2].toArray) rfl rfl F.ent14 (fun a w ha => (zMb (C := ⟨Try.prog, B, w0, _, _⟩) rfl hB hN (tk := (tk + 1)) (st := s1) (nf := 2) (ny := 4) om hs1 om om om om ha).mono (fun e w' h => by obtain ⟨t', s', k', f', d', A', D', c', dc', h1, h2, h3, h4, h5, h6, h7⟩ := h; exact ⟨(t', s', k', f', d', A', D', c', dc'), ⟨h1, h2, h3, h4, h5⟩, h6, h7⟩)) ?_)))))
  rintro ⟨t2, s2, kiln, fs, days, A, D, c, dc⟩ ⟨ht2, hs2, hfsl, hdaysl, hfsv⟩
  dsimp only [List.cons_append, List.nil_append] at ht2 hs2 hfsl hdaysl hfsv ⊢
  refine zI rfl rfl F.ti27 rfl ?_
  refine zA (zC (zU ?_))
  exact jE rfl (fun a w ha => by exact qH (ha := ha) rfl rfl F.agg27 F.ti27 rfl) (fun _ _ ha' => ⟨t2, s2, kiln, fs, days, A, D, c, dc, by omega, hs2, hfsv, rfl, ha.back (ha'.pck pkk)⟩)

variable {C : Ctx} {fr : List (Nat × Value)} {hp : List Res} {ops : Array Oper} {Q : Exit -> Act -> World -> Prop} {rest : List Oper} {d : Nat} {ty : TypeId} {pos : String} {after : Array Edge}
theorem zC6 {α : Type} {cells : α -> List Value} {size : Nat} (hs : ∀ x, (cells x).length = size) (l : List α) : (l.flatMap cells).length = l.length * size := by
 induction l with
 | nil => simp
 | cons x l ih => rw [List.flatMap_cons, List.length_append, hs, ih, List.length_cons, Nat.succ_mul]; omega
theorem RdL.cells_at {α : Type} {cells : α -> List Value} {size : Nat} (hs : ∀ x, (cells x).length = size) (h0 : 0 < size) {w : World} {p : Addr} {l : List α} (h : RdL cells size w (some p) l) {j : Nat} {u : Value} (hu : (l.flatMap cells)[j]? = some u) : w.cell? (p.add j) = some u := by
 have hj : j < l.length * size := by
  rw [<- zC6 hs]
  rcases Nat.lt_or_ge j (l.flatMap cells).length with h1 | h1
  ·exact h1
  ·rw [List.getElem?_eq_none h1] at hu; cases hu
 have hk : j / size < l.length := Nat.div_lt_of_lt_mul (by rw [Nat.mul_comm]; exact hj)
 obtain ⟨b, o, h1, _, h3⟩ := h (Nat.lt_of_le_of_lt (Nat.zero_le _) hk)
 cases h1
 have hd := Nat.div_add_mod j size
 rw [Nat.mul_comm] at hd
 have hm : j % size < size := Nat.mod_lt _ h0
 have hx : l[j / size]? = some l[j / size] := List.getElem?_eq_getElem hk
 have hjs : j % size < (cells l[j / size]).length := by rw [hs]; exact hm
 have hc : (cells l[j / size])[j % size]? = some (cells l[j / size])[j % size] := List.getElem?_eq_getElem hjs
 have h4 := zC4 hs l _ _ hx _ _ hc
 rw [hd, hu] at h4
 have h5 := h3 _ _ hx _ _ hc
 rw [qY]
 rw [Nat.add_assoc, hd] at h5
 rw [h5]
 exact h4.symm
theorem yU {α : Type} {cells : α -> List Value} {x y : Operand} {t e : TypeId} {A : Option Addr} {p : Addr} {n c m cb size bytes : Nat} {xs : List Value} {l : List α} {z : Value} {hp' : Option Addr -> Nat -> List Res} (hd : Nat.blt d C.N = true)
  (hx : ev fr x = some (.slice A n c)) (hy : ev fr y = some (.slice (some p) m cb)) (ht : C.P.underlying t = some (.slice e)) (hi : TI C.P e z size bytes) (hzs : z.cells.size = size) (hs0 : Nat.blt 0 size = true) (hs : ∀ x, (cells x).length = size) (ho1 : ∀ x, ∀ u ∈ cells x, u.oneCell' = true)
  (hnews : ∀ a w, At C fr hp a w -> RdL cells size w (some p) l) (hl : l.length = m) [hr : InR A e size n c xs hp] [hu : ∀ A' c', UpR A e size n c xs (.row e size A' (n + m) c' (xs ++ l.flatMap cells)) hp (hp' A' c')]
  (h63 : n + m <= maxLen) (hbytes : (n + m) * bytes <= 140737488355328)
  (k : ∀ A' c', Lst C ops Q rest ((d, .slice A' (n + m) c') :: fr) (hp' A' c')) :
  Lst C ops Q (⟨some d, .call { callee := .builtin .append, args := #[x, y], argTypes := #[t, t] }, ty, pos, after, none⟩ :: rest) fr hp := by
 have ho : ∀ u ∈ l.flatMap cells, u.oneCell' = true := by
  intro u hu'
  obtain ⟨x, _, hx⟩ := List.mem_flatMap.1 hu'
  exact ho1 x u hx
 have hi' := hi
 obtain ⟨i, hi1, hi2, hi3, hi4⟩ := hi'
 have h0 := jY hs0
 subst hi4
 refine zEn hd hx hy ht hi hzs hs0 (fun a w ha j u hu => (hnews a w ha).cells_at hs h0 hu) (by rw [zC6 hs, hl]) ho (fun w v' w' hown hn hrun => ?_) h63 hbytes k
 exact zCa ht hi1 hi2 (hi3 ▸ hown) (by rw [zC6 hs, hi3, hl]) hn ho h63 hbytes hrun
end Go.Proofs.Yteppiphdbondeaa.N
namespace Go.Proofs.Yteppiphdbondeaa.N
open Go Go.RowKit Go.Proofs
set_option linter.unusedSectionVars false
theorem zFh {a b c d e f : Nat} (h1 : cless a b c d = false) (h2 : cless c d e f = false) : cless a b e f = false := by
 unfold cless at *
 simp only [decide_eq_false_iff_not, not_or, not_and] at *
 omega
theorem zD9 (a b : Nat) : cless a b a b = false := by
 unfold cless
 simp
theorem zX9 {a b c d : Nat} (h : cless a b c d = true) : cless c d a b = false := by
 unfold cless at *
 simp only [decide_eq_true_eq, decide_eq_false_iff_not, not_or, not_and] at *
 omega
theorem zVj {a b c d x y : Nat} : cless (a + x) (b + y) (c + x) (d + y) = cless a b c d := by
 unfold cless
 rw [decide_eq_decide]
 omega
theorem zIu (o x : Oc) : (lst2 o x).is = (o.is || x.is) := by
 unfold lst2 oless
 cases ho : o.is <;> cases hx : x.is <;> simp [ho, hx] <;> split <;> simp_all
theorem zO0 (o x : Oc) : lst2 o x = o ∨ lst2 o x = x ∧ x.is = true := by
 unfold lst2
 split
 ·rename_i h
  unfold oless at h
  exact .inr ⟨rfl, by simp at h; exact h.1⟩
 ·exact .inl rfl
theorem zSw {o x : Oc} (h : o.is = true) : cless o.f o.w (lst2 o x).f (lst2 o x).w = false := by
 unfold lst2
 split
 ·rename_i h2
  unfold oless at h2
  simp [h] at h2
  exact zX9 h2.2
 ·exact zD9 ..
theorem zSk {o x : Oc} (h : x.is = true) : cless x.f x.w (lst2 o x).f (lst2 o x).w = false := by
 unfold lst2
 split
 ·exact zD9 ..
 ·rename_i h2
  unfold oless at h2
  simp [h] at h2
  exact h2.2
theorem zJc (g : List Nat -> Oc) : ∀ (ls : List (List Nat)) (o : Oc), (ls.foldl (fun o l => lst2 o (g l)) o).is = (o.is || ls.any fun l => (g l).is)
 | [], o => by simp
 | l :: ls, o => by rw [List.foldl_cons, zJc g ls, zIu, List.any_cons, Bool.or_assoc]
theorem zJd (g : List Nat -> Oc) : ∀ (ls : List (List Nat)) (o : Oc), ls.foldl (fun o l => lst2 o (g l)) o = o ∨ ∃ l ∈ ls, (g l).is = true ∧ ls.foldl (fun o l => lst2 o (g l)) o = g l
 | [], o => .inl rfl
 | l :: ls, o => by
  rw [List.foldl_cons]
  rcases zJd g ls (lst2 o (g l)) with h | ⟨x, hx, h1, h2⟩
  ·rw [h]
   rcases zO0 o (g l) with h | ⟨h, h3⟩
   ·exact .inl h
   ·exact .inr ⟨l, by simp, h3, h⟩
  ·exact .inr ⟨x, by simp [hx], h1, h2⟩
theorem zLa (g : List Nat -> Oc) : ∀ (ls : List (List Nat)) (o : Oc), o.is = true -> cless o.f o.w (ls.foldl (fun o l => lst2 o (g l)) o).f (ls.foldl (fun o l => lst2 o (g l)) o).w = false
 | [], o, _ => zD9 ..
 | l :: ls, o, h => zFh (zSw h) (zLa g ls (lst2 o (g l)) (by rw [zIu, h]; rfl))
theorem zLs (g : List Nat -> Oc) : ∀ (ls : List (List Nat)) (o : Oc) (l : List Nat), l ∈ ls -> (g l).is = true -> cless (g l).f (g l).w (ls.foldl (fun o l => lst2 o (g l)) o).f (ls.foldl (fun o l => lst2 o (g l)) o).w = false
 | l :: ls, o, x, hx, h => by
  rw [List.foldl_cons]
  rcases List.mem_cons.1 hx with rfl | hx
  ·exact zFh (zSk h) (zLa g ls _ (by rw [zIu, h]; simp))
  ·exact zLs g ls _ x hx h
section
variable (alw : Nat -> List Nat -> Bool) (las : Mor -> Bool) (fs : List Flt) (kiln : Nat) (days : List Nat)
inductive Pth : Nat -> Mor -> List (List Nat) -> Nat -> Nat -> Prop
 | last {m : Mor} : las m = true -> Pth 0 m [] 0 0
 | day {n : Nat} {m m1 : Mor} {acts : List Nat} {p : List (List Nat)} {f w : Nat} : acts ∈ exts [] fs.length -> alw (days.length - (n + 1)) acts = true -> dayE fs kiln m acts (days.getD (days.length - (n + 1)) 0) = (0, m1) -> Pth n m1 p f w -> Pth (n + 1) m (acts :: p) (f + spF acts) (w + spW acts)
end
section
variable {alw : Nat -> List Nat -> Bool} {las : Mor -> Bool} {fs : List Flt} {kiln : Nat} {days : List Nat}
theorem zUs {rec : Mor -> Oc} {d : Nat} {m : Mor} {l : List Nat} (h : (stpO alw fs kiln days rec d m l).is = true) :
  alw d l = true ∧ ∃ m1, dayE fs kiln m l (days.getD d 0) = (0, m1) ∧ (rec m1).is = true ∧ stpO alw fs kiln days rec d m l = ⟨(rec m1).f + spF l, (rec m1).w + spW l, true⟩ := by
 unfold stpO at h ⊢
 split at h
 ·cases h
 ·rename_i h1
  split at h
  ·cases h
  ·rename_i h2
   rw [if_neg h1, if_neg h2]
   refine ⟨by simpa using h1, _, Prod.ext (by simpa using h2) rfl, h, ?_⟩
   dsimp only at h
   rw [h]
theorem zWf {rec : Mor -> Oc} {d : Nat} {m m1 : Mor} {l : List Nat} (h1 : alw d l = true) (h2 : dayE fs kiln m l (days.getD d 0) = (0, m1)) : stpO alw fs kiln days rec d m l = ⟨(rec m1).f + spF l, (rec m1).w + spW l, (rec m1).is⟩ := by
 unfold stpO
 rw [if_neg (by simp [h1]), if_neg (by rw [h2]; simp), h2]
theorem zK1 : ∀ (n : Nat) (m : Mor), (bstO alw las fs kiln days n m).is = true -> ∃ p, Pth alw las fs kiln days n m p (bstO alw las fs kiln days n m).f (bstO alw las fs kiln days n m).w
 | 0, m, h => ⟨[], .last h⟩
 | n + 1, m, h => by
  rcases zJd (fun l => stpO alw fs kiln days (bstO alw las fs kiln days n) (days.length - (n + 1)) m l) (exts [] fs.length) noOc with e | ⟨l, hl, h1, e⟩
  ·have e' : bstO alw las fs kiln days (n + 1) m = noOc := e
   rw [e'] at h
   cases h
  ·have e' : bstO alw las fs kiln days (n + 1) m = stpO alw fs kiln days (bstO alw las fs kiln days n) (days.length - (n + 1)) m l := e
   obtain ⟨h2, m1, h3, h4, h5⟩ := zUs h1
   rw [e', h5]
   obtain ⟨p, hp⟩ := zK1 n m1 h4
   exact ⟨l :: p, .day hl h2 h3 hp⟩
theorem zQp {n : Nat} {m : Mor} {p : List (List Nat)} {f w : Nat} (h : Pth alw las fs kiln days n m p f w) : (bstO alw las fs kiln days n m).is = true ∧ cless f w (bstO alw las fs kiln days n m).f (bstO alw las fs kiln days n m).w = false := by
 induction h with
 | last h => exact ⟨h, zD9 ..⟩
 | @day n m m1 acts p f w h1 h2 h3 h4 ih =>
  obtain ⟨i1, i2⟩ := ih
  have e := zWf (rec := bstO alw las fs kiln days n) h2 h3
  have his : (stpO alw fs kiln days (bstO alw las fs kiln days n) (days.length - (n + 1)) m acts).is = true := by rw [e]; exact i1
  constructor
  ·show ((exts [] fs.length).foldl (fun o l => lst2 o (stpO alw fs kiln days (bstO alw las fs kiln days n) (days.length - (n + 1)) m l)) noOc).is = true
   rw [zJc, List.any_eq_true.2 ⟨acts, h1, his⟩, Bool.or_true]
  ·refine zFh ?_ (zLs (fun l => stpO alw fs kiln days (bstO alw las fs kiln days n) (days.length - (n + 1)) m l) (exts [] fs.length) noOc acts h1 his)
   rw [e]
   dsimp only
   rw [zVj]
   exact i2
def Wy (fs : List Flt) (kiln : Nat) : List Nat -> Mor -> Mor -> Prop
 | [], m, x => x = m
 | d :: ds, m, x => ∃ acts ∈ exts [] fs.length, ∃ m1, dayE fs kiln m acts d = (0, m1) ∧ Wy fs kiln ds m1 x
theorem zIy : ∀ (ds : List Nat) (S : Mor -> Prop) (x : Mor), ds.foldl (stp fs kiln) S x ↔ ∃ m, S m ∧ Wy fs kiln ds m x
 | [], S, x => ⟨fun h => ⟨x, h, rfl⟩, by rintro ⟨m, h, rfl⟩; exact h⟩
 | d :: ds, S, x => by
  rw [List.foldl_cons, zIy ds]
  constructor
  ·rintro ⟨m1, ⟨m, hm, acts, ha, h1⟩, h2⟩
   exact ⟨m, hm, acts, ha, m1, h1, h2⟩
  ·rintro ⟨m, hm, acts, ha, m1, h1, h2⟩
   exact ⟨m1, ⟨m, hm, acts, ha, h1⟩, h2⟩
theorem zZr {x : Mor} : Rch fs kiln days x ↔ Wy fs kiln days (start fs) x := by
 unfold Rch
 rw [zIy]
 constructor
 ·rintro ⟨m, rfl, h⟩; exact h
 ·intro h; exact ⟨_, rfl, h⟩
theorem zJ4 {n : Nat} (h : n + 1 <= days.length) : days.drop (days.length - (n + 1)) = days.getD (days.length - (n + 1)) 0 :: days.drop (days.length - n) := by
 rw [List.drop_eq_getElem_cons om, List.getD_eq_getElem?_getD, List.getElem?_eq_getElem om, show days.length - (n + 1) + 1 = days.length - n from by omega]
 rfl
theorem zL7 : ∀ (n : Nat), n <= days.length -> ∀ (m : Mor), (∃ p f w, Pth (fun _ _ => true) las fs kiln days n m p f w) ↔ ∃ x, Wy fs kiln (days.drop (days.length - n)) m x ∧ las x = true
 | 0, _, m => by
  rw [Nat.sub_zero, List.drop_length]
  constructor
  ·rintro ⟨p, f, w, h⟩
   cases h
   rename_i h
   exact ⟨m, rfl, h⟩
  ·rintro ⟨x, rfl, h⟩
   exact ⟨_, _, _, .last h⟩
 | n + 1, hn, m => by
  rw [zJ4 hn]
  constructor
  ·rintro ⟨p, f, w, h⟩
   cases h
   rename_i m1 acts p f w h1 h2 h4 h3
   obtain ⟨x, hx, hl⟩ := (zL7 n om m1).1 ⟨_, _, _, h4⟩
   exact ⟨x, ⟨acts, h1, m1, h3, hx⟩, hl⟩
  ·rintro ⟨x, ⟨acts, h1, m1, h3, hx⟩, hl⟩
   obtain ⟨p, f, w, h4⟩ := (zL7 n om m1).2 ⟨x, hx, hl⟩
   exact ⟨_, _, _, .day h1 rfl h3 h4⟩
theorem zP8 : (bstO (fun _ _ => true) las fs kiln days days.length (start fs)).is = true ↔ ∃ x, Rch fs kiln days x ∧ las x = true := by
 have h := zL7 (las := las) (fs := fs) (kiln := kiln) (days := days) days.length (Nat.le_refl _) (start fs)
 rw [Nat.sub_self, List.drop_zero] at h
 constructor
 ·intro hb
  obtain ⟨p, hp⟩ := zK1 _ _ hb
  obtain ⟨x, h1, h2⟩ := h.1 ⟨_, _, _, hp⟩
  exact ⟨x, zZr.2 h1, h2⟩
 ·rintro ⟨x, h1, h2⟩
  obtain ⟨p, f, w, hp⟩ := h.2 ⟨x, zZr.1 h1, h2⟩
  exact (zQp hp).1
theorem zVg : (bstA fs kiln days).is = true ↔ ∃ x, Rch fs kiln days x := by
 unfold bstA
 rw [zP8]
 simp
end
theorem Grew.less {w w' : World} {rs : List Res} (h : Grew w w' rs) : Grew w w' [] := ⟨h.1, fun _ h => by simp at h, by simp⟩
theorem zUy (x : Flt) : x.cells.length = 4 := rfl
theorem zU4 (x : Flt) : ∀ u ∈ x.cells, u.oneCell' = true := by
 intro u hu
 simp [Flt.cells] at hu
 rcases hu with h | h | h | h <;> subst h <;> simp [Value.oneCell']
theorem zPk (x : Nat) : ∀ u ∈ ncell x, u.oneCell' = true := by
 intro u hu
 simp [ncell] at hu
 subst hu
 simp [Value.oneCell']
def oF (o : Oc) : Nat := if o.is then o.f else 0
def oE (o : Oc) : Nat := if o.is then 0 else 11
section
variable [I : Sys] {C : Ctx} {fr : List (Nat × Value)} {hp : List Res} {a : Act} {w : World}
theorem zRk (ha : At C fr hp a w) {A : Option Addr} {fs : List Flt} {n c : Nat} {xs : List Value} (hr : Res.row 49 4 A n c xs ∈ hp) : Lendy w A fs ∨ n = 0 := by
 have h := ha.own _ hr
 rcases h.2 with ⟨_, h2⟩ | ⟨g, cap, cur, hv, h1, h2, h3, _, h5, _⟩
 ·exact .inr h2
 ·rcases Nat.eq_zero_or_pos n with h0 | h0
  ·exact .inr h0
  ·injection hv with e1 _ _
   exact .inl fun _ => ⟨g, 0, none, _, _, e1, h2, by omega⟩
theorem zUj (ha : At C fr hp a w) {A : Option Addr} {fs : List Flt} {n c : Nat} {xs : List Value} (hn : 0 < n) [hr : InR A 49 4 n c xs hp] : Lendy w A fs := (zRk ha hr.mem).resolve_right (by omega)
theorem zUw (ha : At C fr hp a w) {A : Option Addr} {e size n c : Nat} {xs : List Value} [hr : InR A e size n c xs hp] : n <= c := by
 rcases (ha.own _ hr.mem).2 with ⟨h1, h2⟩ | ⟨g, cap, cur, hv, h1, h2, h3, _, h5, _⟩
 ·omega
 ·injection hv with _ _ e3
  omega
theorem wE (ha : At C fr hp a w) {A : Option Addr} {c n : Nat} {l : List Nat} [hr : InR A 3 1 n c (ints l) hp] (hn : n = l.length) : RdL ncell 1 w A l :=
 qX ha (cells := ncell) (size := 1) (e := 3) (c := c) (n := n) (l := l) (fun _ => rfl) (by rw [<- zCu]; exact hr.mem) hn
theorem zCi (ha : At C fr hp a w) {A : Option Addr} {c n : Nat} {l : List Flt} [hr : InR A 49 4 n c (l.flatMap Flt.cells) hp] (hn : n = l.length) : RdL Flt.cells 4 w A l :=
 qX ha (cells := Flt.cells) (size := 4) (e := 49) (c := c) (n := n) (l := l) (fun _ => rfl) hr.mem hn
theorem zLy {l : List Oper} {ops : Array Oper} {Q : Exit -> Act -> World -> Prop} (A : Option Addr) {e size n c : Nat} {xs : List Value} [hr : InR A e size n c xs hp] (k : n <= c -> Lst C ops Q l fr hp) : Lst C ops Q l fr hp := fun a w ha => k (zUw (A := A) ha) a w ha
theorem zJt {fA dA : Option Addr} {fc dc kiln : Nat} {fs : List Flt} {days : List Nat} (hc : ChV fs kiln days) (w : World) (hF : RdL Flt.cells 4 w fA fs) (hD : RdL ncell 1 w dA days) :
  Calls Try.prog 15 #[.agg (CA fA fs.length fc kiln dA days.length dc).toArray] w fun e w' => ∃ (oA : Option Addr) (on oc : Nat), e = .returned (.tuple #[.slice oA on oc, .int .i64 ((oF (bstA fs kiln days) : Nat) : Int), .int .i64 ((oE (bstA fs kiln days) : Nat) : Int)]) ∧ Grew w w' [] := by
 refine (zLk hc w hF hD).mono ?_
 rintro e w' ⟨oA, oc, mr, hcase, hg⟩
 rcases hcase with ⟨h1, _, h3⟩ | ⟨h1, _, h3⟩
 ·exact ⟨oA, mr.length, oc, by rw [h3]; simp [oF, oE, h1], hg.less⟩
 ·exact ⟨none, 0, 0, by rw [h3]; simp [oF, oE, h1], hg.less⟩
end
theorem ChV.take {fs : List Flt} {kiln k : Nat} {days : List Nat} (h : ChV fs kiln days) (hk : 1 <= k) : ChV fs kiln (days.take k) :=
 ⟨h.f1, h.f3, h.ff, h.k3, by have := h.d1; rw [List.length_take]; omega, by have := h.d4; rw [List.length_take]; omega, fun n hn => h.dd n (List.mem_of_mem_take hn)⟩
theorem zPj {fs : List Flt} {kiln : Nat} {days : List Nat} {j k : Nat} (hjk : j <= k) (h : ∃ m, Rch fs kiln (days.take k) m) : ∃ m, Rch fs kiln (days.take j) m := by
 obtain ⟨m, hm⟩ := h
 rw [show days.take k = days.take j ++ (days.take k).drop j from by rw [show days.take j = (days.take k).take j from by rw [List.take_take, Nat.min_eq_left hjk], List.take_append_drop]] at hm
 unfold Rch at hm
 rw [List.foldl_append, zIy] at hm
 obtain ⟨x, hx, _⟩ := hm
 exact ⟨x, hx⟩
end Go.Proofs.Yteppiphdbondeaa.N
namespace Go.Proofs.Yteppiphdbondeaa.N
open Go Go.RowKit Go.Proofs
set_option linter.unusedSectionVars false
variable [I : Sys]
theorem F.ent57 : Enters Try.prog 57 := jC Try.func57 rfl (by kernel_rfl)
theorem zRu {α : Type} {cells : α -> List Value} (hs : ∀ x, (cells x).length = 1) (ho : ∀ x, ∀ u ∈ cells x, u.oneCell' = true) (p : Addr) (c : Nat) (l : List α) (hl : l.length <= 400000) (w : World) (hA : RdL cells 1 w (some p) l) : Calls Try.prog 57 #[.slice (some p) l.length c] w fun e w' => ∃ A' c', e = .returned (.slice A' l.length c') ∧ Grew w w' [.row 3 1 A' l.length c' (l.flatMap cells)] := by
 refine enter (N := 6) [(0, .slice (some p) l.length c)] Try.func57 rfl Try.ntmps57 rfl rfl ?_
 refine zD (zB (zE rfl rfl (zA (zC (zD (zB (zCc rfl Try.underlying22 F.ti3 ?_)))))))
 intro b3
 refine zAf 1 (.head _) ?_
 refine zF rfl rfl (yU (cells := cells) rfl rfl rfl Try.underlying22 F.ti3 rfl rfl hs ho (fun a w ha => hA.later ha.below) rfl (by unfold maxLen; omega) om ?_)
 intro A1 c1
 refine zE rfl rfl (zA (zC (zU ?_)))
 simp only [Nat.zero_add, List.nil_append]
 exact jE rfl (fun a w ha => jO rfl rfl ha) (fun a w ha => ⟨A1, c1, rfl, ha.grown sbl⟩)

theorem zQu {α β : Type} {cf : α -> List Value} {cd : β -> List Value} (hs4 : ∀ x, (cf x).length = 4) (ho4 : ∀ x, ∀ u ∈ cf x, u.oneCell' = true) (hs1 : ∀ x, (cd x).length = 1) (ho1 : ∀ x, ∀ u ∈ cd x, u.oneCell' = true) (fp dp : Addr) (fc dc : Nat) (kz : Int) (fs : List α) (days : List β) (hfl : fs.length <= 400000) (hdl : days.length <= 400000) (w : World) (hF : RdL cf 4 w (some fp) fs) (hD : RdL cd 1 w (some dp) days) : Calls Try.prog 24 #[.agg [.slice (some fp) fs.length fc, .int .i64 kz, .slice (some dp) days.length dc].toArray] w fun e w' => ∃ A c D dc', e = .returned (.agg [.slice A fs.length c, .int .i64 kz, .slice D days.length dc'].toArray) ∧ Grew w w' [.row 49 4 A fs.length c (fs.flatMap cf), .row 3 1 D days.length dc' (days.flatMap cd)] := by
 refine enter (N := 13) [(0, .agg [.slice (some fp) fs.length fc, .int .i64 kz, .slice (some dp) days.length dc].toArray)] Try.func24 rfl Try.ntmps24 rfl rfl ?_
 refine zD (zB (jQ rfl rfl ?_))
 intro b1
 refine zV rfl F.ti27 ?_
 intro b2
 refine zA (zC (zD (kF [.b b2] F.follows 11 rfl [false, false, false, false, false, false, false, false, false, false, false] rfl ?_)))
 refine zG 1 rfl rfl rfl (zY rfl F.fi27_0 F.ti25) ?_
 refine zG 2 rfl rfl rfl (jW rfl F.one25) ?_
 refine zG 4 rfl rfl rfl (zY rfl F.fi27_1 F.ti3) ?_
 refine zG 5 rfl rfl rfl (jW rfl F.one3) ?_
 refine zG 6 rfl rfl rfl (zY rfl F.fi27_2 F.ti22) ?_
 refine zG 7 rfl rfl rfl (jW rfl F.one22) ?_
 refine an1 0 rfl ?_
 refine zCc rfl Try.underlying25 F.ti49 ?_
 intro b3
 refine zAf 4 (.head _) ?_
 refine zA (anb (an1 3 rfl ?_))
 refine yU (cells := cf) rfl rfl rfl Try.underlying25 F.ti49 rfl rfl hs4 ho4 (fun a w ha => hF.later ha.below) rfl (by unfold maxLen; omega) om ?_
 intro A2 c2
 simp only [Nat.zero_add, List.nil_append]
 refine zA (anb (an1 8 rfl ?_))
 refine kQ (X := Option Addr × Nat) (vs := [_]) (p := fun _ => True) (val := fun y => .slice y.1 days.length y.2) (rs := fun y => [.row 3 1 y.1 days.length y.2 (days.flatMap cd)]) rfl rfl F.ent57 (fun a w ha => (zRu hs1 ho1 dp dc days hdl w (hD.later ha.below)).mono (fun e w' h => by obtain ⟨A', c', h1, h2⟩ := h; exact ⟨(A', c'), trivial, h1, h2⟩)) ?_
 rintro ⟨A3, c3⟩ -
 dsimp only [List.cons_append, List.nil_append]
 refine zA (anb (zG 9 rfl rfl rfl (xN (vs := [(0, _), (1, _), (2, _)]) (l' := [_, _, _]) rfl F.ti27 F.pl27 (.cons rfl rfl (.cons rfl rfl (.cons rfl rfl (.nil _)))) rfl) ?_))
 refine an1 10 rfl ?_
 refine zI rfl rfl F.ti27 rfl ?_
 refine zA (anb (adn (zC (zU ?_))))
 exact jE rfl (fun a w ha => by exact qH (ha := ha) rfl rfl F.agg27 F.ti27 rfl) (fun a w ha => ⟨A2, c2, A3, c3, rfl, (ha.pck pkk).grown (List.Sublist.refl _)⟩)

theorem zR6 {fA dA : Option Addr} {fc dc kiln : Nat} {fs : List Flt} {days : List Nat} (hf1 : 1 <= fs.length) (hf3 : fs.length <= 1000) (hd1 : 1 <= days.length) (hd4 : days.length <= 1000) (w : World) (hF : RdL Flt.cells 4 w fA fs) (hD : RdL ncell 1 w dA days) :
  Calls Try.prog 24 #[.agg (CA fA fs.length fc kiln dA days.length dc).toArray] w fun e w' => ∃ A c D dc', e = .returned (.agg [.slice A fs.length c, .int .i64 (kiln : Int), .slice D days.length dc'].toArray) ∧ Grew w w' [.row 49 4 A fs.length c (fs.flatMap Flt.cells), .row 3 1 D days.length dc' (ints days)] := by
 obtain ⟨fb, fo, rfl, _, _⟩ := hF om
 obtain ⟨db, d_o, rfl, _, _⟩ := hD om
 have h := zQu zUy zU4 (fun _ => rfl) zPk ⟨fb, fo, none⟩ ⟨db, d_o, none⟩ fc dc (kiln : Int) fs days om om w hF hD
 rw [<- zCu] at h
 exact h

theorem zUq {fA dA : Option Addr} {fc dc kiln : Nat} {fs : List Flt} {days : List Nat} (hc : ChV fs kiln days) (w : World) (hF : RdL Flt.cells 4 w fA fs) (hD : RdL ncell 1 w dA days) : Calls Try.prog 25 #[.agg (CA fA fs.length fc kiln dA days.length dc).toArray] w fun e w' => e = .returned (.tuple #[.bool (bstA fs kiln days).is, .bool true]) ∧ Grew w w' [] := by
 refine enter (N := 21) [(0, .agg (CA fA fs.length fc kiln dA days.length dc).toArray)] Try.func25 rfl Try.ntmps25 rfl rfl ?_
 refine zD (zB (jQ rfl rfl ?_))
 intro b1
 refine zE rfl rfl (zE rfl rfl (zA (zC (zD ?_))))
 rcases his : (bstA fs kiln days).is with _ | _
 ·refine zB (jA rfl rfl F.agg27 F.ti27 ?_)
  refine kQ (X := Option Addr × Nat × Nat) (vs := [_]) (p := fun _ => True) (val := fun g => .tuple #[.slice g.1 g.2.1 g.2.2, .int .i64 ((oF (bstA fs kiln days) : Nat) : Int), .int .i64 ((oE (bstA fs kiln days) : Nat) : Int)]) (rs := fun g => []) rfl rfl F.ent15 (fun a w ha => (zJt hc w (hF.later ha.below) (hD.later ha.below)).mono (fun e w' h => by obtain ⟨oA, on, oc, h1, h2⟩ := h; exact ⟨(oA, on, oc), trivial, h1, h2⟩)) ?_
  rintro ⟨oA, on, oc⟩ -
  dsimp only [List.nil_append]
  rw [show oE (bstA fs kiln days) = 11 from by simp [oE, his]]
  refine zF rfl rfl (zP rfl rfl rfl (zP rfl rfl rfl (zP rfl rfl rfl (zE rfl rfl (zE rfl rfl (zE rfl rfl (zA (zC (zD (zB (zF rfl rfl (zJ rfl rfl rfl jV ?_))))))))))))
  refine zF rfl rfl (zJ rfl rfl rfl jV ?_)
  refine zF rfl rfl (zM rfl rfl (zF rfl rfl (zM rfl rfl (zJ rfl rfl rfl jV ?_))))
  refine jM rfl rfl rfl (zE rfl rfl (zE rfl rfl (zA (zC (zU ?_)))))
  exact jE rfl (fun a w ha => qW rfl rfl rfl ha) (fun a w ha => ⟨by rfl, ha.grown nsl⟩)
 ·refine zB (jA rfl rfl F.agg27 F.ti27 ?_)
  refine kQ (X := Option Addr × Nat × Nat) (vs := [_]) (p := fun _ => True) (val := fun g => .tuple #[.slice g.1 g.2.1 g.2.2, .int .i64 ((oF (bstA fs kiln days) : Nat) : Int), .int .i64 ((oE (bstA fs kiln days) : Nat) : Int)]) (rs := fun g => []) rfl rfl F.ent15 (fun a w ha => (zJt hc w (hF.later ha.below) (hD.later ha.below)).mono (fun e w' h => by obtain ⟨oA, on, oc, h1, h2⟩ := h; exact ⟨(oA, on, oc), trivial, h1, h2⟩)) ?_
  rintro ⟨oA, on, oc⟩ -
  dsimp only [List.nil_append]
  rw [show oE (bstA fs kiln days) = 0 from by simp [oE, his]]
  refine zF rfl rfl (zP rfl rfl rfl (zP rfl rfl rfl (zP rfl rfl rfl (zE rfl rfl (zE rfl rfl (zE rfl rfl (zA (zC (zD (zB (zF rfl rfl (zJ rfl rfl rfl jV ?_))))))))))))
  refine zF rfl rfl (zJ rfl rfl rfl jV ?_)
  refine zF rfl rfl (jD rfl rfl rfl (jD rfl rfl rfl (jG rfl rfl rfl (zE rfl rfl (zE rfl rfl (zA (zC (zU ?_))))))))
  exact jE rfl (fun a w ha => qW rfl rfl rfl ha) (fun a w ha => ⟨by rfl, ha.grown nsl⟩)

theorem F.ent13 : Enters Try.prog 13 := jC Try.func13 rfl (by kernel_rfl)
theorem F.ent20 : Enters Try.prog 20 := jC Try.func20 rfl (by kernel_rfl)
theorem F.ent22 : Enters Try.prog 22 := jC Try.func22 rfl (by kernel_rfl)
theorem F.ent24 : Enters Try.prog 24 := jC Try.func24 rfl (by kernel_rfl)
theorem F.ent25 : Enters Try.prog 25 := jC Try.func25 rfl (by kernel_rfl)
end Go.Proofs.Yteppiphdbondeaa.N
namespace Go.Proofs.Yteppiphdbondeaa.N
open Go Go.RowKit Go.Proofs
set_option linter.unusedSectionVars false
theorem zMn (l : List Nat) (j v : Nat) : (ints l).set j (.int .i64 (v : Int)) = ints (l.set j v) := by
 unfold ints
 rw [List.map_set]
section
variable [I : Sys] {C : Ctx} {fr : List (Nat × Value)} {hp hp' : List Res} {a : Act} {w : World} {ops : Array Oper} {Q : Exit -> Act -> World -> Prop} {rest : List Oper} {d : Nat} {ty : TypeId} {pos : String} {after : Array Edge}
theorem zEl {x y : Operand} {t e : TypeId} {A : Option Addr} {g o size n c m : Nat} {xs : List Value} (xs' : List Value) {v z : Value} (hx : ev fr x = some (.pointer (some ⟨g, o, none⟩))) (hy : ev fr y = some v) (hi : TI C.P t z 1 m) [hc : Cells v [v]]
  (hA : A = some ⟨g, 0, none⟩) (ho : o < xs.length) (hxs : xs.set o v = xs') [hr : InR A e size n c xs hp] [hu : UpR A e size n c xs (.row e size A n c xs') hp hp']
  (k : Lst C ops Q rest fr hp') : Lst C ops Q (⟨none, .store t x y, ty, pos, after, none⟩ :: rest) fr hp := by
 obtain ⟨i, hi, _, hsz, _⟩ := hi
 refine zD8 (fun _ _ _ => zCj ..) (fun a w ha => ?_) k
 have hown := ha.own _ hr.mem
 obtain ⟨hlen, hcase⟩ := hown
 rcases hcase with ⟨h1, _⟩ | ⟨g', cap, cur, hv, hB, hheap, hle, hmax, hcs, htake⟩
 ·injection h1 with e1
  rw [hA] at e1
  cases e1
 ·injection hv with e1 e2 e3
  rw [hA] at e1
  injection e1 with e1
  injection e1 with e1
  subst e1; subst e3
  have hlen' : o < cur.toList.length := by
   have h9 : n * size <= c * size := Nat.mul_le_mul_right _ hle
   simp only [Array.length_toList]
   omega
  have hs : Splice cur.toList o [v] (cur.toList.set o v) := ⟨by rw [List.set_eq_take_append_cons_drop, if_pos hlen', List.append_assoc]; rfl, by simp at hlen' ⊢; omega⟩
  obtain ⟨w', h1, h2, h3⟩ := zD3 hs (by simpa using hheap) hc.one C.P
  refine ⟨w', ?_, ha.turn hu.upd (by rw [hA]; exact h3) ⟨by rw [<- hxs, List.length_set]; exact hlen, .inr ⟨g, c, (cur.toList.set o v).toArray, by rw [hA], hB, h2, hle, hmax, by simp [hcs], ?_⟩⟩ (fun k hk => .inl hk)⟩
  ·simp [execOp, ha.eval hx, ha.eval hy, Instr.storeAt, Instr.sureAddr, storeVar, sizeOf, typeInfo, hi, hc.eq, hsz, h1]
  ·rw [<- hxs, <- htake, List.take_set]
theorem zQk {x : Operand} {f : FuncId} {first cap vs : List Value} {args : Array Operand} {ts : Array TypeId} {v : Value} (hd : Nat.blt d C.N = true)
  (hx : ev fr x = some (.func (.func f) first.toArray cap.toArray)) (hargs : args.toList.map (ev fr) = vs.map some) (hf : Enters C.P f)
  (hc : ∀ a w, At C fr hp a w -> Calls C.P f (first ++ vs ++ cap).toArray w fun e w' => e = .returned v ∧ Grew w w' [])
  (k : Lst C ops Q rest ((d, v) :: fr) hp) : Lst C ops Q (⟨some d, .call { callee := .value x, args := args, argTypes := ts }, ty, pos, after, none⟩ :: rest) fr hp :=
 qK (X := Unit) (p := fun _ => True) (val := fun _ => v) (rs := fun _ => hp) hd hx hargs hf (fun a w ha => (hc a w ha).mono fun _ _ ⟨h1, h2⟩ => ⟨(), trivial, h1, ha.more h2⟩) (fun _ _ => k)
theorem zOx {l : List Oper} (A : Option Addr) {e size n c : Nat} {xs : List Value} [hr : InR A e size n c xs hp] (hn : 0 < n) (k : ∀ g, A = some ⟨g, 0, none⟩ -> Lst C ops Q l fr hp) : Lst C ops Q l fr hp := fun a w ha => by
 obtain ⟨g, hg⟩ := zCe (ha.own _ hr.mem) hn
 exact k g hg a w ha
end
section
variable {α : Type} {P : Program} {kt : TypeId} (K : KT P kt α)
variable [I : Sys] {C : Ctx} {fr : List (Nat × Value)} {hp : List Res} {ops : Array Oper} {Q : Exit -> Act -> World -> Prop} {rest : List Oper} {d : Nat} {ty : TypeId} {pos : String} {after : Array Edge}
theorem zLw {x : Operand} {b i n : Nat} {seen : Array Nat} {r : List (Nat × α × Value)} {hpf : Obj -> List Res} (hd : Nat.blt d C.N = true) (hx : ev fr x = some (.pointer (some ⟨i, 0, none⟩))) (hb : Res.blk b (K.rem r n) ∈ hp) (hG : K.Good r n)
  (hu : ∀ o, Upd (.blk i (.mapIter (some b) n seen n)) (.blk i o) hp (hpf o))
  (k0 : (∀ e ∈ r, e.1 ∈ seen) -> Lst C ops Q rest ((d, .tuple #[.bool false]) :: fr) hp)
  (k1 : ∀ e ∈ r, e.1 ∉ seen -> Lst C ops Q rest ((d, .tuple #[.bool true, K.kv e.2.1, e.2.2]) :: fr) (hpf (.mapIter (some b) n (seen.push e.1) n))) : Lst C ops Q (⟨some d, .next x false, ty, pos, after, none⟩ :: rest) fr hp := by
 refine xE rfl fun a w ha => ?_
 refine ⟨kD _ (by rw [ha.eval hx]; exact zHl _ _), ?_⟩
 have hi := ha.own _ (hu (.map #[] 0)).mem
 have hold : ∀ x ∈ ((r.map K.ent).toArray).toList, x.born < n := by
  intro x hx
  simp only [List.mem_map] at hx
  obtain ⟨e, he, rfl⟩ := hx
  exact hG.less e he
 have hmem : ∀ x, x ∈ Go.leftOf (r.map K.ent).toArray seen ↔ ∃ e ∈ r, e.1 ∉ seen ∧ x = K.ent e := by
  intro x
  unfold Go.leftOf
  rw [Array.mem_filter]
  simp only [List.mem_toArray, List.mem_map]
  constructor
  ·rintro ⟨⟨e, he, rfl⟩, h⟩
   exact ⟨e, he, by simpa [KT.ent] using h, rfl⟩
  ·rintro ⟨e, he, h, rfl⟩
   exact ⟨⟨e, he, rfl⟩, by simpa [KT.ent] using h⟩
 rcases run_next_at (P := C.P) w ty i b n n seen (r.map K.ent).toArray n hi.2 (ha.mem_blk hb) hold (Nat.le_refl _) with ⟨h1, h2⟩ | ⟨e, he, w1, hw1, h2⟩
 ·have hr : (execOp a.eval ⟨some d, .next x false, ty, pos, after, none⟩).run C.P w = .ok (.value (.tuple #[.bool false])) w := by
   simp only [execOp, ha.eval hx, Sem.run_bind, h2]
   rfl
  rw [hr]
  refine k0 (fun e he => ?_) _ _ (ha.put (jY hd) _)
  by_cases hs : e.1 ∈ seen
  ·exact hs
  ·have := (hmem (K.ent e)).2 ⟨e, he, hs, rfl⟩
   rw [Array.eq_empty_of_size_eq_zero h1] at this
   simp at this
 ·obtain ⟨e', her, hne, rfl⟩ := (hmem e).1 (by simpa using he)
  have hr : (execOp a.eval ⟨some d, .next x false, ty, pos, after, none⟩).run C.P w = .ok (.value (.tuple #[.bool true, K.kv e'.2.1, e'.2.2])) (ChangeMaps.setBlock w1 i (.mapIter (some b) n (seen.push e'.1) n)) := by
   simp only [execOp, ha.eval hx, Sem.run_bind, h2]
   rfl
  rw [hr]
  have ha1 : At C fr hp a w1 := by
   rcases hw1 with rfl | rfl
   ·exact ha
   ·exact ha.drew
  have hi1 := ha1.own _ (hu (.map #[] 0)).mem
  have hlt : i < w1.heap.size := (Array.getElem?_eq_some_iff.1 hi1.2).1
  have ha2 : At C fr (hpf (.mapIter (some b) n (seen.push e'.1) n)) a (ChangeMaps.setBlock w1 i (.mapIter (some b) n (seen.push e'.1) n)) := by
   refine ha1.turn (hu _) ⟨rfl, rfl, rfl, by simp [ChangeMaps.setBlock], fun k _ hk => ?_⟩ ⟨hi1.1, ?_⟩ (fun k hk => .inl hk)
   ·simp only [ChangeMaps.setBlock, Array.getElem?_setIfInBounds]
    rw [if_neg (fun e => hk (by rw [e]; rfl))]
   ·simp [ChangeMaps.setBlock, hlt]
  exact k1 e' her hne _ _ (ha2.put (jY hd) _)
end
def sumM (m : Mor) : Nat := m.s.getD 0 0 + m.s.getD 1 0 + m.s.getD 2 0
structure MsI (l : List Mor) (r : List (Nat × Mor × Value)) (seen : Array Nat) (best : Int) : Prop where
 got : best = -1 ∧ seen = #[] ∨ ∃ m ∈ l, best = (sumM m : Int)
 le : ∀ e ∈ r, e.1 ∈ seen -> (sumM e.2.1 : Int) <= best
def leftN (r : List (Nat × Mor × Value)) (seen : Array Nat) : Nat := r.countP fun e => !seen.contains e.1
theorem zSj {r : List (Nat × Mor × Value)} {seen : Array Nat} {e : Nat × Mor × Value} (he : e ∈ r) (hn : e.1 ∉ seen) : leftN r (seen.push e.1) < leftN r seen := by
 unfold leftN
 induction r with
 | nil => cases he
 | cons x r ih =>
  simp only [List.countP_cons]
  have hle : ∀ (r : List (Nat × Mor × Value)), r.countP (fun y => !(seen.push e.1).contains y.1) <= r.countP (fun y => !seen.contains y.1) := fun r => List.countP_mono_left (fun y _ h => by simp at h ⊢; exact h.1)
  rcases List.mem_cons.1 he with rfl | he
  ·have h1 : (!(seen.push e.1).contains e.1) = false := by simp
   have h2 : (!seen.contains e.1) = true := by simpa using hn
   rw [h1, h2]
   have h5 := hle r
   simp only [Bool.false_eq_true, if_false, if_true]
   omega
  ·have := ih he
   have h3 : ((if (!(seen.push e.1).contains x.1) = true then 1 else 0 : Nat)) <= (if (!seen.contains x.1) = true then 1 else 0) := by
    by_cases h4 : (!(seen.push e.1).contains x.1) = true
    ·have h5 : (!seen.contains x.1) = true := by simp at h4 ⊢; exact h4.1
     rw [if_pos h4, if_pos h5]; omega
    ·rw [if_neg h4]; omega
   omega
theorem MsI.first (l : List Mor) (r : List (Nat × Mor × Value)) : MsI l r #[] (-1) := ⟨.inl ⟨rfl, rfl⟩, fun _ _ h => by simp at h⟩
theorem MsI.next {l : List Mor} {r : List (Nat × Mor × Value)} {seen : Array Nat} {best : Int} {e : Nat × Mor × Value} (h : MsI l r seen best) (he : e.2.1 ∈ l) (hd : (r.map (·.1)).Nodup) (her : e ∈ r) : MsI l r (seen.push e.1) (if best < (sumM e.2.1 : Int) then (sumM e.2.1 : Int) else best) := by
 refine ⟨.inr ?_, fun y hy hs => ?_⟩
 ·by_cases hb : best < (sumM e.2.1 : Int)
  ·rw [if_pos hb]; exact ⟨_, he, rfl⟩
  ·rw [if_neg hb]
   rcases h.got with ⟨h1, _⟩ | h1
   ·omega
   ·exact h1
 ·rw [Array.mem_push] at hs
  have hmax : best <= (if best < (sumM e.2.1 : Int) then (sumM e.2.1 : Int) else best) ∧ (sumM e.2.1 : Int) <= (if best < (sumM e.2.1 : Int) then (sumM e.2.1 : Int) else best) := by split <;> omega
  rcases hs with hs | hs
  ·have := h.le y hy hs
   omega
  ·have hye : y = e := by
    have key : ∀ (r : List (Nat × Mor × Value)), (r.map (·.1)).Nodup -> y ∈ r -> e ∈ r -> y.1 = e.1 -> y = e := by
     intro r
     induction r with
     | nil => intro _ h; cases h
     | cons x r ih =>
      intro hn hy he hq
      rw [List.map_cons, List.nodup_cons] at hn
      rcases List.mem_cons.1 hy with h1 | h1
      ·rcases List.mem_cons.1 he with h2 | h2
       ·rw [h1, h2]
       ·exact absurd (List.mem_map.2 ⟨e, h2, by rw [<- hq, h1]⟩) hn.1
      ·rcases List.mem_cons.1 he with h2 | h2
       ·exact absurd (List.mem_map.2 ⟨y, h1, by rw [hq, h2]⟩) hn.1
       ·exact ih hn.2 h1 h2 hq
    exact key r hd hy her hs
   subst hye
   exact hmax.2
def MostP (fs : List Flt) (kiln : Nat) (days : List Nat) (n e : Nat) : Prop := (e = 0 ∧ (∃ m, Rch fs kiln days m ∧ sumM m = n) ∧ ∀ m, Rch fs kiln days m -> sumM m <= n) ∨ (e = 11 ∧ n = 0 ∧ ∀ m, ¬ Rch fs kiln days m)
theorem zWc {m : Mor} (h : MOk m) : sumM m <= 12 := by
 obtain ⟨a, b, c, w, rfl, h1, h2, h3, _⟩ := h.form
 simp [sumM]
 omega
theorem zR9 : exts [] 0 = [[]] := rfl
theorem zT8 (kiln : Nat) (m : Mor) (d : Nat) : dayE [] kiln m [] d = if d = 0 then (0, m) else (9, m) := by
 unfold dayE barred firesN dRun
 simp
 by_cases h : d = 0
 ·simp [h]
 ·rw [if_pos om, if_neg h]
theorem zOg {kiln : Nat} {days : List Nat} {las : Mor -> Bool} : ∀ (n : Nat), n <= days.length -> ∀ m, las m = true -> (bstO (fun _ _ => true) las [] kiln days n m).is = (days.drop (days.length - n)).all (· == 0)
 | 0, _, m, hl => by simp [bstO, hl]
 | n + 1, hn, m, hl => by
  have ih := zOg (las := las) (kiln := kiln) (days := days) n om m hl
  rw [zJ4 (days := days) hn, List.all_cons, <- ih]
  show ((exts [] 0).foldl (fun o l => lst2 o (stpO (fun _ _ => true) [] kiln days (bstO (fun _ _ => true) las [] kiln days n) (days.length - (n + 1)) m l)) noOc).is = _
  rw [zR9, zJc]
  simp only [List.any_cons, List.any_nil, Bool.or_false, noOc, Bool.false_or]
  unfold stpO
  rw [if_neg (by simp), zT8]
  by_cases h : days.getD (days.length - (n + 1)) 0 = 0
  ·rw [if_pos h, if_neg (by simp), h]; simp
  ·rw [if_neg h, if_pos (by simp)]
   have : (days.getD (days.length - (n + 1)) 0 == 0) = false := by simpa using h
   rw [this]; rfl
theorem zK3 {kiln : Nat} {days : List Nat} : (bstA [] kiln days).is = days.all (· == 0) := by
 have h := zOg (kiln := kiln) (las := fun _ => true) (days := days) days.length (Nat.le_refl _) (start []) rfl
 rw [Nat.sub_self, List.drop_zero] at h
 exact h
structure ChW (fs : List Flt) (kiln : Nat) (days : List Nat) : Prop where
 f3 : fs.length <= 3
 ff : ∀ f ∈ fs, FltOk f
 k3 : kiln <= 3
 d1 : 1 <= days.length
 d4 : days.length <= 4
 dd : ∀ n ∈ days, n <= 12
theorem ChV.w {fs : List Flt} {kiln : Nat} {days : List Nat} (h : ChV fs kiln days) : ChW fs kiln days := ⟨h.f3, h.ff, h.k3, h.d1, h.d4, h.dd⟩
def sprN (fs : List Flt) (kiln : Nat) (days : List Nat) (d : Nat) : Nat -> Option Nat
 | 0 => if (bstA fs kiln (days.set d 0)).is then some 0 else none
 | n + 1 => if (bstA fs kiln (days.set d (n + 1))).is then some (n + 1) else sprN fs kiln days d n
theorem zJw {fs : List Flt} {kiln : Nat} {days : List Nat} {d x : Nat} : ∀ {n : Nat}, sprN fs kiln days d n = some x -> x <= n ∧ (bstA fs kiln (days.set d x)).is = true ∧ ∀ y, x < y -> y <= n -> (bstA fs kiln (days.set d y)).is = false
 | 0, h => by
  unfold sprN at h
  split at h
  ·rename_i h1; cases h; exact ⟨Nat.le_refl _, h1, fun y _ _ => by omega⟩
  ·cases h
 | n + 1, h => by
  unfold sprN at h
  split at h
  ·rename_i h1; cases h; exact ⟨Nat.le_refl _, h1, fun y _ _ => by omega⟩
  ·rename_i h1
   obtain ⟨a, b, c⟩ := zJw h
   refine ⟨by omega, b, fun y h2 h3 => ?_⟩
   rcases Nat.lt_or_ge y (n + 1) with h4 | h4
   ·exact c y h2 om
   ·rw [show y = n + 1 from by omega]; simpa using h1
theorem zJ7 {fs : List Flt} {kiln : Nat} {days : List Nat} {d : Nat} : ∀ {n : Nat}, sprN fs kiln days d n = none -> ∀ y, y <= n -> (bstA fs kiln (days.set d y)).is = false
 | 0, h => by
  unfold sprN at h
  split at h
  ·cases h
  ·rename_i h1
   intro y hy
   rw [show y = 0 from by omega]; simpa using h1
 | n + 1, h => by
  unfold sprN at h
  split at h
  ·cases h
  ·rename_i h1
   intro y hy
   rcases Nat.lt_or_ge y (n + 1) with h4 | h4
   ·exact zJ7 h y om
   ·rw [show y = n + 1 from by omega]; simpa using h1
theorem ChV.set {fs : List Flt} {kiln d n : Nat} {days : List Nat} (h : ChV fs kiln days) (hn : n <= 12) : ChV fs kiln (days.set d n) :=
 ⟨h.f1, h.f3, h.ff, h.k3, by rw [List.length_set]; exact h.d1, by rw [List.length_set]; exact h.d4, fun x hx => (List.mem_or_eq_of_mem_set hx).elim (h.dd x) fun e => e ▸ hn⟩
end Go.Proofs.Yteppiphdbondeaa.N
namespace Go.Proofs.Yteppiphdbondeaa.N
open Go Go.RowKit Go.Proofs
set_option linter.unusedSectionVars false
variable [I : Sys]

theorem zQh (a b c k : Nat) (hk : k < 3) : ([a, b, c].take k).sum + [a, b, c].getD k 0 = ([a, b, c].take (k + 1)).sum := by
 rcases k with _ | _ | _ | k
 ·simp
 ·simp
 ·simp; omega
 ·omega
theorem zVa (a b c k : Nat) (ha : a <= 4) (hb : b <= 4) (hc : c <= 4) : ([a, b, c].take k).sum <= 12 := by
 rcases k with _ | _ | _ | k
 ·simp
 ·simp; omega
 ·simp; omega
 ·simp; omega
theorem zTw (a b c w : Nat) : ([a, b, c].take 3).sum = sumM ⟨[a, b, c], w⟩ := by simp [sumM]; omega

theorem zY7 (z0 z1 z2 zw : Nat) (hz0 : z0 <= 4) (hz1 : z1 <= 4) (hz2 : z2 <= 4) (w : World) : Calls Try.prog 81 #[.agg [.int .i64 (z0 : Int), .int .i64 (z1 : Int), .int .i64 (z2 : Int)].toArray] w fun e w' => e = .returned (.int .i64 ((sumM ⟨[z0, z1, z2], zw⟩ : Nat) : Int)) ∧ Grew w w' [] := by
 refine enter (N := 15) [(0, .agg [.int .i64 (z0 : Int), .int .i64 (z1 : Int), .int .i64 (z2 : Int)].toArray)] Try.func81 rfl Try.ntmps81 rfl rfl ?_
 refine zD (zB (jQ rfl rfl ?_))
 intro b1
 refine zE rfl rfl (zA (zC (zD (zB (zE rfl rfl (zA (zC (zD (zD (zB (jA rfl rfl F.agg92 F.ti92 ?_)))))))))))
 refine zF rfl rfl (zA (zC (zZ (vF (G := Nat) (fun k => k <= 3) (fun k => 3 - k) (fun k => [(3, .int .i64 ((([z0, z1, z2].take k).sum : Nat) : Int)), (6, .agg [.int .i64 (z0 : Int), .int .i64 (z1 : Int), .int .i64 (z2 : Int)].toArray), (7, .int .i64 (k : Int))]) (fun k => []) 0 (Nat.zero_le _) sbn pkk ?_))))
 intro k hk
 (try dsimp only at hk ⊢)
 refine zD (zB (zJ rfl rfl rfl kI ?_))
 refine zA (zC (zD (zO rfl (fun hc0 => ?_) (fun hc0 => ?_))))
 ·have hk3 : k < 3 := by omega
  have hs1 := zQh z0 z1 z2 k hk3
  have hs2 := zVa z0 z1 z2 (k + 1) hz0 hz1 hz2
  refine zR (zC (zD (zZ (zD (zB (zE1 (j := k) rfl rfl rfl Try.underlying92 F.one3 F.ti3 rfl hk3 (zHy z0 z1 z2 k hk3) ?_))))))
  refine zE rfl rfl (zA (zC (zB (zF rfl rfl (zF rfl rfl (zJ (v := .int .i64 ((([z0, z1, z2].take (k + 1)).sum : Nat) : Int)) rfl rfl rfl (fun w => jN w (by rw [<- hs1]; rw [zX _ om om]; omega)) ?_))))))
  refine zE rfl rfl (zA (zN (zC (zB (zJ rfl rfl rfl (fun w => jN w (zX _ om om)) ?_)))))
  refine zF rfl rfl (zA (qU (k + 1) om tdo sbn pkk))
 ·obtain rfl : k = 3 := by omega
  refine kC (zS (zS (jH (zC (zD (zB (zF rfl rfl (zE rfl rfl (zA (zC (zU ?_)))))))))))
  exact jE rfl (fun a w ha => jO rfl rfl ha) (fun a w ha => ⟨by rw [zTw z0 z1 z2 zw], ha.grown nsl⟩)

theorem zWj {fA dA : Option Addr} {fc dc kiln : Nat} {fs : List Flt} {days : List Nat} (h : ChW fs kiln days) : (anyS fA dA fc dc kiln fs days).Ok := ⟨h.f3, h.ff, Nat.le_succ_of_le h.d4, h.dd, jC Try.func66 rfl (by kernel_rfl), jC Try.func67 rfl (by kernel_rfl)⟩

set_option maxRecDepth 4000 in
theorem zXe {fA dA : Option Addr} {fc dc kiln : Nat} {fs : List Flt} {days : List Nat} (hc : ChW fs kiln days) (w : World) (hF : RdL Flt.cells 4 w fA fs) (hD : RdL ncell 1 w dA days) : Calls Try.prog 62 #[.agg (CA fA fs.length fc kiln dA days.length dc).toArray] w fun e w' => e = .returned (.bool (bstA fs kiln days).is) ∧ Grew w w' [] := by
 refine enter (N := 32) [(0, .agg (CA fA fs.length fc kiln dA days.length dc).toArray)] Try.func62 rfl Try.ntmps62 rfl rfl ?_
 refine zD (zB (jQ rfl rfl ?_))
 intro b1
 refine zE rfl rfl (zA (zC (zD (zD (zB (zK rfl rfl F.fi27_0 F.ti25 ?_))))))
 refine zQ rfl rfl F.one25 ?_
 refine kE rfl rfl Try.underlying25 ?_
 refine zJ rfl rfl rfl jV ?_
 refine zA (zC (zO rfl (fun hc0 => ?_) (fun hc0 => ?_)))
 ·have hf0 : fs = [] := List.length_eq_zero_iff.1 om
  subst hf0
  refine zD (zD (zB (zK rfl rfl F.fi27_2 F.ti22 ?_)))
  refine zQ rfl rfl F.one22 ?_
  refine kE rfl rfl Try.underlying22 ?_
  refine zF rfl rfl (zA (zC (zZ (vF (G := Nat) (fun k => k <= days.length ∧ ∀ x ∈ days.take k, x = 0) (fun k => days.length - k) (fun k => [(11, .slice dA days.length dc), (12, .int .i64 (days.length : Int)), (13, .int .i64 (k : Int))]) (fun k => []) 0 ⟨Nat.zero_le _, by simp⟩ sbn pkk ?_))))
  rintro k ⟨hk1, hk2⟩
  refine zD (zB (zJ rfl rfl rfl kI ?_))
  refine zA (zC (zD (zO rfl (fun hc1 => ?_) (fun hc1 => ?_))))
  ·have hk : k < days.length := by omega
   have hd4 := hc.d4
   obtain ⟨bd, bo, hdA, hbd, hcd⟩ := hD om
   obtain ⟨x, hx⟩ : ∃ x, days[k]? = some x := ⟨_, List.getElem?_eq_getElem hk⟩
   refine zR (zC (zD (zZ (zD (zB (qV (j := k) rfl (show _ = some (Value.slice (some ⟨bd, bo, none⟩) days.length dc) from by rw [<- hdA]; rfl) rfl Try.underlying22 F.ti3 rfl hk ?_))))))
   refine kZ (v := .int .i64 (x : Int)) rfl rfl F.one3 (fun a w ha => ha.old (hcd k x hx 0 _ rfl) hbd) ?_
   refine zE rfl rfl (zA (zC (zD (zB (zF rfl rfl (zJ rfl rfl rfl yL ?_))))))
   refine zA (zC (zO rfl (fun hc2 => ?_) (fun hc2 => ?_)))
   ·refine zD (zB (zE rfl rfl (zA (zC (zU (jP (zW (zW (jP (zW (zW ?_)))))))))))
    exact jE rfl (fun a w ha => jO rfl rfl ha) (fun a w ha => ⟨by rw [zK3, List.all_eq_false.2 ⟨x, List.mem_of_getElem? hx, by simp; omega⟩], ha.grown nsl⟩)
   ·refine zR (zN (zC (zB (zJ rfl rfl rfl (fun w => jN w (zX _ om om)) ?_))))
    refine zF rfl rfl (zA (qU (k + 1) ⟨by omega, fun y hy => ?_⟩ tdo sbn pkk))
    rw [List.take_add_one, hx] at hy
    rcases List.mem_append.1 hy with h | h
    ·exact hk2 y h
    ·simp at h; omega
  ·have hkl : k = days.length := by omega
   subst hkl
   rw [List.take_length] at hk2
   refine kC (zS (zS (jH (zC (zD (zB (zE rfl rfl (zA (zC (zU (zW ?_)))))))))))
   exact jE rfl (fun a w ha => jO rfl rfl ha) (fun a w ha => ⟨by rw [zK3, List.all_eq_true.2 (fun x hx => by simpa using hk2 x hx)], ha.grown nsl⟩)
 ·have hm0 : MOk (start fs) := yB hc.f3 hc.ff _ (Nat.le_refl _)
  obtain ⟨x0, x1, x2, xw, hx, hx0, hx1, hx2, hxw⟩ := hm0.form
  refine zR (zC (zD (zB (jA rfl rfl F.agg27 F.ti27 ?_))))
  refine jU (vs := [(0, _)]) (l' := [_, _, _]) rfl rfl F.ti77 F.pl77 (.cons rfl rfl (.nil _)) rfl ?_
  refine kQ (X := Nat × Nat) (vs := [_]) (p := fun _ => True) (val := fun g => .pointer (some ⟨g.1, 0, none⟩)) (rs := fun g => [.blk g.1 (.cells [.slice fA fs.length fc, .int .i64 (kiln : Int), .slice dA days.length dc, .func (.func 66) [].toArray [].toArray, .func (.func 67) [].toArray [].toArray, .map (some g.2)].toArray 101 (0, 0)), .blk g.2 (KS.obj [])]) rfl rfl F.ent48 (fun a w ha => (zEd fA dA fc days.length dc kiln fs w).mono (fun e w' h => by obtain ⟨b, km, h1, h2⟩ := h; exact ⟨(b, km), trivial, h1, h2⟩)) ?_
  rintro ⟨sb, km⟩ -
  dsimp only [List.cons_append, List.nil_append]
  refine zE rfl rfl (zA (zC (zD (zB (zF rfl rfl (zF rfl rfl (qJ rfl rfl (vY rfl rfl F.fi101_0 F.ti77 ?_))))))))
  refine jA (o := 0) (l := (CA fA fs.length fc kiln dA days.length dc)) rfl rfl F.agg77 F.ti77 ?_
  refine jJ (v := .agg (V4 x0 x1 x2 xw).toArray) (vs := [_]) rfl rfl F.ent60 (fun a w ha => (zB2 fA dA fc days.length dc kiln fs hc.f3 hc.ff w (hF.later ha.below)).mono (fun e w' h => ⟨h.1.trans (by rw [hx]; rfl), h.2⟩)) ?_
  refine jU (vs := [(0, _), (1, _)]) (l' := [_, _, _, _, _]) rfl rfl F.ti107 F.pl107 (.cons rfl rfl (.cons rfl rfl (.nil _))) rfl ?_
  refine qK (X := List (Spot × Value)) (first := []) (cap := []) (vs := [_, _]) (p := fun _ => True) (val := fun _ => .agg [.int .i64 ((bstA fs kiln days).f : Int), .int .i64 ((bstA fs kiln days).w : Int), .bool (bstA fs kiln days).is].toArray) (rs := fun kn' => [.blk km (KS.obj kn'), .blk sb (.cells [.slice fA fs.length fc, .int .i64 (kiln : Int), .slice dA days.length dc, .func (.func 66) [].toArray [].toArray, .func (.func 67) [].toArray [].toArray, .map (some km)].toArray 101 (0, 0))]) rfl rfl rfl F.ent68 (fun a w ha => ?_) ?_
  ·refine (zDj (s := (anyS fA dA fc dc kiln fs days)) (zWj hc) days.length _ _ [] _ _ _ _ _ [] km sb 0 x0 x1 x2 xw (by show 0 + days.length = days.length; omega) ⟨rfl, by simp; omega, hxw⟩ (KnOk.nil _) (zFk hF hD) (ha.pck pkk)).mono ?_
   rintro e w' ⟨kn', h1, h2, h3⟩
   exact ⟨kn', trivial, h2.trans (by unfold bstA; rw [hx]; rfl), h3.pck pkk⟩
  rintro kn1 -
  dsimp only
  generalize bstA fs kiln days = o0
  refine zIq rfl rfl (zHc rfl F.fi111_1 F.one4 rfl) ?_
  refine zE rfl rfl (zA (zC (zU ?_)))
  exact jE rfl (fun a w ha => jO rfl rfl ha) (fun a w ha => ⟨rfl, ha.grown nsl⟩)

theorem F.ent81 : Enters Try.prog 81 := jC Try.func81 rfl (by kernel_rfl)
theorem mostEnd {fs : List Flt} {kiln day : Nat} {days : List Nat} {l : List Mor} {seen : Array Nat} {best : Int} (hI : MsI l (idxd (tr l)) seen best) (hall : ∀ e ∈ idxd (tr l), e.1 ∈ seen) (hl : ∀ m, m ∈ l ↔ Rch fs kiln (days.take day) m) :
  let e : Ending := .returned (.tuple #[.int .i64 best, .bool (decide ((0 : Int) < ((((idxd (tr l)).map KM.ent).toArray.size : Nat) : Int)))])
  ((∃ n : Nat, (∃ m, Rch fs kiln (days.take day) m ∧ sumM m = n) ∧ (∀ m, Rch fs kiln (days.take day) m -> sumM m <= n) ∧ e = .returned (.tuple #[.int .i64 (n : Int), .bool true])) ∨ ((∀ m, ¬ Rch fs kiln (days.take day) m) ∧ e = .returned (.tuple #[.int .i64 (-1), .bool false]))) := by
 intro e
 have hsz : (((idxd (tr l)).map KM.ent).toArray.size : Nat) = l.length := by rw [zGw, zHv]
 have hle : ∀ m ∈ l, (sumM m : Int) <= best := fun m hm => by
  obtain ⟨y, hy, rfl⟩ := List.mem_map.1 (show m ∈ (idxd (tr l)).map (·.2.1) from by rw [zAd, zAx]; exact hm)
  exact hI.le y hy (hall y hy)
 show (∃ n : Nat, _) ∨ _
 simp only [e, hsz]
 rcases hI.got with ⟨h1, h2⟩ | ⟨m, hm, h1⟩
 ·right
  have hl0 : l = [] := by
   cases l with
   | nil => rfl
   | cons m l =>
    have := hle m (by simp)
    omega
  refine ⟨fun m hm => ?_, by rw [h1, hl0]; rfl⟩
  have := (hl m).2 hm
  rw [hl0] at this
  cases this
 ·left
  refine ⟨sumM m, ⟨m, (hl m).1 hm, rfl⟩, fun y hy => by have := hle y ((hl y).2 hy); omega, ?_⟩
  rw [h1, decide_eq_true]
  have := List.length_pos_of_mem hm
  omega

theorem zYo [R : ReaC] {fA dA : Option Addr} {fc dc kiln day : Nat} {fs : List Flt} {days : List Nat} (hc : ChV fs kiln days) (hcap : days.length <= dc) (hday : day <= days.length) (w : World) (hR : RdC w) (hL : Lendy w fA fs) (hF : RdL Flt.cells 4 w fA fs) (hD : RdL ncell 1 w dA days) : Calls Try.prog 63 #[.agg (CA fA fs.length fc kiln dA days.length dc).toArray, .int .i64 (day : Int)] w fun e w' => ((∃ n : Nat, (∃ m, Rch fs kiln (days.take day) m ∧ sumM m = n) ∧ (∀ m, Rch fs kiln (days.take day) m -> sumM m <= n) ∧ e = .returned (.tuple #[.int .i64 (n : Int), .bool true])) ∨ ((∀ m, ¬ Rch fs kiln (days.take day) m) ∧ e = .returned (.tuple #[.int .i64 (-1), .bool false]))) ∧ Grew w w' [] := by
 refine enter (N := 35) [(0, .agg (CA fA fs.length fc kiln dA days.length dc).toArray), (1, .int .i64 (day : Int))] Try.func63 rfl Try.ntmps63 rfl rfl ?_
 refine zD (zB (jQ rfl rfl ?_))
 intro b2
 refine zE rfl rfl (zE rfl rfl (zA (zC (zD (kF [] F.follows 9 rfl [false, false, false, false, false, false, false, false, false] rfl ?_)))))
 refine zG 0 rfl rfl rfl (qC rfl F.agg77 F.ti77) ?_
 refine zG 1 rfl rfl rfl (zY rfl F.fi77_0 F.ti27) ?_
 refine zG 2 rfl rfl rfl (zY rfl F.fi27_2 F.ti22) ?_
 refine zG 3 rfl rfl rfl (jW rfl F.one22) ?_
 refine zG 4 rfl rfl rfl (jI rfl) ?_
 refine zG 5 rfl rfl rfl (jI rfl) ?_
 refine zG 6 rfl rfl rfl (zCl (k := day) rfl rfl rfl Try.underlying22 F.ti3 om) ?_
 refine an1 7 rfl ?_
 refine kQ (X := List Mor × Nat) (vs := [_, _]) (p := fun g => g.1.Nodup ∧ (∀ m, m ∈ g.1 ↔ Rch fs kiln (days.take day) m) ∧ (∀ m ∈ g.1, MOk m)) (val := fun g => .map (some g.2)) (rs := fun g => [.blk g.2 (KM.obj (tr g.1))]) rfl rfl F.ent56 (fun a w ha => ?_) ?_
 ·have hlen : (days.take day).length = day := by rw [List.length_take]; omega
  have h := zN0 (dA := dA) (nd := days.length) (dc := dc) (fc := fc) (kiln := kiln) (days := (days.take day)) (eA := dA) (ec := day) hc.f3 hc.ff (fun n hn => hc.dd n (List.mem_of_mem_take hn)) (by have := hc.d4; omega) w (hR.later ha.below) (hL.later ha.below) (hF.later ha.below) ((hD.later ha.below).take day)
  rw [hlen] at h
  refine h.mono ?_
  rintro e w' ⟨l, b, h1, h0, h2, h4, h3⟩
  exact ⟨(l, b), ⟨h0, h2, h4⟩, h1, h3⟩
 rintro ⟨l, mb⟩ ⟨hnd, hl, hok⟩
 dsimp only [List.cons_append, List.nil_append] at hnd hl hok ⊢
 have hG : KM.Good (idxd (tr l)) (tr l).length := zJe KM (by rw [zAx]; exact hnd) (zKz hok)
 refine zA (anb (zG 8 rfl rfl rfl (kV rfl) ?_))
 refine adn (zC (zD (zB (zE rfl rfl (zA (zC (zD (zD (zB (zF rfl rfl (zEv rfl rfl Try.underlying86 (InB.mem (b := mb) (o := KM.obj (tr l))) ?_)))))))))))
 intro it
 refine zA (zC (zZ (vF (G := Array Nat × Int) (fun g => MsI l (idxd (tr l)) g.1 g.2) (fun g => leftN (idxd (tr l)) g.1) (fun g => [(6, .map (some mb)), (7, .int .i64 g.2), (19, .pointer (some ⟨it, 0, none⟩))]) (fun g => [.blk it (.mapIter (some mb) (tr l).length g.1 (tr l).length), .blk mb (KM.obj (tr l))]) (#[], -1) (MsI.first _ _) sbn pkk ?_)))
 rintro ⟨seen, best⟩ hI
 dsimp only at hI ⊢
 refine zD (zB (zLw KM (hpf := fun o => [.blk it o, .blk mb (KM.obj (tr l))]) rfl rfl (InB.mem (b := mb) (o := KM.obj (tr l))) hG (fun o => .head _) (fun hall => ?_) (fun e he hne => ?_)))
 ·refine zP rfl rfl rfl (zA (zC (zD (kB rfl (kC (zS (zS (jH (zC (zD (zB (zF rfl rfl (zF rfl rfl (zIq rfl rfl (zGn rfl Try.underlying86 (InB.mem (b := mb) (o := KM.obj (tr l)))) ?_))))))))))))))
  refine zJ rfl rfl rfl yL ?_
  refine zE rfl rfl (zE rfl rfl (zA (zC (zU ?_))))
  exact jE rfl (fun a w ha => qW rfl rfl rfl ha) (fun a w ha => ⟨mostEnd hI hall hl, ha.grown nsl⟩)
 ·refine zP rfl rfl rfl (zA (zC (zD (kR rfl (zR (zC (zZ (zD (zB ?_)))))))))
  obtain ⟨i, x, v⟩ := e
  have hxl : x ∈ l := by
   have h9 := List.mem_map_of_mem (f := fun y => y.2.1) he
   rw [zAd, zAx] at h9
   exact h9
  obtain ⟨z0, z1, z2, zw, rfl, hz0, hz1, hz2, hzw⟩ := (hok x hxl).form
  refine zEs KM (e := (i, (⟨[z0, z1, z2], zw⟩ : Mor), v)) rfl rfl (InB.mem (b := mb) (o := KM.obj (tr l))) hG he (InB.mem (b := it)) ?_
  rw [show KM.kv (⟨[z0, z1, z2], zw⟩ : Mor) = .agg (V4 z0 z1 z2 zw).toArray from rfl]
  refine zP rfl rfl rfl (zV rfl F.ti95 ?_)
  intro b8
  refine zI rfl rfl F.ti95 rfl ?_
  refine zA (zC (zD (zB (zK rfl rfl F.fi95_0 F.ti92 ?_))))
  refine jA rfl rfl F.agg92 F.ti92 ?_
  refine vD (fs := [_]) (cs := []) rfl rfl rfl ?_
  refine zE rfl rfl (zA (zC (zB (zF rfl rfl (zF rfl rfl ?_)))))
  refine zQk (first := [.agg [.int .i64 (z0 : Int), .int .i64 (z1 : Int), .int .i64 (z2 : Int)].toArray]) (cap := []) (vs := []) (v := .int .i64 ((sumM (⟨[z0, z1, z2], zw⟩ : Mor) : Nat) : Int)) rfl rfl rfl F.ent81 (fun a w ha => by
   have h9 := zY7 z0 z1 z2 zw hz0 hz1 hz2 w
   simpa using h9) ?_
  refine zIs rfl rfl rfl ?_
  refine zE rfl rfl (zA (zN (qU (seen.push i, _) (hI.next hxl (by rw [zJ5]; exact List.nodup_range) he) (zSj he hne) sbn pkk)))

set_option maxRecDepth 4000 in
theorem zSa {fA dA : Option Addr} {fc dc kiln day : Nat} {fs : List Flt} {days : List Nat} (hc : ChV fs kiln days) (hday : day < days.length) (w : World) (hF : RdL Flt.cells 4 w fA fs) (hD : RdL ncell 1 w dA days) : Calls Try.prog 64 #[.agg (CA fA fs.length fc kiln dA days.length dc).toArray, .int .i64 (day : Int)] w fun e w' => e = .returned (.int .i64 0) ∧ Grew w w' [] := by
 refine enter (N := 18) [(0, .agg (CA fA fs.length fc kiln dA days.length dc).toArray), (1, .int .i64 (day : Int))] Try.func64 rfl Try.ntmps64 rfl rfl ?_
 refine zD (zB (jQ rfl rfl ?_))
 intro b2
 refine zE rfl rfl (zA (zC (zD (zD (zB (jA rfl rfl F.agg27 F.ti27 ?_))))))
 refine jJ (v := .int .i64 0) (vs := [_]) rfl rfl F.ent43 (fun a w ha => by
  have h := zAr (fA := fA) (dA := dA) (fc := fc) (dc := dc) (fs := fs.map Flt.toZ) (kiln := (kiln : Int)) (days := toZs days) (by have := hc.f3; simp; omega) (by have := hc.d4; simp [toZs]; omega) w (RdL.mapped Flt.toZ (hF.later ha.below) (fun _ => rfl)) (RdL.mapped (fun (n : Nat) => (n : Int)) (hD.later ha.below) (fun _ => rfl))
  rw [chk0 hc] at h
  simpa [toZs] using h) ?_
 refine zE rfl rfl (zA (zC (zD (zB (zF rfl rfl (zJ rfl rfl rfl qT ?_))))))
 refine zA (zC (zO rfl (fun hc0 => ?_) (fun hc0 => ?_)))
 ·exact absurd rfl hc0
  done
 ·refine zR (zC (zD (zD (zB (zF rfl rfl (zK rfl rfl F.fi27_2 F.ti22 ?_))))))
  refine zQ rfl rfl F.one22 ?_
  refine kE rfl rfl Try.underlying22 ?_
  refine zJ (v := .int .i64 ((days.length : Int) - 1)) rfl rfl rfl (fun w => xJ w (zX _ (by have := hc.d4; omega) (by have := hc.d4; omega))) ?_
  refine jJ (v := .bool true) (vs := [_, _, _]) rfl rfl F.ent52 (fun a w ha => (yF (day : Int) 0 ((days.length : Int) - 1) w).mono (fun e w' h => ⟨h.1.trans (by rw [show btw (day : Int) 0 ((days.length : Int) - 1) = true from by unfold btw; simp; omega]), h.2⟩)) ?_
  refine kP rfl rfl (zA (zC (kB rfl (zR (zC (zD (zB (zE rfl rfl (zA (zC (zU ?_)))))))))))
  exact jE rfl (fun a w ha => jO rfl rfl ha) (fun a w ha => ⟨rfl, ha.grown nsl⟩)

theorem F.ent63 : Enters Try.prog 63 := jC Try.func63 rfl (by kernel_rfl)
theorem F.ent64 : Enters Try.prog 64 := jC Try.func64 rfl (by kernel_rfl)
theorem zYi [R : ReaC] {fA dA : Option Addr} {fc dc kiln : Nat} {day : Nat} {fs : List Flt} {days : List Nat} (hc : ChV fs kiln days) (hcap : days.length <= dc) (hday : day < days.length) (w : World) (hR : RdC w) (hL : Lendy w fA fs) (hF : RdL Flt.cells 4 w fA fs) (hD : RdL ncell 1 w dA days) : Calls Try.prog 39 #[.agg (CA fA fs.length fc kiln dA days.length dc).toArray, .int .i64 (day : Int)] w fun e w' => (∃ n er : Nat, MostP fs kiln (days.take day) n er ∧ e = .returned (.tuple #[.int .i64 (n : Int), .int .i64 (er : Int)])) ∧ Grew w w' [] := by
 refine enter (N := 25) [(0, .agg (CA fA fs.length fc kiln dA days.length dc).toArray), (1, .int .i64 (day : Int))] Try.func39 rfl Try.ntmps39 rfl rfl ?_
 refine zD (zB (jQ rfl rfl ?_))
 intro b2
 refine zE rfl rfl (zE rfl rfl (zA (zC (zD (zD (zB (jA rfl rfl F.agg27 F.ti27 ?_)))))))
 refine zF rfl rfl (jJ (v := .int .i64 0) (vs := [_, _]) rfl rfl F.ent64 (fun a w ha => zSa (dc := dc) (fc := fc) hc hday w (hF.later ha.below) (hD.later ha.below)) ?_)
 refine zE rfl rfl (zA (zC (zD (zB (zF rfl rfl (zJ rfl rfl rfl qT ?_))))))
 refine zA (zC (zO rfl (fun hc0 => ?_) (fun hc0 => ?_)))
 ·exact absurd rfl hc0
  done
 ·refine zR (zC (zD (zB (jA rfl rfl F.agg27 F.ti27 ?_))))
  refine jU (vs := [(0, _)]) (l' := [_, _, _]) rfl rfl F.ti77 F.pl77 (.cons rfl rfl (.nil _)) rfl ?_
  refine zF rfl rfl (kQ (X := Nat × Nat) (vs := [_, _]) (p := fun g => MostP fs kiln (days.take day) g.1 g.2) (val := fun g => .tuple #[.int .i64 (if g.2 = 0 then (g.1 : Int) else -1), .bool (decide (g.2 = 0))]) (rs := fun _ => []) rfl rfl F.ent63 (fun a w ha => (zYo hc hcap (day := day) om w (hR.later ha.below) (hL.later ha.below) (hF.later ha.below) (hD.later ha.below)).mono (fun e w' h => ?_)) ?_)
  ·rcases h.1 with ⟨n, h1, h2, h3⟩ | ⟨h1, h3⟩
   ·exact ⟨(n, 0), .inl ⟨rfl, h1, h2⟩, h3, h.2⟩
   ·exact ⟨(0, 11), .inr ⟨rfl, rfl, h1⟩, h3, h.2⟩
  rintro ⟨n, er⟩ hmp
  dsimp only [List.nil_append] at hmp ⊢
  rcases hmp with ⟨rfl, h1, h2⟩ | ⟨rfl, rfl, h1⟩
  ·refine zF rfl rfl (zP rfl rfl rfl (zP rfl rfl rfl (zE rfl rfl (zE rfl rfl (zA (zC (zD (zD (zB (zF rfl rfl (kP rfl rfl (zA (zC (kB rfl (zR (zC (zD (zB (zF rfl rfl (zE rfl rfl (zE rfl rfl (zA (zC ?_)))))))))))))))))))))))
   refine zU ?_
   exact jE rfl (fun a w ha => qW rfl rfl rfl ha) (fun a w ha => ⟨⟨n, 0, .inl ⟨rfl, h1, h2⟩, rfl⟩, ha.grown nsl⟩)
  ·refine zF rfl rfl (zP rfl rfl rfl (zP rfl rfl rfl (zE rfl rfl (zE rfl rfl (zA (zC (zD (zD (zB (zF rfl rfl (kP rfl rfl (zA (zC (kR rfl (zD (zB (zE rfl rfl (zE rfl rfl (zA (zC (zU (zW ?_))))))))))))))))))))))
   exact jE rfl (fun a w ha => qW rfl rfl rfl ha) (fun a w ha => ⟨⟨0, 11, .inr ⟨rfl, rfl, h1⟩, rfl⟩, ha.grown nsl⟩)

end Go.Proofs.Yteppiphdbondeaa.N
namespace Go.Proofs.Yteppiphdbondeaa.N
open Go Go.RowKit Go.Proofs
set_option linter.unusedSectionVars false
def klnN (fs : List Flt) (days : List Nat) : Nat -> Option Nat
  | 0 => none
  | k + 1 => match klnN fs days k with
    | some x => some x
    | none => if (bstA fs k days).is then some k else none
def sprF (fs : List Flt) (kiln : Nat) (days : List Nat) (d : Nat) : Nat -> Option Nat
  | 0 => none
  | k + 1 => sprN fs kiln days d k
theorem zV6 {fs : List Flt} {kiln : Nat} {days : List Nat} {d m : Nat} (h : (bstA fs kiln (days.set d m)).is = false) : sprF fs kiln days d (m + 1) = sprF fs kiln days d m := by
  cases m with
  | zero => unfold sprF sprN; rw [h]; rfl
  | succ m => show sprN fs kiln days d (m + 1) = sprN fs kiln days d m; conv => lhs; unfold sprN
              rw [h]; rfl
theorem zS6 {fs : List Flt} {kiln : Nat} {days : List Nat} {d m : Nat} (h : (bstA fs kiln (days.set d m)).is = true) : sprF fs kiln days d (m + 1) = some m := by
  show sprN fs kiln days d m = some m
  cases m with
  | zero => unfold sprN; rw [h]; rfl
  | succ m => unfold sprN; rw [h]; rfl
def optN (o : Option Nat) : Nat := o.getD 0
def optE (o : Option Nat) : Nat := if o.isSome then 0 else 11
end Go.Proofs.Yteppiphdbondeaa.N
namespace Go.Proofs.Yteppiphdbondeaa.N
open Go Go.RowKit Go.Proofs
set_option linter.unusedSectionVars false
variable [I : Sys]
theorem F.ent62 : Enters Try.prog 62 := jC Try.func62 rfl (by kernel_rfl)
theorem zV7 {fA dA : Option Addr} {fc dc kiln d : Nat} {fs : List Flt} {days : List Nat} (hc : ChV fs kiln days) (hd : d < days.length) (w : World) (hF : RdL Flt.cells 4 w fA fs) (hD : RdL ncell 1 w dA days) : Calls Try.prog 40 #[.agg (CA fA fs.length fc kiln dA days.length dc).toArray, .int .i64 (d : Int)] w fun e w' => e = .returned (.tuple #[.int .i64 ((optN (sprN fs kiln days d 12) : Nat) : Int), .int .i64 ((optE (sprN fs kiln days d 12) : Nat) : Int)]) ∧ Grew w w' [] := by
 refine enter (N := 31) [(0, .agg (CA fA fs.length fc kiln dA days.length dc).toArray), (1, .int .i64 (d : Int))] Try.func40 rfl Try.ntmps40 rfl rfl ?_
 refine zD (zB (jQ rfl rfl ?_))
 intro b2
 refine zE rfl rfl (zE rfl rfl (zA (zC (zD (zD (zB (jA rfl rfl F.agg27 F.ti27 ?_)))))))
 refine zF rfl rfl (jJ (v := .int .i64 0) (vs := [_, _]) rfl rfl F.ent64 (fun a w ha => zSa (dc := dc) (fc := fc) hc hd w (hF.later ha.below) (hD.later ha.below)) ?_)
 refine zE rfl rfl (zA (zC (zD (zB (zF rfl rfl (zJ rfl rfl rfl qT ?_))))))
 refine zA (zC (zO rfl (fun hc0 => ?_) (fun hc0 => ?_)))
 ·exact absurd rfl hc0
  done
 ·refine zR (zC (zD (zB ?_)))
  have hd4 := hc.d4
  have hd1 := hc.d1
  obtain ⟨bd, bo, rfl, _, _⟩ := hD om
  refine zCc rfl Try.underlying22 F.ti3 ?_
  intro b14
  refine zAf 1 (.head _) ?_
  refine zK rfl rfl F.fi27_2 F.ti22 ?_
  refine zQ rfl rfl F.one22 ?_
  refine yU (cells := ncell) rfl rfl rfl Try.underlying22 F.ti3 rfl rfl (fun _ => rfl) zPk (fun a w ha => hD.later ha.below) rfl (by unfold maxLen; omega) om ?_
  intro A3 c3
  simp only [Nat.zero_add, List.nil_append, <- zCu]
  refine zK rfl rfl F.fi27_2 F.ti22 ?_
  refine zI rfl rfl F.ti22 rfl ?_
  refine zA (zC (zD (zD (zB (zE rfl rfl (zA (zC (zZ (vF (G := Nat × List Nat) (fun g => g.1 <= 13 ∧ g.2.length = days.length ∧ (∀ x, g.2.set d x = days.set d x) ∧ sprF fs kiln days d 13 = sprF fs kiln days d g.1) (fun g => g.1) (fun g => [(1, .int .i64 (d : Int)), (2, .pointer (some ⟨b2, 0, none⟩)), (7, .int .i64 ((g.1 : Int) - 1))]) (fun g => [.row 3 1 A3 days.length c3 (ints g.2), .blk b2 (.cells [.slice fA fs.length fc, .int .i64 (kiln : Int), .slice A3 days.length c3].toArray 27 (0, 0))]) (13, days) ⟨Nat.le_refl _, rfl, fun _ => rfl, rfl⟩ sbn pkk ?_)))))))))
  rintro ⟨k, cur⟩ ⟨hk, hcl, hcs, hsp⟩
  dsimp only at hk hcl hcs hsp ⊢
  refine zD (zD (zB (zF rfl rfl (zJ rfl rfl rfl zIz ?_))))
  refine zA (zC (zO rfl (fun hc1 => ?_) (fun hc1 => ?_)))
  ·obtain ⟨m, rfl⟩ : ∃ m, k = m + 1 := ⟨k - 1, by omega⟩
   have em : (((m + 1 : Nat) : Int) - 1) = (m : Int) := by omega
   rw [em]
   have hm12 : m <= 12 := by omega
   refine zR (zC (zD (zZ (zD (zB (zOx A3 om ?_))))))
   intro g3 hg3
   refine zK rfl rfl F.fi27_2 F.ti22 ?_
   refine zQ rfl rfl F.one22 ?_
   refine zF rfl rfl (zF rfl rfl (qV (j := d) rfl (show _ = some (Value.slice (some ⟨g3, 0, none⟩) days.length c3) from by rw [<- hg3]; rfl) rfl Try.underlying22 F.ti3 rfl hd ?_))
   refine zEl (A := A3) (ints (days.set d m)) (show _ = some (Value.pointer (some ⟨g3, 0 + d * 1, none⟩)) from rfl) rfl F.ti3 hg3 (by rw [zAu]; omega) (by rw [show 0 + d * 1 = d from by omega, zMn, hcs]) ?_
   refine zA (zC (zD (zB (jA rfl rfl F.agg27 F.ti27 ?_))))
   refine jJ (v := .bool (bstA fs kiln (days.set d m)).is) (vs := [_]) rfl rfl F.ent62 (fun a w ha => ?_) ?_
   ·have h := zXe (dA := A3) (dc := c3) (fc := fc) (hc.set (d := d) hm12).w w (hF.later ha.below) (wE (A := A3) ha (by rw [List.length_set]))
    rw [List.length_set] at h
    exact h
   refine zA (zC (kW rfl (fun hc2 => ?_) (fun hc2 => ?_)))
   ·refine zD (zB (zF rfl rfl (zE rfl rfl (zE rfl rfl (zA (zC (zU (jP (zW (zW (jP (zW ?_))))))))))))
    exact jE rfl (fun a w ha => qW rfl rfl rfl ha) (fun a w ha => ⟨by rw [show sprN fs kiln days d 12 = some m from hsp.trans (zS6 hc2)]; rfl, ha.grown nsl⟩)
   ·refine zR (zN (zC (zB (zF rfl rfl (zJ rfl rfl rfl (fun w => xJ w (zX _ om om)) ?_)))))
    refine zE rfl rfl (zA (qU (m, days.set d m) ⟨by omega, by rw [List.length_set], fun x => by rw [List.set_set], hsp.trans (zV6 (by simpa using hc2))⟩ tdo sbn pkk))
  ·obtain rfl : k = 0 := by omega
   refine kC (zS (zS (jH (zC (zD (zB (zE rfl rfl (zE rfl rfl (zA (zC (zU ?_)))))))))))
   exact jE rfl (fun a w ha => qW rfl rfl rfl ha) (fun a w ha => ⟨by rw [show sprN fs kiln days d 12 = none from hsp]; rfl, ha.grown nsl⟩)

theorem zRc {fA dA : Option Addr} {fc dc kiln d n : Nat} {fs : List Flt} {days : List Nat} (hdl : days.length <= 1000) (hd : d < days.length) (w : World) (hD : RdL ncell 1 w dA days) : Calls Try.prog 41 #[.agg (CA fA fs.length fc kiln dA days.length dc).toArray, .int .i64 (d : Int), .int .i64 (n : Int)] w fun e w' => ∃ D' dc', e = .returned (.agg [.slice fA fs.length fc, .int .i64 (kiln : Int), .slice D' days.length dc'].toArray) ∧ Grew w w' [.row 3 1 D' days.length dc' (ints (days.set d n))] := by
 refine enter (N := 18) [(0, .agg (CA fA fs.length fc kiln dA days.length dc).toArray), (1, .int .i64 (d : Int)), (2, .int .i64 (n : Int))] Try.func41 rfl Try.ntmps41 rfl rfl ?_
 refine zD (zB (jQ rfl rfl ?_))
 intro b3
 refine zV rfl F.ti27 ?_
 intro b6
 refine zA (zC (zD (zB ?_)))
 obtain ⟨bd, bo, rfl, _, _⟩ := hD om
 refine zCc rfl Try.underlying22 F.ti3 ?_
 intro b7
 refine zAf 1 (.head _) ?_
 refine zK rfl rfl F.fi27_2 F.ti22 ?_
 refine zQ rfl rfl F.one22 ?_
 refine yU (cells := ncell) rfl rfl rfl Try.underlying22 F.ti3 rfl rfl (fun _ => rfl) zPk (fun a w ha => hD.later ha.below) rfl (by unfold maxLen; omega) om ?_
 intro A3 c3
 simp only [Nat.zero_add, List.nil_append, <- zCu]
 refine zK rfl rfl F.fi27_2 F.ti22 ?_
 refine zI rfl rfl F.ti22 rfl ?_
 refine zA (zC (zD (zB (zOx A3 om ?_))))
 intro g3 hg3
 refine zK rfl rfl F.fi27_2 F.ti22 ?_
 refine zQ rfl rfl F.one22 ?_
 refine zF rfl rfl (zF rfl rfl (qV (j := d) rfl (show _ = some (Value.slice (some ⟨g3, 0, none⟩) days.length c3) from by rw [<- hg3]; rfl) rfl Try.underlying22 F.ti3 rfl hd ?_))
 refine zEl (A := A3) (ints (days.set d n)) (show _ = some (Value.pointer (some ⟨g3, 0 + d * 1, none⟩)) from rfl) rfl F.ti3 hg3 (by rw [zAu]; omega) (by rw [show 0 + d * 1 = d from by omega, zMn]) ?_
 refine zA (zC (zD (zB (jA rfl rfl F.agg27 F.ti27 ?_))))
 refine zI rfl rfl F.ti27 rfl ?_
 refine zA (zC (zU ?_))
 exact jE rfl (fun a w ha => by exact qH (ha := ha) rfl rfl F.agg27 F.ti27 rfl) (fun a w ha => ⟨A3, c3, rfl, (ha.pck pkk).grown (List.Sublist.refl _)⟩)

end Go.Proofs.Yteppiphdbondeaa.N
namespace Go.Proofs.Yteppiphdbondeaa.N
open Go Go.RowKit Go.Proofs
set_option linter.unusedSectionVars false
theorem zTe (l : List Nat) (i j v : Nat) : (l.set i v).getD j 0 = if i = j ∧ i < l.length then v else l.getD j 0 := by
 rw [List.getD_eq_getElem?_getD, List.getD_eq_getElem?_getD, List.getElem?_set]
 by_cases h : i = j
 ·subst h
  by_cases h2 : i < l.length
  ·simp [h2]
  ·simp [h2]
 ·simp [h]
theorem zZo {fs : List Flt} {kiln : Nat} {m m1 : Mor} {acts : List Nat} {s : Nat} : dayE fs kiln m acts s = (0, m1) ↔ barred m acts acts.length = false ∧ firesN acts acts.length <= kiln ∧ (dRun fs m acts s acts.length).1 = 0 ∧ m1 = (dRun fs m acts s acts.length).2 := by
 unfold dayE
 by_cases h1 : barred m acts acts.length = true
 ·rw [if_pos h1]; simp [h1]
 ·rw [if_neg h1]
  by_cases h2 : kiln < firesN acts acts.length
  ·rw [if_pos h2]; simp; omega
  ·rw [if_neg h2]
   by_cases h3 : 0 < (dRun fs m acts s acts.length).1
   ·rw [if_pos h3]; simp; omega
   ·rw [if_neg h3]
    simp only [Prod.mk.injEq, true_and]
    constructor
    ·rintro rfl; exact ⟨by simpa using h1, by omega, by omega, rfl⟩
    ·rintro ⟨_, _, _, rfl⟩; rfl
def sumK (m : Mor) : Nat -> Nat
 | 0 => 0
 | k + 1 => sumK m k + m.s.getD k 0
theorem zJy {fs : List Flt} {m : Mor} {acts : List Nat} {x : Nat} : ∀ k, x <= (dRun fs m acts x k).1 + sumK m k
 | 0 => by simp [dRun, sumK]
 | k + 1 => by
  have ih := zJy (fs := fs) (m := m) (acts := acts) (x := x) k
  rw [zBi, zBk]
  unfold sumK actOf
  dsimp only
  split
  ·dsimp only; omega
  ·split
   ·dsimp only; omega
   ·split <;> dsimp only <;> omega
theorem zMr {fs : List Flt} {m : Mor} {n x : Nat} : ∀ k, k <= n -> (dRun fs m (List.replicate n 0) x k).1 = x - sumK m k
 | 0, _ => by simp [dRun, sumK]
 | k + 1, hk => by
  have ih := zMr (fs := fs) (m := m) (n := n) (x := x) k om
  rw [zBi, zBk]
  have h0 : (List.replicate n 0).getD k 0 = 0 := by
   rw [List.getD_eq_getElem?_getD, List.getElem?_replicate]
   split <;> rfl
  rw [h0]
  unfold sumK actOf
  dsimp only
  rw [if_pos rfl, ih]
  omega
theorem zU3 : ∀ n, n <= 3 -> List.replicate n 0 ∈ exts [] n
 | 0, _ => by decide
 | 1, _ => by decide
 | 2, _ => by decide
 | 3, _ => by decide
 | n + 4, h => by omega
theorem zOo {fs : List Flt} {kiln x : Nat} {m : Mor} (h3 : fs.length <= 3) : (∃ acts ∈ exts [] fs.length, ∃ y, dayE fs kiln m acts x = (0, y)) ↔ x <= sumK m fs.length := by
 constructor
 ·rintro ⟨acts, ha, y, h⟩
  obtain ⟨_, _, h1, _⟩ := zZo.1 h
  have hl : acts.length = fs.length := by
   letI : Sys := nSys Try.prog (Cp 0 131 msgM) 0
   have := vO _ _ acts ha
   simpa using this
  have := zJy (fs := fs) (m := m) (acts := acts) (x := x) acts.length
  rw [h1, hl] at this
  omega
 ·intro hx
  refine ⟨_, zU3 _ h3, _, zZo.2 ⟨?_, ?_, ?_, rfl⟩⟩
  ·unfold barred
   rw [List.any_eq_false]
   intro i _
   have h0 : (List.replicate fs.length 0).getD i 0 = 0 := by
    rw [List.getD_eq_getElem?_getD, List.getElem?_replicate]
    split <;> rfl
   rw [h0]
   simp
  ·unfold firesN
   rw [List.countP_eq_zero.2 (fun y hy => by
    have := List.mem_of_mem_take hy
    rw [List.mem_replicate] at this
    simp [this.2])]
   exact Nat.zero_le _
  ·rw [List.length_replicate, zMr _ (Nat.le_refl _)]
   omega
def Void (n : Nat) (m : Mor) : Prop := ∀ i, n <= i -> m.s.getD i 0 = 0
theorem zMp {fs : List Flt} {m : Mor} {acts : List Nat} {x n : Nat} (hv : Void n m) : ∀ k, k <= n -> Void n (dRun fs m acts x k).2
 | 0, _ => hv
 | k + 1, hk => by
  have ih := zMp (fs := fs) (acts := acts) (x := x) hv k om
  rw [zBi, zBk]
  intro i hi
  dsimp only
  rw [zTe, if_neg om]
  exact ih i hi
theorem zHw (fs : List Flt) (_h3 : fs.length <= 3) : Void fs.length (start fs) := by
 intro i hi
 unfold start startN
 dsimp only
 rw [List.take_length, List.getD_eq_getElem?_getD, List.getElem?_append, if_neg (by simp; omega), List.getElem?_replicate]
 split <;> rfl
theorem zLh {fs : List Flt} {kiln : Nat} (_h3 : fs.length <= 3) (days : List Nat) : ∀ (m : Mor), Void fs.length m -> ∀ x, Wy fs kiln days m x -> Void fs.length x := by
 induction days with
 | nil => intro m hv x hx; unfold Wy at hx; subst hx; exact hv
 | cons d ds ih =>
  rintro m hv x ⟨acts, ha, m1, h1, h2⟩
  refine ih m1 ?_ x h2
  obtain ⟨_, _, _, rfl⟩ := zZo.1 h1
  have hl : acts.length = fs.length := by
   letI : Sys := nSys Try.prog (Cp 0 131 msgM) 0
   have := vO _ _ acts ha
   simpa using this
  exact zMp hv _ om
theorem zLm {m : Mor} {n : Nat} (hn : n <= 3) (hv : Void n m) : sumK m n = sumM m := by
 have e : ∀ j, j + n = 3 -> sumK m n = sumK m 3 := by
  intro j hj
  have key : ∀ j k, n <= k -> k + j = 3 -> sumK m k = sumK m 3 := by
   intro j
   induction j with
   | zero => intro k _ hk; rw [show k = 3 from by omega]
   | succ j ih =>
    intro k hk hj
    rw [<- ih (k + 1) om om]
    unfold sumK
    rw [hv k hk]
    cases k <;> simp [sumK]
  exact key j n (Nat.le_refl _) om
 rw [e (3 - n) om]
 simp [sumK, sumM]
theorem zLe {fs : List Flt} {kiln x : Nat} {ds : List Nat} (h3 : fs.length <= 3) : (bstA fs kiln (ds ++ [x])).is = true ↔ ∃ m, Rch fs kiln ds m ∧ x <= sumM m := by
 rw [zVg]
 constructor
 ·rintro ⟨y, hy⟩
  rw [Rch.push] at hy
  obtain ⟨m, hm, acts, ha, h1⟩ := hy
  have hv := zLh h3 ds _ (zHw fs h3) m (zZr.1 hm)
  refine ⟨m, hm, ?_⟩
  rw [<- zLm h3 hv]
  exact (zOo h3).1 ⟨acts, ha, y, h1⟩
 ·rintro ⟨m, hm, hx⟩
  have hv := zLh h3 ds _ (zHw fs h3) m (zZr.1 hm)
  rw [<- zLm h3 hv] at hx
  obtain ⟨acts, ha, y, h1⟩ := (zOo (kiln := kiln) h3).2 hx
  refine ⟨y, ?_⟩
  rw [Rch.push]
  exact ⟨m, hm, acts, ha, h1⟩
theorem zMi {days : List Nat} {d x : Nat} (hd : d < days.length) : (days.take (d + 1)).set d x = days.take d ++ [x] := by
 rw [List.take_add_one, List.getElem?_eq_getElem hd, Option.toList_some, List.set_append, if_neg (by rw [List.length_take]; omega), List.length_take, Nat.min_eq_left om, Nat.sub_self]
 rfl
theorem mostN {fs : List Flt} {kiln d n er : Nat} {days : List Nat} (hc : ChV fs kiln days) (h : MostP fs kiln (days.take d) n er) :
  ∃ N : Int, -1 <= N ∧ N <= 12 ∧ (er = 0 ∧ N = (n : Int) ∨ er = 11 ∧ n = 0 ∧ N = -1) ∧ ∀ x : Nat, (bstA fs kiln (days.take d ++ [x])).is = decide ((x : Int) <= N) := by
 rcases h with ⟨rfl, ⟨m, hm, rfl⟩, hle⟩ | ⟨rfl, rfl, hno⟩
 ·have hok := Rch.ok hc.f3 hc.ff _ m hm
  have := zWc hok
  refine ⟨(sumM m : Int), by omega, by omega, .inl ⟨rfl, rfl⟩, fun x => ?_⟩
  rw [Bool.eq_iff_iff, zLe hc.f3, decide_eq_true_iff]
  constructor
  ·rintro ⟨y, hy, hx⟩
   have := hle y hy
   omega
  ·intro hx
   exact ⟨m, hm, by omega⟩
 ·refine ⟨-1, by omega, by omega, .inr ⟨rfl, rfl, rfl⟩, fun x => ?_⟩
  rw [Bool.eq_iff_iff, zLe hc.f3, decide_eq_true_iff]
  constructor
  ·rintro ⟨y, hy, _⟩
   exact absurd hy (hno y)
  ·intro hx; omega
theorem spareN {fs : List Flt} {kiln d : Nat} {days : List Nat} {N : Int} (hd : d < days.length) (hN : ∀ x : Nat, (bstA fs kiln (days.take d ++ [x])).is = decide ((x : Int) <= N)) (hN1 : -1 <= N) :
  ∃ S : Int, -1 <= S ∧ S <= 12 ∧ S <= N ∧ (optE (sprN fs kiln days d 12) = 0 ∧ S = (optN (sprN fs kiln days d 12) : Int) ∨ optE (sprN fs kiln days d 12) = 11 ∧ optN (sprN fs kiln days d 12) = 0 ∧ S = -1) ∧
   ∀ (k : Nat) (x : Nat), k <= 1 -> S + (k : Int) = (x : Int) -> x <= 12 -> (bstA fs kiln (days.set d x)).is = decide (k = 0) := by
 have pre : ∀ x, (bstA fs kiln (days.set d x)).is = true -> (x : Int) <= N := by
  intro x hx
  have h1 := zPj (days := days.set d x) (j := d + 1) (k := (days.set d x).length) (by rw [List.length_set]; omega) (by rw [List.take_length]; exact zVg.1 hx)
  rw [List.take_set, zMi hd] at h1
  have h2 := hN x
  rw [zVg.2 h1] at h2
  simpa using h2.symm
 cases hs : sprN fs kiln days d 12 with
 | none =>
  have hall := zJ7 hs
  refine ⟨-1, by omega, by omega, by omega, .inr ⟨rfl, rfl, rfl⟩, fun k x hk hx h12 => ?_⟩
  rw [hall x h12, decide_eq_false]
  omega
 | some y =>
  obtain ⟨h1, h2, h3⟩ := zJw hs
  refine ⟨(y : Int), by omega, by omega, pre y h2, .inl ⟨rfl, rfl⟩, fun k x hk hx h12 => ?_⟩
  rcases Nat.eq_zero_or_pos k with h0 | h0
  ·subst h0
   rw [show x = y from by omega, h2]; rfl
  ·rw [h3 x om h12, decide_eq_false]
   omega
theorem zFf {P : Program} {t : TypeId} (ht : P.underlying t = some .bool) (u v : Bool) (x y : Operand) (w : World) : (do eqGuard .neq t x y (.bool u) (.bool v); binOp .neq t (.bool u) (.bool v) : Sem Value).run P w = .ok (.bool (u != v)) w := by
 have hg : (eqGuard .neq t x y (.bool u) (.bool v)).run P w = .ok () w := by simp [eqGuard]
 have hb : (binOp .neq t (.bool u) (.bool v)).run P w = .ok (.bool (u != v)) w := by
  show (do pure (.bool (!(<- Op.equal t (.bool u) (.bool v)))) : Sem Value).run P w = _
  have he : (Op.equal t (.bool u) (.bool v)).run P w = .ok (u == v) w := by
   show (Op.equalIn (9999 + 1) t (.bool u) (.bool v)).run P w = _
   unfold Op.equalIn
   simp only [Sem.run_bind, run_underlying ht, Result.andThen_ok]
   simp
  simp only [Sem.run_bind, he, Result.andThen_ok, Sem.run_pure]
  rfl
 simp only [Sem.run_bind, hg, Result.andThen_ok, hb]
end Go.Proofs.Yteppiphdbondeaa.N
namespace Go.Proofs.Yteppiphdbondeaa.N
open Go Go.RowKit Go.Proofs
set_option linter.unusedSectionVars false
variable [I : Sys]
theorem F.ent39 : Enters Try.prog 39 := jC Try.func39 rfl (by kernel_rfl)
theorem F.ent40 : Enters Try.prog 40 := jC Try.func40 rfl (by kernel_rfl)
theorem F.ent41 : Enters Try.prog 41 := jC Try.func41 rfl (by kernel_rfl)
set_option maxRecDepth 4000 in
theorem zPd [R : ReaC] (nA : Option Addr) (nc : Nat) (nums : List Int) (w : World) (hN : RdL icell 1 w nA nums) (hR : RdC w) : Calls Try.prog 11 #[.slice nA nums.length nc] w fun e w' => e = .returned (.bool true) ∧ Grew w w' [] := by
 refine enter (N := 135) [(0, .slice nA nums.length nc)] Try.func11 rfl Try.ntmps11 rfl rfl ?_
 refine zD (zB (zE rfl rfl (zA (zC (zD (zB (zF rfl rfl (kQ (X := Nat) (vs := [_]) (p := fun _ => True) (val := fun b => .pointer (some ⟨b, 0, none⟩)) (rs := fun b => [.blk b (hatO nA nums.length nc 0 11400714819323198485)]) rfl rfl F.ent13 (fun a w ha => (zUc nA nums.length nc w).mono (fun e w' h => by obtain ⟨b, h1, h2⟩ := h; exact ⟨b, trivial, h1, h2⟩)) ?_))))))))
 intro hb _
 dsimp only [List.cons_append, List.nil_append]
 refine qK (X := Nat × Nat × Nat × List Flt × List Nat × Option Addr × Option Addr × Nat × Nat) (first := []) (cap := []) (vs := [_]) (p := fun y => y.1 <= 101 ∧ y.2.1 < 18446744073709551616 ∧ ChV y.2.2.2.1 y.2.2.1 y.2.2.2.2.1) (val := fun y => .agg [.slice y.2.2.2.2.2.1 y.2.2.2.1.length y.2.2.2.2.2.2.2.1, .int .i64 (y.2.2.1 : Int), .slice y.2.2.2.2.2.2.1 y.2.2.2.2.1.length y.2.2.2.2.2.2.2.2].toArray) (rs := fun y => [.row 49 4 y.2.2.2.2.2.1 y.2.2.2.1.length y.2.2.2.2.2.2.2.1 (y.2.2.2.1.flatMap Flt.cells), .row 3 1 y.2.2.2.2.2.2.1 y.2.2.2.2.1.length y.2.2.2.2.2.2.2.2 (ints y.2.2.2.2.1), .blk hb (hatO nA nums.length nc y.1 y.2.1)]) rfl rfl rfl F.ent22 (fun a w ha => (zWy (C := ⟨Try.prog, _, _, _, _⟩) (T := []) (tk := 0) rfl rfl hN om om ha).mono (fun e w' h => by obtain ⟨t', s', k', f', d', A', D', c', dc', h1, h2, h3, h4, h5⟩ := h; exact ⟨(t', s', k', f', d', A', D', c', dc'), ⟨by omega, h2, h3⟩, h4, h5⟩)) ?_
 rintro ⟨tk, st, kiln, fs, days, A, D, c, dc⟩ ⟨htk, hst, hc⟩
 dsimp only at htk hst hc ⊢
 refine zV rfl F.ti27 ?_
 intro b3
 refine zI rfl rfl F.ti27 rfl ?_
 refine zA (zC (zD (zD (zB (zE rfl rfl (zA (zC (zZ (vF (G := Nat) (fun d => d <= days.length) (fun d => days.length - d) (fun d => [(3, .pointer (some ⟨b3, 0, none⟩)), (4, .int .i64 (d : Int))]) (fun d => [.blk b3 (.cells [.slice A fs.length c, .int .i64 (kiln : Int), .slice D days.length dc].toArray 27 (0, 0)), .row 49 4 A fs.length c (fs.flatMap Flt.cells), .row 3 1 D days.length dc (ints days)]) 0 (Nat.zero_le _) sbn pkk ?_)))))))))
 intro d hd0
 (try dsimp only at hd0 ⊢)
 refine zD (zD (zB (zF rfl rfl (zK rfl rfl F.fi27_2 F.ti22 ?_))))
 refine zQ rfl rfl F.one22 ?_
 refine kE rfl rfl Try.underlying22 ?_
 refine zJ rfl rfl rfl kI ?_
 refine zA (zC (zO rfl (fun hc0 => ?_) (fun hc0 => ?_)))
 ·have hd : d < days.length := by omega
  have hd4 := hc.d4
  have hlen : (days.take (d + 1)).length = d + 1 := by rw [List.length_take]; omega
  have hf1 := hc.f1
  refine zR (zC (zD (zZ (zD (zB (jA rfl rfl F.agg27 F.ti27 ?_))))))
  refine kQ (X := Option Addr × Nat × Option Addr × Nat) (vs := [_]) (p := fun _ => True) (val := fun g => .agg [.slice g.1 fs.length g.2.1, .int .i64 (kiln : Int), .slice g.2.2.1 days.length g.2.2.2].toArray) (rs := fun g => [.row 49 4 g.1 fs.length g.2.1 (fs.flatMap Flt.cells), .row 3 1 g.2.2.1 days.length g.2.2.2 (ints days)]) rfl rfl F.ent24 (fun a w ha => (zR6 hc.f1 (by have := hc.f3; omega) hc.d1 (by have := hc.d4; omega) w (zCi (A := A) ha rfl) (wE (A := D) ha rfl)).mono (fun e w' h => by obtain ⟨A', c', D', dc', h1, h2⟩ := h; exact ⟨(A', c', D', dc'), trivial, h1, h2⟩)) ?_
  rintro ⟨A2, c2, D2, dc2⟩ -
  dsimp only [List.cons_append, List.nil_append]
  refine zV rfl F.ti27 ?_
  intro b5
  refine zI rfl rfl F.ti27 rfl ?_
  refine zA (zC (zD (zB (zLy D2 ?_))))
  intro hcap2
  refine zLy D ?_
  intro hcap
  refine zK rfl rfl F.fi27_2 F.ti22 ?_
  refine zQ rfl rfl F.one22 ?_
  refine zF rfl rfl (zJ rfl rfl rfl (fun w => jN w (zX _ om om)) ?_)
  refine zM8 (h := d + 1) rfl rfl rfl Try.underlying22 F.ti3 rfl om ?_
  refine zK rfl rfl F.fi27_2 F.ti22 ?_
  refine zI rfl rfl F.ti22 rfl ?_
  refine zA (zC (zD (zB (jA rfl rfl F.agg27 F.ti27 ?_))))
  refine zF rfl rfl (kQ (X := Nat × Nat) (vs := [_, _]) (p := fun g => MostP fs kiln (days.take d) g.1 g.2) (val := fun g => .tuple #[.int .i64 (g.1 : Int), .int .i64 (g.2 : Int)]) (rs := fun _ => []) rfl rfl F.ent39 (fun a w ha => (zYi hc hcap hd w (hR.later ha.below) (zUj (A := A) ha hf1) (zCi (A := A) ha rfl) (wE (A := D) ha rfl)).mono (fun e w' h => ?_)) ?_)
  ·obtain ⟨⟨n, er, h1, h2⟩, h3⟩ := h
   exact ⟨(n, er), h1, h2, h3⟩
  rintro ⟨n, er⟩ hmp
  dsimp only [List.nil_append] at hmp ⊢
  obtain ⟨N, hN1, hN2, hNe, hP1⟩ := mostN hc hmp
  refine zF rfl rfl (zP rfl rfl rfl (zP rfl rfl rfl (zE rfl rfl (zE rfl rfl (zA (zC (zD (zB (jA rfl rfl F.agg27 F.ti27 ?_)))))))))
  refine zF rfl rfl (jJ (v := .tuple #[.int .i64 ((optN (sprN fs kiln days d 12) : Nat) : Int), .int .i64 ((optE (sprN fs kiln days d 12) : Nat) : Int)]) (vs := [_, _]) rfl rfl F.ent40 (fun a w ha => zV7 hc hd w (zCi (A := A) ha rfl) (wE (A := D) ha rfl)) ?_)
  obtain ⟨S, hS1, hS2, hSN, hSe, hP2⟩ := spareN (kiln := kiln) (fs := fs) hd hP1 hN1
  generalize optN (sprN fs kiln days d 12) = sn at hSe ⊢
  generalize optE (sprN fs kiln days d 12) = se at hSe ⊢
  refine zF rfl rfl (zP rfl rfl rfl (zP rfl rfl rfl (zE rfl rfl (zE rfl rfl (zA (zC (zD (zD (zB (zF rfl rfl (zJ rfl rfl rfl jV ?_)))))))))))
  refine zA (zC (xH (G := Unit) (fun _ => True) (fun _ => [(3, .pointer (some ⟨b3, 0, none⟩)), (4, .int .i64 (d : Int)), (5, .pointer (some ⟨b5, 0, none⟩)), (6, .int .i64 N), (8, .int .i64 (sn : Int)), (9, .int .i64 (se : Int))]) (fun _ => [.blk b5 (.cells [.slice A2 fs.length c2, .int .i64 (kiln : Int), .slice D2 (d + 1) dc2].toArray 27 (0, 0)), .row 49 4 A2 fs.length c2 (fs.flatMap Flt.cells), .row 3 1 D2 days.length dc2 (ints days), .blk b3 (.cells [.slice A fs.length c, .int .i64 (kiln : Int), .slice D days.length dc].toArray 27 (0, 0)), .row 49 4 A fs.length c (fs.flatMap Flt.cells), .row 3 1 D days.length dc (ints days)]) ?_ ?_))
  ·refine zO rfl (fun hc1 => ?_) (fun hc1 => ?_)
   ·have hN9 : N = -1 := by omega
    subst hN9
    refine zB (zE rfl rfl (zA ?_))
    exact jT () trivial sbn pkk
   ·obtain ⟨rfl, rfl⟩ : er = 0 ∧ N = (n : Int) := by omega
    refine zD (zB (zF rfl rfl (zJ rfl rfl rfl qT ?_)))
    refine zF rfl rfl (zM rfl rfl (zF rfl rfl (zM rfl rfl (zJ (v := .bool false) rfl rfl rfl (fun w => by rw [kI, decide_eq_false om]) ?_))))
    refine jM rfl rfl rfl (zF rfl rfl (zM rfl rfl (zF rfl rfl (zM rfl rfl (zJ (v := .bool false) rfl rfl rfl (fun w => by rw [yL, decide_eq_false om]) ?_)))))
    refine jM rfl rfl rfl (zA (zC (kB rfl (zR ?_))))
    exact jT () trivial sbn pkk
  ·rintro ⟨⟩ -
   (try dsimp only)
   refine zC (zD (zD (zB (zF rfl rfl (zJ rfl rfl rfl jV ?_)))))
   refine zA (zC (xH (G := Unit) (fun _ => True) (fun _ => [(3, .pointer (some ⟨b3, 0, none⟩)), (4, .int .i64 (d : Int)), (5, .pointer (some ⟨b5, 0, none⟩)), (6, .int .i64 N), (8, .int .i64 S)]) (fun _ => [.blk b5 (.cells [.slice A2 fs.length c2, .int .i64 (kiln : Int), .slice D2 (d + 1) dc2].toArray 27 (0, 0)), .row 49 4 A2 fs.length c2 (fs.flatMap Flt.cells), .row 3 1 D2 days.length dc2 (ints days), .blk b3 (.cells [.slice A fs.length c, .int .i64 (kiln : Int), .slice D days.length dc].toArray 27 (0, 0)), .row 49 4 A fs.length c (fs.flatMap Flt.cells), .row 3 1 D days.length dc (ints days)]) ?_ ?_))
   ·refine zO rfl (fun hc3 => ?_) (fun hc3 => ?_)
    ·have hS9 : S = -1 := by omega
     subst hS9
     refine zB (zE rfl rfl (zA ?_))
     exact jT () trivial sbn pkk
    ·obtain ⟨rfl, rfl⟩ : se = 0 ∧ S = (sn : Int) := by omega
     refine zD (zB (zF rfl rfl (zJ rfl rfl rfl qT ?_)))
     refine zF rfl rfl (zM rfl rfl (zF rfl rfl (zM rfl rfl (zJ (v := .bool false) rfl rfl rfl (fun w => by rw [kI, decide_eq_false om]) ?_))))
     refine jM rfl rfl rfl (zF rfl rfl (zM rfl rfl (zF rfl rfl (zM rfl rfl (zJ (v := .bool false) rfl rfl rfl (fun w => by rw [yL, decide_eq_false om]) ?_)))))
     refine jM rfl rfl rfl (zF rfl rfl (zM rfl rfl (zF rfl rfl (zM rfl rfl (zF rfl rfl (zM rfl rfl (zJ (v := .bool false) rfl rfl rfl (fun w => by rw [yL, decide_eq_false om]) ?_)))))))
     refine jM rfl rfl rfl (zA (zC (kB rfl (zR ?_))))
     exact jT () trivial sbn pkk
   ·rintro ⟨⟩ -
    (try dsimp only)
    refine zC (zD (zB (zE rfl rfl (zA (zC (zZ (vF (G := Nat) (fun k => k <= 2) (fun k => 2 - k) (fun k => [(3, .pointer (some ⟨b3, 0, none⟩)), (4, .int .i64 (d : Int)), (5, .pointer (some ⟨b5, 0, none⟩)), (6, .int .i64 N), (8, .int .i64 S), (10, .int .i64 (k : Int))]) (fun k => [.blk b5 (.cells [.slice A2 fs.length c2, .int .i64 (kiln : Int), .slice D2 (d + 1) dc2].toArray 27 (0, 0)), .row 49 4 A2 fs.length c2 (fs.flatMap Flt.cells), .row 3 1 D2 days.length dc2 (ints days), .blk b3 (.cells [.slice A fs.length c, .int .i64 (kiln : Int), .slice D days.length dc].toArray 27 (0, 0)), .row 49 4 A fs.length c (fs.flatMap Flt.cells), .row 3 1 D days.length dc (ints days)]) 0 (Nat.zero_le _) sbn pkk ?_)))))))
    intro k hk0
    (try dsimp only at hk0 ⊢)
    refine zD (zD (zB (zF rfl rfl (zJ rfl rfl rfl kI ?_))))
    refine zA (zC (zO rfl (fun hc5 => ?_) (fun hc5 => ?_)))
    ·have hk : k <= 1 := by omega
     refine zR (zC (zD (zZ (zD (zD (zB (yS 10 87 (.bool (decide (0 <= N + (k : Int) ∧ N + (k : Int) <= 12))) ?_ ?_)))))))
     ·refine zF rfl rfl (zF rfl rfl (zJ (v := .int .i64 (N + (k : Int))) rfl rfl rfl (fun w => jN w (zX _ om om)) ?_))
      refine zJ rfl rfl rfl zIz ?_
      refine zF rfl rfl (vU (t := 82) rfl (fun hg82 => ?_) (fun hg82 => ?_))
      ·refine zM rfl rfl (zF rfl rfl (zM rfl rfl (zF rfl rfl (zM rfl rfl (zJ (v := .int .i64 (N + (k : Int))) rfl rfl rfl (fun w => jN w (zX _ om om)) ?_)))))
       refine zM rfl rfl (zJ rfl rfl rfl zFx ?_)
       refine jG rfl rfl rfl (zA ?_)
       exact qZ (.cons (by simp_all [look] <;> omega) sbn) sbl
      ·refine jD rfl rfl rfl (jD rfl rfl rfl (jD rfl rfl rfl (jD rfl rfl rfl (jM rfl rfl rfl (zA ?_)))))
       exact qZ (.cons (by simp_all [look] <;> omega) sbn) sbl
     refine zA (zC (xH (G := Unit) (fun _ => True) (fun _ => [(3, .pointer (some ⟨b3, 0, none⟩)), (4, .int .i64 (d : Int)), (5, .pointer (some ⟨b5, 0, none⟩)), (6, .int .i64 N), (8, .int .i64 S), (10, .int .i64 (k : Int))]) (fun _ => [.blk b5 (.cells [.slice A2 fs.length c2, .int .i64 (kiln : Int), .slice D2 (d + 1) dc2].toArray 27 (0, 0)), .row 49 4 A2 fs.length c2 (fs.flatMap Flt.cells), .row 3 1 D2 days.length dc2 (ints days), .blk b3 (.cells [.slice A fs.length c, .int .i64 (kiln : Int), .slice D days.length dc].toArray 27 (0, 0)), .row 49 4 A fs.length c (fs.flatMap Flt.cells), .row 3 1 D days.length dc (ints days)]) ?_ ?_))
     ·refine zO rfl (fun hc6 => ?_) (fun hc6 => ?_)
      ·obtain ⟨x, hx⟩ : ∃ x : Nat, N + (k : Int) = (x : Int) := ⟨(N + (k : Int)).toNat, by omega⟩
       have hx12 : x <= 12 := by omega
       refine zD (zB (jA rfl rfl F.agg27 F.ti27 ?_))
       refine zF rfl rfl (zF rfl rfl (zF rfl rfl (zJ (v := .int .i64 (x : Int)) rfl rfl rfl (fun w => jN w (by rw [zX _ om om]; exact hx)) ?_)))
       refine kQ (X := Option Addr × Nat) (vs := [_, _, _]) (p := fun _ => True) (val := fun g => .agg [.slice A2 fs.length c2, .int .i64 (kiln : Int), .slice g.1 (d + 1) g.2].toArray) (rs := fun g => [.row 3 1 g.1 (d + 1) g.2 (ints ((days.take (d + 1)).set d x))]) rfl rfl F.ent41 (fun a w ha => ?_) ?_
       ·have h := zRc (fA := A2) (fc := c2) (dA := D2) (dc := dc2) (kiln := kiln) (fs := fs) (days := (days.take (d + 1))) (d := d) (n := x) (by have := hc.d4; rw [hlen]; omega) (by rw [hlen]; omega) w ((wE (A := D2) ha rfl).take (d + 1))
        rw [hlen] at h
        refine h.mono ?_
        rintro e w' ⟨D', dc', h1, h2⟩
        exact ⟨(D', dc'), trivial, h1, h2⟩
       rintro ⟨D4, dc4⟩ -
       dsimp only [List.cons_append, List.nil_append]
       refine jJ (v := .tuple #[.bool (bstA fs kiln ((days.take (d + 1)).set d x)).is, .bool true]) (vs := [_]) rfl rfl F.ent25 (fun a w ha => ?_) ?_
       ·have h := zUq (fA := A2) (fc := c2) (dA := D4) (dc := dc4) (kiln := kiln) (fs := fs) (days := (days.take (d + 1)).set d x) ((hc.take (k := d + 1) om).set hx12) w (zCi (A := A2) ha rfl) (wE (A := D4) ha (by rw [List.length_set, hlen]))
        rw [List.length_set, hlen] at h
        exact h
       refine zF rfl rfl (zP rfl rfl rfl (zP rfl rfl rfl (zE rfl rfl (zE rfl rfl (zA (zC (zD (zB (zF rfl rfl (kP rfl rfl (zF rfl rfl (zM rfl rfl (zF rfl rfl (zM rfl rfl (zF rfl rfl (zM rfl rfl (zJ rfl rfl rfl jV ?_)))))))))))))))))
       refine zM rfl rfl (zF1 (v := .bool false) rfl rfl rfl (fun w => by rw [zFf Try.underlying4]; refine congrArg (fun b => Result.ok (Value.bool b) w) ?_; rw [zMi hd, hP1 x]; rcases Nat.eq_zero_or_pos k with h | h <;> simp <;> omega) ?_)
       refine jM rfl rfl rfl (zA (zC (kB rfl (zR ?_))))
       exact jT () trivial sbn pkk
      ·refine zR ?_
       exact jT () trivial sbn pkk
     ·rintro ⟨⟩ -
      (try dsimp only)
      refine zC (zD (zB (yS 10 115 (.bool (decide (0 <= S + (k : Int) ∧ S + (k : Int) <= 12))) ?_ ?_)))
      ·refine zF rfl rfl (zF rfl rfl (zJ (v := .int .i64 (S + (k : Int))) rfl rfl rfl (fun w => jN w (zX _ om om)) ?_))
       refine zJ rfl rfl rfl zIz ?_
       refine zF rfl rfl (vU (t := 110) rfl (fun hg110 => ?_) (fun hg110 => ?_))
       ·refine zM rfl rfl (zF rfl rfl (zM rfl rfl (zF rfl rfl (zM rfl rfl (zJ (v := .int .i64 (S + (k : Int))) rfl rfl rfl (fun w => jN w (zX _ om om)) ?_)))))
        refine zM rfl rfl (zJ rfl rfl rfl zFx ?_)
        refine jG rfl rfl rfl (zA ?_)
        exact qZ (.cons (by simp_all [look] <;> omega) sbn) sbl
       ·refine jD rfl rfl rfl (jD rfl rfl rfl (jD rfl rfl rfl (jD rfl rfl rfl (jM rfl rfl rfl (zA ?_)))))
        exact qZ (.cons (by simp_all [look] <;> omega) sbn) sbl
      refine zA (zC (zO rfl (fun hc8 => ?_) (fun hc8 => ?_)))
      ·obtain ⟨x, hx⟩ : ∃ x : Nat, S + (k : Int) = (x : Int) := ⟨(S + (k : Int)).toNat, by omega⟩
       have hx12 : x <= 12 := by omega
       refine zD (zB (jA rfl rfl F.agg27 F.ti27 ?_))
       refine zF rfl rfl (zF rfl rfl (zF rfl rfl (zJ (v := .int .i64 (x : Int)) rfl rfl rfl (fun w => jN w (by rw [zX _ om om]; exact hx)) ?_)))
       refine kQ (X := Option Addr × Nat) (vs := [_, _, _]) (p := fun _ => True) (val := fun g => .agg [.slice A fs.length c, .int .i64 (kiln : Int), .slice g.1 days.length g.2].toArray) (rs := fun g => [.row 3 1 g.1 days.length g.2 (ints (days.set d x))]) rfl rfl F.ent41 (fun a w ha => ?_) ?_
       ·have h := zRc (fA := A) (fc := c) (dA := D) (dc := dc) (kiln := kiln) (fs := fs) (days := days) (d := d) (n := x) (by have := hc.d4; omega) om w ((wE (A := D) ha rfl))
        refine h.mono ?_
        rintro e w' ⟨D', dc', h1, h2⟩
        exact ⟨(D', dc'), trivial, h1, h2⟩
       rintro ⟨D4, dc4⟩ -
       dsimp only [List.cons_append, List.nil_append]
       refine jJ (v := .tuple #[.bool (bstA fs kiln (days.set d x)).is, .bool true]) (vs := [_]) rfl rfl F.ent25 (fun a w ha => ?_) ?_
       ·have h := zUq (fA := A) (fc := c) (dA := D4) (dc := dc4) (kiln := kiln) (fs := fs) (days := days.set d x) (hc.set hx12) w (zCi (A := A) ha rfl) (wE (A := D4) ha (by rw [List.length_set]))
        rw [List.length_set] at h
        exact h
       refine zF rfl rfl (zP rfl rfl rfl (zP rfl rfl rfl (zE rfl rfl (zE rfl rfl (zA (zC (zD (zB (zF rfl rfl (kP rfl rfl (zF rfl rfl (zM rfl rfl (zF rfl rfl (zM rfl rfl (zF rfl rfl (zM rfl rfl (zJ rfl rfl rfl jV ?_)))))))))))))))))
       refine zM rfl rfl (zF1 (v := .bool false) rfl rfl rfl (fun w => by rw [zFf Try.underlying4]; refine congrArg (fun b => Result.ok (Value.bool b) w) ?_; rw [hP2 k x hk hx hx12]; rcases Nat.eq_zero_or_pos k with h | h <;> simp <;> omega) ?_)
       refine jM rfl rfl rfl (zA (zC (kB rfl (zR (zN (zC (zB (zF rfl rfl (zJ rfl rfl rfl (fun w => jN w (zX _ om om)) ?_)))))))))
       refine zE rfl rfl (zA (qU (k + 1) om tdo sbn pkk))
      ·refine zR (zN (zC (zB (zF rfl rfl (zJ rfl rfl rfl (fun w => jN w (zX _ om om)) ?_)))))
       refine zE rfl rfl (zA (qU (k + 1) om tdo sbn pkk))
    ·refine kC (zS (zS (jH (zN (zC (zB (zF rfl rfl (zJ rfl rfl rfl (fun w => jN w (zX _ om om)) ?_))))))))
     refine zE rfl rfl (zA (qU (d + 1) om tdo sbn pkk))
 ·refine kC (zS (zS (jH (zC (zD (zB (jJ (v := .bool true) (vs := []) rfl rfl F.ent20 (fun a w ha => zSc w (hR.later ha.below)) ?_)))))))
  refine zE rfl rfl (zA (zC (zU ?_)))
  exact jE rfl (fun a w ha => jO rfl rfl ha) (fun a w ha => ⟨rfl, ha.grown nsl⟩)

end Go.Proofs.Yteppiphdbondeaa.N
namespace Go.Proofs.Yteppiphdbondeaa.N
open Go Go.RowKit Go.Conc
set_option linter.unusedSectionVars false

def seenZ (W : World) : World := { seenW W with output := gout [0] }
theorem zRw (W : World) : Hid (Viewed W) (fun _ => False) W (seenZ W) := by
 have h := zQv W
 exact ⟨h.1, h.2, h.3, h.4, h.5, h.6, h.7, h.8, h.9, h.10⟩
theorem zQc {W : World} {p : Addr} {u : Value} (h : W.cell? p = some u) : (seenZ W).cell? p = some u := zO9 h
section
variable {P : Program} {W : World} {f : FuncId} {args : Array Value} {Post : Value -> World -> Prop}
theorem zM4 {F : Nat -> Prop} {w w' v' : World} (hk : Kept F (fun _ => False) w w') (hv : Hid F (fun _ => False) w' v') (hb : Bas W (Viewed W) (fun i => i = 0) (fun _ => F) w) (hv0 : Below (seenZ W).heap.size (seenZ W) v') : Below W.heap.size W w' := by
 refine ⟨hk.os.trans hb.os, hk.tape.trans hb.tape, hk.output.trans hb.output, Nat.le_trans hb.size hk.size, fun b hlt => ?_⟩
 by_cases hF : F b
 ·rw [hk.block b (Nat.lt_of_lt_of_le hlt hb.size) (.inl hF)]
  exact (hb.held b (hb.new b hlt hF)).2.1
 ·rw [<- hv.same b hF (fun x => x), hv0.block b (by simpa [seenZ, seenW] using hlt)]
  show (seenW W).heap[b]? = _
  rw [zAg]
  cases h : W.heap[b]? with
  | none => rfl
  | some o =>
   cases o with
   | view p t => exact absurd ((hb.held b ⟨p, t, h⟩).2.2 0 rfl) hF
   | _ => rfl
def sig0 : Cst := ⟨0, 0, 0, [], 0, false, false, false, 0, 0, .rest, [], [], fun _ => none, []⟩
theorem zO5 : sig0.blank := ⟨fun _ => rfl, rfl, rfl, rfl, rfl, rfl, rfl, rfl, rfl⟩
theorem zV8 (low : Nat) : Cok low sig0 := by
 refine ⟨List.nodup_nil, rfl, fun j => ?_, fun j p h => (by cases h), fun b hb => (by cases hb), fun h => (by cases h), fun h => (by cases h), fun h => (by cases h), by decide, rfl, .nil, zO5⟩
 constructor
 ·intro h; cases h
 ·rintro ⟨p, h⟩; cases h
theorem zU8 {low : Nat} {tW : TypeId} {msg : Nat -> Value} {σ : Cst} (hok : Cok low σ) (h : σ.gh 0 = some [0]) : Alone (Cp low tW msg) σ ∧ σ.lent = [] ∧ ∀ c, ¬ (Cst.ts σ).Ca c := by
 rw [zAa] at h
 have hp := hok.phase
 cases hm : σ.mn <;> rw [hm] at h <;> simp [Mn.enc] at h
 unfold Cst.phase at hp
 rw [hm] at hp
 obtain ⟨h1, h2, h3, h4, h5, h6, h7, h8, h9⟩ := hp
 refine ⟨?_, h9, fun c hc => ?_⟩
 ·refine ⟨fun j hj => zAc hj h1, ?_⟩
  show (Cst.ts σ).D 0 = 0
  simp [Cst.ts, hm, Mn.deaf]
 ·rcases hc with ⟨h, _⟩ | ⟨h, _⟩ <;> omega
theorem zIj {low : Nat} {tW : TypeId} {msg : Nat -> Value} (hK : low = W.heap.size) (noInit : P.inits.idxOf? f = none)
  (h : @Calls P (zSys P (Cp low tW msg)) f args (seenZ W) fun e v' => ∃ x, e = .returned x ∧ Below (seenZ W).heap.size (seenZ W) v' ∧ ∀ W', Below W.heap.size W W' -> Post x W') :
  ∃ N last o w' t', runNT P (N + 1) (solo (G (Frame.enter P f args .normal) []) W) #[] = (.ended o w', t') ∧ runN P N (solo (G (Frame.enter P f args .normal) []) W) = .next last ∧ step P last = .ended o w' ∧ Go.Conc.Good P Post last o w' t' := by
 refine zXy (K := Cp low tW msg) (σ := sig0) (γ := [0]) zV3 hK (zRw W) rfl (zV8 low) rfl (fun j hj => wY hj rfl) (fun b hb => (by cases hb)) rfl rfl (@Gs.mono P (zSys P (Cp low tW msg)) _ _ _ _ (h []) fun g v' hs => ?_)
 obtain ⟨e, fr, v₀, ⟨x, rfl, hb, hp⟩, hr, rfl, hfn, hm, hd, hkd, fn, hf, ht, hres⟩ := hs
 have hb' : Below (seenZ W).heap.size (seenZ W) v' := hb.trans (hr.mono hb.size)
 refine ⟨rfl, ⟨[0], hb'.output, fun σ hok hg => zU8 hok hg⟩, fun F w hv hbas => ?_⟩
 obtain ⟨w', h1, h2, h3, h4, h5⟩ := ht.ok (hres v' (Rl.refl v')) hv
 have hno : P.inits.idxOf? fr.fn = none := by rw [hfn]; exact noInit
 refine ⟨x, w', seen P fr.fn ((results fn fr.tmps).events P v' #[]), ?_, ?_, hp w' (zM4 h4 h3 hbas hb')⟩
 ·rw [<- h2]
  simp [G, stepG, unwind, doReturn, hm, hd, hkd, hf, h1, hno, GStep.after]
 ·rw [<- hv.size]
  exact fun e he => h5 e (Go.Conc.mem_seen he)
end
theorem zAj {H : Type} {enc : TypeId × Value -> H} {a : Assume} {C : Checked} {os : Os} {f : FuncId} {fn : Func} {s : ChangeSpec} {conds : List PathCond} {apart fresh handsOn again : Bool} (tW : TypeId) (msg : Nat -> Value)
  (own : ownKnob C.prog.godebug = none) (started : os.Started) (noInit : C.prog.inits.idxOf? f = none) (hfn : C.prog.funcs[f]? = some fn)
  (witness : ∃ (w : World) (tape : Tape) (i : Input), w.os = os ∧ (w.forCall tape i).Shaped C.prog ∧ i.vars = [] ∧ Input.okWide C.prog (w.forCall tape i) .any w.heap.size f i ∧
   s.pre6 enc C.prog fn conds apart (w.forCall tape i).memory i.args ∧ a.holds C.prog (lone (Frame.enter C.prog f i.args .normal) [] (w.forCall tape i)))
  (contract : ∀ (W : World) (base : Nat) (args : Array Value) (ds gs : List (DataW H)) (before : List MemPlace),
   (∀ (j : Nat) t v, fn.params[j]? = some t -> args[j]? = some v -> Value.okWide C.prog W .any base t v) ->
   DataW.Whole enc C.prog fn.params.toList s.vars apart W args.toList ds gs before ->
   conds.all (PathCond.test C.prog ⟨fn.params.toList, ds, s.plain.varTypes C.prog, gs⟩) = true ->
   (DataW.weightsEach C.prog (fn.params.toList ++ s.plain.varTypes C.prog) (ds ++ gs)).all (· <= reachBytes) = true ->
   a.holds C.prog (lone (Frame.enter C.prog f args .normal) [] W) ->
   @Calls C.prog (zSys C.prog (Cp W.heap.size tW msg)) f args (seenZ W) fun e v' => ∃ x, e = .returned x ∧ Below (seenZ W).heap.size (seenZ W) v' ∧ ∀ W', Below W.heap.size W W' -> s.post enc C.prog fn apart fresh handsOn again W args x W') :
  ReturnsInLeavingWide a C os f .any (s.pre6 enc C.prog fn conds apart) (s.post enc C.prog fn apart fresh handsOn again) := by
 refine returnsInLeavingWide_of_good own started witness ?_
 intro w tape i _ _ _ hok hpre hholds
 obtain ⟨_, _, _, fn', hfn', _, _, _, _, hval⟩ := hok
 have e : fn' = fn := Option.some.inj (hfn'.symm.trans hfn)
 subst e
 obtain ⟨⟨ds, gs, before, hw, hc⟩, hz⟩ := hpre
 have hw' := DataW.Whole.of_heap (w' := w.forCall tape i) (by rfl) hw
 have hcalls := contract (w.forCall tape i) w.heap.size i.args ds gs before hval hw' hc (hz.weights hw) hholds
 obtain ⟨M, last, o, w', t', h1, h2, h3, h4⟩ := zIj rfl noInit hcalls
 exact ⟨M, last, o, w', t', h1, h2, h3, h4.mono fun v hp => ChangeSpec.post_blind hp⟩
end Go.Proofs.Yteppiphdbondeaa.N
