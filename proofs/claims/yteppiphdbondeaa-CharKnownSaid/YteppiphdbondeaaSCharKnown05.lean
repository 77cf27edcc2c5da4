/- Parts of the walk of the law CharKnown: G1, G2, Sx3, Sq, Bits, Mod, V12, Rng, Sx4, Sx5, ChP, T1, ChP2, T2, T3, SxI, ChI, ChP3. -/
import Derived.Test.YteppiphdbondeaaSCharKnown04
import Derived.Test.YteppiphdbondeaaProg
import Derived.Test.YteppiphdbondeaaSCharKnown01
import Derived.Test.YteppiphdbondeaaSCharKnown00
import Derived.RangeFuncRecord
import Derived.DeepKeys3
namespace Go.Proofs.Yteppiphdbondeaa.N
open Go Go.RowKit Go.Proofs Go.Conc
set_option linter.unusedSectionVars false
set_option linter.unusedVariables false
set_option maxRecDepth 4000
section
variable [I : Sys]
theorem F.fi128_2 : FI Try.prog 128 2 70 0 := ⟨_, _, Try.underlying128, rfl, rfl, rfl⟩
theorem F.fi131_1 : FI Try.prog 131 1 128 0 := ⟨_, _, Try.underlying131, rfl, rfl, rfl⟩
theorem F.fi131_2 : FI Try.prog 131 2 129 1 := ⟨_, _, Try.underlying131, rfl, rfl, rfl⟩
theorem F.one122 : One Try.prog 122 := ⟨by unfold aggB; rw [Try.underlying122], by rw [Try.underlying122]; simp⟩
theorem F.ti128 : TI Try.prog 128 (.agg [.int .u64 0].toArray) 1 8 := TI.of (by kernel_rfl)
theorem F.ti129 : TI Try.prog 129 (.int .u32 0) 1 4 := TI.of (by kernel_rfl)
theorem F.ti70 : TI Try.prog 70 (.int .u64 0) 1 8 := TI.of (by kernel_rfl)
end
theorem E.relMerge : Ent Try.prog 88 (Extern.Race.marked .releaseMerge) := ⟨_, Try.func88, by kernel_rfl, by kernel_rfl, by kernel_rfl, by kernel_rfl⟩
theorem E.acquire : Ent Try.prog 101 (Extern.Race.marked .acquire) := ⟨_, Try.func101, by kernel_rfl, by kernel_rfl, by kernel_rfl, by kernel_rfl⟩
theorem E.read : Ent Try.prog 96 (Extern.Race.marked .read) := ⟨_, Try.func96, by kernel_rfl, by kernel_rfl, by kernel_rfl, by kernel_rfl⟩
theorem E.write : Ent Try.prog 104 (Extern.Race.marked .write) := ⟨_, Try.func104, by kernel_rfl, by kernel_rfl, by kernel_rfl, by kernel_rfl⟩
theorem E.disable : Ent Try.prog 89 (fun _ => do mark .disable; pure Extern.Race.none_) := ⟨_, Try.func89, by kernel_rfl, by kernel_rfl, by kernel_rfl, by kernel_rfl⟩
theorem E.enable : Ent Try.prog 90 (fun _ => do mark .enable; pure Extern.Race.none_) := ⟨_, Try.func90, by kernel_rfl, by kernel_rfl, by kernel_rfl, by kernel_rfl⟩
theorem E.semrel : Ent Try.prog 100 Extern.Sync.semrelease := ⟨_, Try.func100, by kernel_rfl, by kernel_rfl, by kernel_rfl, by kernel_rfl⟩
theorem E.semacq : Ent Try.prog 105 Extern.Sync.semacquire := ⟨_, Try.func105, by kernel_rfl, by kernel_rfl, by kernel_rfl, by kernel_rfl⟩
theorem E.add : Ent Try.prog 111 (Extern.Atomic.update (Op.intArith .add) .u64 true) := ⟨_, Try.func111, by kernel_rfl, by kernel_rfl, by kernel_rfl, by kernel_rfl⟩
theorem E.load : Ent Try.prog 112 (Extern.Atomic.loadT (.int .u64)) := ⟨_, Try.func112, by kernel_rfl, by kernel_rfl, by kernel_rfl, by kernel_rfl⟩
theorem E.store : Ent Try.prog 113 Extern.Atomic.storeT := ⟨_, Try.func113, by kernel_rfl, by kernel_rfl, by kernel_rfl, by kernel_rfl⟩
theorem E.cas : Ent Try.prog 114 (Extern.Atomic.casT (.int .u64)) := ⟨_, Try.func114, by kernel_rfl, by kernel_rfl, by kernel_rfl, by kernel_rfl⟩
section
variable {low : Nat} {msg : Nat -> Value} {Stop : Goroutine -> World -> Prop} {v : World} {i : Nat} {W0 f0 d0 e0 : Nat}
theorem zUc (hi : i ≠ 0) {a : Act} {todo : List Item} (hs : Sl a.tmps.size [] [] a) : ΦN Try.prog (Cp low 131 msg) i Stop v (Wkr.enc W0 f0 (.send [])) (G (Frame.enter Try.prog 77 [.pointer (some ⟨W0, 0, none⟩)].toArray .deferred) [{ (baseD 76).at a todo with mode := .returning }, bornF Try.prog]) := by
 letI : Sys := nSys Try.prog (Cp low 131 msg) i
 refine zKn Try.func77 rfl rfl rfl ?_
 refine zS (l := [0, 1]) rfl ?_
 refine zH (x := .pointer (some ⟨W0, 0, none⟩)) rfl rfl (bkD _) rfl rfl (zN rfl) ?_
 refine zAj (vs := [.pointer (some ⟨W0, 0, none⟩), .int .i64 (-1)]) rfl rfl (bkD _) rfl Try.func75 (by kernel_rfl) rfl rfl rfl rfl (fun a1 h1 => ?_)
 refine jB ?_
 refine xD rfl ?_
 refine jB ?_
 refine jB ?_
 refine zS (l := [0, 1]) rfl ?_
 refine zH (x := .int .i64 (-1)) rfl rfl (bk _) rfl rfl (zN rfl) ?_
 refine zH (x := .bool true) rfl rfl (bk _) rfl rfl (kE rfl rfl (zBb (decide_eq_true (by omega)))) ?_
 refine jH ?_
 refine xD rfl ?_
 refine zS (l := [0, 1, 2]) rfl ?_
 refine zH (x := .pointer (some ⟨W0, 0, none⟩)) rfl rfl (bk _) rfl rfl (zN rfl) ?_
 refine zVm rfl rfl (bk _) rfl rfl Try.underlying144 Try.underlying146 (by kernel_rfl) (.inl rfl) ?_
 refine zXj hi rfl rfl (bk _) rfl rfl rfl rfl E.relMerge ?_
 refine jH ?_
 refine jB ?_
 refine zS (l := [0]) rfl ?_
 refine zYn rfl rfl (bk _) rfl rfl rfl E.disable ?_
 refine jH ?_
 refine zS (l := [0]) rfl ?_
 refine zNs rfl rfl (bk _) rfl rfl ?_
 refine jH ?_
 refine jB ?_
 refine zS (l := [0]) rfl ?_
 refine zH (x := .bool false) rfl rfl (bk _) rfl rfl (jM rfl) ?_
 refine jH ?_
 refine jB ?_
 refine jB ?_
 refine zS (l := [0]) rfl ?_
 refine zP4 (.bool false) rfl rfl (bk _) rfl rfl rfl Try.func91 (by kernel_rfl) rfl (by kernel_rfl) (by kernel_rfl) ?_
 refine jH ?_
 refine kN rfl ?_
 refine kY ?_
 refine jB ?_
 refine zS (l := [0, 1, 2, 3, 4, 5, 6, 7]) rfl ?_
 refine zH (x := .pointer (some ⟨W0, 0, none⟩)) rfl rfl (bk _) rfl rfl (zN rfl) ?_
 refine zH (x := .pointer (some ⟨W0, 0, none⟩)) rfl rfl (bk _) rfl rfl (kT rfl) ?_
 refine zH (x := .pointer (some ⟨W0, 0, none⟩)) rfl rfl (bk _) rfl rfl (qN rfl F.fi131_1 F.ti128) ?_
 refine zH (x := .int .i64 (-1)) rfl rfl (bk _) rfl rfl (zN rfl) ?_
 refine zH (x := .int .u64 18446744073709551615) rfl rfl (bk _) rfl rfl (kS rfl Try.underlying3 Try.underlying70 (by decide)) ?_
 refine zH (x := .int .u64 18446744069414584320) rfl rfl (bk _) rfl rfl (zA4 (.inl rfl) rfl rfl (zPo (by decide) (by decide))) ?_
 refine zAj (vs := [.pointer (some ⟨W0, 0, none⟩), .int .u64 18446744069414584320]) rfl rfl (bk _) rfl Try.func95 (by kernel_rfl) rfl rfl rfl rfl (fun a2 h2 => ?_)
 refine jB ?_
 refine zS (l := [0]) rfl ?_
 refine zH (x := .int .u64 0) rfl rfl (bk _) rfl rfl (jM rfl) ?_
 refine jH ?_
 refine jB ?_
 refine zS (l := [0, 1, 2, 3, 4, 5]) rfl ?_
 refine zH (x := .pointer (some ⟨W0, 0, none⟩)) rfl rfl (bk _) rfl rfl (zN rfl) ?_
 refine zH (x := .pointer (some ⟨W0, 0, none⟩)) rfl rfl (bk _) rfl rfl (kT rfl) ?_
 refine zH (x := .pointer (some ⟨W0, 0, none⟩)) rfl rfl (bk _) rfl rfl (qN rfl F.fi128_2 F.ti70) ?_
 refine zH (x := .int .u64 18446744069414584320) rfl rfl (bk _) rfl rfl (zN rfl) ?_
 refine zXw rfl rfl (bk _) rfl rfl rfl rfl rfl E.add (fun c w hc hw hcw => ?_) ?_
 ·obtain rfl | rfl : w = 0 ∨ w = 1 := by omega
  ·rcases Nat.eq_zero_or_pos c with rfl | hc0
   ·
    refine zH (x := .int .u64 (stt 0 0)) rfl rfl (bk _) rfl rfl (jM rfl) ?_
    refine jH ?_
    refine vH ?_
    refine qK rfl Try.func95 (.inr ⟨4, rfl, rfl⟩) rfl rfl rfl h2 ?_
    refine zH (x := .int .u64 (stt 0 0)) rfl rfl (bk _) rfl rfl (jM rfl) ?_
    refine jH ?_
    refine jB ?_
    refine jB ?_
    refine zS (l := [0, 1, 2, 3, 4, 5, 6]) rfl ?_
    refine zH (x := .int .u64 (stt 0 0)) rfl rfl (bk _) rfl rfl (zN rfl) ?_
    refine zH (x := .int .u64 0) rfl rfl (bk _) rfl rfl (kE rfl rfl (zAb (by omega) (by decide))) ?_
    refine zH (x := .bool false) rfl rfl (bk _) rfl rfl (kE rfl rfl (xV (decide_eq_false (by omega)))) ?_
    refine zH (x := .bool false) rfl rfl (bk _) rfl rfl (zN rfl) ?_
    refine kA rfl ⟨_, _, rfl, rfl, rfl⟩ rfl rfl ?_
    refine kA rfl ⟨_, _, rfl, rfl, rfl⟩ rfl rfl ?_
    refine zH (x := .bool false) rfl rfl (bk _) rfl rfl (kH false rfl rfl) ?_
    refine jH ?_
    refine kN rfl ?_
    refine kY ?_
    refine jB ?_
    refine zS (l := [0, 1, 2, 3]) rfl ?_
    refine zH (x := .int .u64 (stt 0 0)) rfl rfl (bk _) rfl rfl (zN rfl) ?_
    refine zH (x := .int .u64 ((0 : Nat) : Int)) rfl rfl (bk _) rfl rfl (zA4 (.inr rfl) rfl rfl (zAe (by decide))) ?_
    refine zH (x := .int .i32 ((0 : Nat) : Int)) rfl rfl (bk _) rfl rfl (kS rfl Try.underlying70 Try.underlying21 (yJ (by omega))) ?_
    refine zH (x := .int .i32 ((0 : Nat) : Int)) rfl rfl (bk _) rfl rfl (jM rfl) ?_
    refine jH ?_
    refine jB ?_
    refine zS (l := [0, 1, 2, 3]) rfl ?_
    refine zH (x := .int .u64 (stt 0 0)) rfl rfl (bk _) rfl rfl (zN rfl) ?_
    refine zH (x := .int .u64 ((0 : Nat) : Int)) rfl rfl (bk _) rfl rfl (kE rfl rfl (wY (by omega) (by decide))) ?_
    refine zH (x := .int .u32 ((0 : Nat) : Int)) rfl rfl (bk _) rfl rfl (kS rfl Try.underlying70 Try.underlying129 (yI (by omega))) ?_
    refine zH (x := .int .u32 ((0 : Nat) : Int)) rfl rfl (bk _) rfl rfl (jM rfl) ?_
    refine jH ?_
    refine jB ?_
    refine jB ?_
    refine zS (l := [0, 1, 2, 3, 4, 5, 6, 7, 8, 9]) rfl ?_
    refine zH (x := .bool true) rfl rfl (bk _) rfl rfl (zN rfl) ?_
    refine zH (x := .int .i64 (-1)) rfl ⟨_, _, rfl, rfl, rfl⟩ (bk _) rfl rfl (zN rfl) ?_
    refine zH (x := .bool false) rfl ⟨_, _, rfl, rfl, rfl⟩ (bk _) rfl rfl (kE rfl rfl (vR (decide_eq_false (by omega)))) ?_
    refine zH (x := .bool false) rfl rfl (bk _) rfl rfl (kH true rfl rfl) ?_
    refine zH (x := .bool false) rfl rfl (bk _) rfl rfl (zN rfl) ?_
    refine kA rfl ⟨_, _, rfl, rfl, rfl⟩ rfl rfl ?_
    refine kA rfl ⟨_, _, rfl, rfl, rfl⟩ rfl rfl ?_
    refine kA rfl ⟨_, _, rfl, rfl, rfl⟩ rfl rfl ?_
    refine kA rfl ⟨_, _, rfl, rfl, rfl⟩ rfl rfl ?_
    refine zH (x := .bool false) rfl rfl (bk _) rfl rfl (kH false rfl rfl) ?_
    refine jH ?_
    refine kN rfl ?_
    refine kY ?_
    refine jB ?_
    refine jB ?_
    refine zS (l := [0, 1]) rfl ?_
    refine zH (x := .int .i32 ((0 : Nat) : Int)) rfl rfl (bk _) rfl rfl (zN rfl) ?_
    refine zH (x := .bool false) rfl rfl (bk _) rfl rfl (kE rfl rfl (zBb (decide_eq_false (by omega)))) ?_
    refine jH ?_
    refine kN rfl ?_
    refine kY ?_
    refine jB ?_
    refine jB ?_
    refine zS (l := [0, 1, 2, 3, 4, 5, 6, 7, 8, 9, 10, 11]) rfl ?_
    refine zH (x := .int .u32 ((0 : Nat) : Int)) rfl rfl (bk _) rfl rfl (zN rfl) ?_
    refine zH (x := .bool false) rfl rfl (bk _) rfl rfl (kE rfl rfl (xV (decide_eq_false (by omega)))) ?_
    refine zH (x := .bool false) rfl rfl (bk _) rfl rfl (zN rfl) ?_
    refine kA rfl ⟨_, _, rfl, rfl, rfl⟩ rfl rfl ?_
    refine kA rfl ⟨_, _, rfl, rfl, rfl⟩ rfl rfl ?_
    refine zH (x := .bool false) rfl rfl (bk _) rfl rfl (kH false rfl rfl) ?_
    refine zH (x := .bool false) rfl rfl (bk _) rfl rfl (zN rfl) ?_
    refine kA rfl ⟨_, _, rfl, rfl, rfl⟩ rfl rfl ?_
    refine kA rfl ⟨_, _, rfl, rfl, rfl⟩ rfl rfl ?_
    refine kA rfl ⟨_, _, rfl, rfl, rfl⟩ rfl rfl ?_
    refine kA rfl ⟨_, _, rfl, rfl, rfl⟩ rfl rfl ?_
    refine zH (x := .bool false) rfl rfl (bk _) rfl rfl (kH false rfl rfl) ?_
    refine jH ?_
    refine kN rfl ?_
    refine kY ?_
    refine jB ?_
    refine jB ?_
    refine zS (l := [0, 1, 2, 3, 4, 5]) rfl ?_
    refine zH (x := .int .i32 ((0 : Nat) : Int)) rfl rfl (bk _) rfl rfl (zN rfl) ?_
    refine zH (x := .bool false) rfl rfl (bk _) rfl rfl (kE rfl rfl (vR (decide_eq_false (by omega)))) ?_
    refine zH (x := .bool false) rfl rfl (bk _) rfl rfl (zN rfl) ?_
    refine zH (x := .int .u32 ((0 : Nat) : Int)) rfl ⟨_, _, rfl, rfl, rfl⟩ (bk _) rfl rfl (zN rfl) ?_
    refine zH (x := .bool true) rfl ⟨_, _, rfl, rfl, rfl⟩ (bk _) rfl rfl (kE rfl rfl (zBa (decide_eq_true (by omega)))) ?_
    refine zH (x := .bool true) rfl rfl (bk _) rfl rfl (kH false rfl rfl) ?_
    refine jH ?_
    refine xD rfl ?_
    refine vH ?_
    refine zKk (fn := default) E.enable ?_
    refine qK rfl Try.func75 (.inl ⟨rfl, rfl⟩) rfl rfl rfl h1 ?_
    refine jH ?_
    refine zCe ?_
    exact zCq rfl Try.func77 rfl rfl (zBw Try.func76 rfl (fr := []) _ _ hs)
   ·
    refine zH (x := .int .u64 (stt c 0)) rfl rfl (bk _) rfl rfl (jM rfl) ?_
    refine jH ?_
    refine vH ?_
    refine qK rfl Try.func95 (.inr ⟨4, rfl, rfl⟩) rfl rfl rfl h2 ?_
    refine zH (x := .int .u64 (stt c 0)) rfl rfl (bk _) rfl rfl (jM rfl) ?_
    refine jH ?_
    refine jB ?_
    refine jB ?_
    refine zS (l := [0, 1, 2, 3, 4, 5, 6]) rfl ?_
    refine zH (x := .int .u64 (stt c 0)) rfl rfl (bk _) rfl rfl (zN rfl) ?_
    refine zH (x := .int .u64 0) rfl rfl (bk _) rfl rfl (kE rfl rfl (zAb (by omega) (by decide))) ?_
    refine zH (x := .bool false) rfl rfl (bk _) rfl rfl (kE rfl rfl (xV (decide_eq_false (by omega)))) ?_
    refine zH (x := .bool false) rfl rfl (bk _) rfl rfl (zN rfl) ?_
    refine kA rfl ⟨_, _, rfl, rfl, rfl⟩ rfl rfl ?_
    refine kA rfl ⟨_, _, rfl, rfl, rfl⟩ rfl rfl ?_
    refine zH (x := .bool false) rfl rfl (bk _) rfl rfl (kH false rfl rfl) ?_
    refine jH ?_
    refine kN rfl ?_
    refine kY ?_
    refine jB ?_
    refine zS (l := [0, 1, 2, 3]) rfl ?_
    refine zH (x := .int .u64 (stt c 0)) rfl rfl (bk _) rfl rfl (zN rfl) ?_
    refine zH (x := .int .u64 ((c : Nat) : Int)) rfl rfl (bk _) rfl rfl (zA4 (.inr rfl) rfl rfl (zAe (by decide))) ?_
    refine zH (x := .int .i32 ((c : Nat) : Int)) rfl rfl (bk _) rfl rfl (kS rfl Try.underlying70 Try.underlying21 (yJ (by omega))) ?_
    refine zH (x := .int .i32 ((c : Nat) : Int)) rfl rfl (bk _) rfl rfl (jM rfl) ?_
    refine jH ?_
    refine jB ?_
    refine zS (l := [0, 1, 2, 3]) rfl ?_
    refine zH (x := .int .u64 (stt c 0)) rfl rfl (bk _) rfl rfl (zN rfl) ?_
    refine zH (x := .int .u64 ((0 : Nat) : Int)) rfl rfl (bk _) rfl rfl (kE rfl rfl (wY (by omega) (by decide))) ?_
    refine zH (x := .int .u32 ((0 : Nat) : Int)) rfl rfl (bk _) rfl rfl (kS rfl Try.underlying70 Try.underlying129 (yI (by omega))) ?_
    refine zH (x := .int .u32 ((0 : Nat) : Int)) rfl rfl (bk _) rfl rfl (jM rfl) ?_
    refine jH ?_
    refine jB ?_
    refine jB ?_
    refine zS (l := [0, 1, 2, 3, 4, 5, 6, 7, 8, 9]) rfl ?_
    refine zH (x := .bool true) rfl rfl (bk _) rfl rfl (zN rfl) ?_
    refine zH (x := .int .i64 (-1)) rfl ⟨_, _, rfl, rfl, rfl⟩ (bk _) rfl rfl (zN rfl) ?_
    refine zH (x := .bool false) rfl ⟨_, _, rfl, rfl, rfl⟩ (bk _) rfl rfl (kE rfl rfl (vR (decide_eq_false (by omega)))) ?_
    refine zH (x := .bool false) rfl rfl (bk _) rfl rfl (kH true rfl rfl) ?_
    refine zH (x := .bool false) rfl rfl (bk _) rfl rfl (zN rfl) ?_
    refine kA rfl ⟨_, _, rfl, rfl, rfl⟩ rfl rfl ?_
    refine kA rfl ⟨_, _, rfl, rfl, rfl⟩ rfl rfl ?_
    refine kA rfl ⟨_, _, rfl, rfl, rfl⟩ rfl rfl ?_
    refine kA rfl ⟨_, _, rfl, rfl, rfl⟩ rfl rfl ?_
    refine zH (x := .bool false) rfl rfl (bk _) rfl rfl (kH false rfl rfl) ?_
    refine jH ?_
    refine kN rfl ?_
    refine kY ?_
    refine jB ?_
    refine jB ?_
    refine zS (l := [0, 1]) rfl ?_
    refine zH (x := .int .i32 ((c : Nat) : Int)) rfl rfl (bk _) rfl rfl (zN rfl) ?_
    refine zH (x := .bool false) rfl rfl (bk _) rfl rfl (kE rfl rfl (zBb (decide_eq_false (by omega)))) ?_
    refine jH ?_
    refine kN rfl ?_
    refine kY ?_
    refine jB ?_
    refine jB ?_
    refine zS (l := [0, 1, 2, 3, 4, 5, 6, 7, 8, 9, 10, 11]) rfl ?_
    refine zH (x := .int .u32 ((0 : Nat) : Int)) rfl rfl (bk _) rfl rfl (zN rfl) ?_
    refine zH (x := .bool false) rfl rfl (bk _) rfl rfl (kE rfl rfl (xV (decide_eq_false (by omega)))) ?_
    refine zH (x := .bool false) rfl rfl (bk _) rfl rfl (zN rfl) ?_
    refine kA rfl ⟨_, _, rfl, rfl, rfl⟩ rfl rfl ?_
    refine kA rfl ⟨_, _, rfl, rfl, rfl⟩ rfl rfl ?_
    refine zH (x := .bool false) rfl rfl (bk _) rfl rfl (kH false rfl rfl) ?_
    refine zH (x := .bool false) rfl rfl (bk _) rfl rfl (zN rfl) ?_
    refine kA rfl ⟨_, _, rfl, rfl, rfl⟩ rfl rfl ?_
    refine kA rfl ⟨_, _, rfl, rfl, rfl⟩ rfl rfl ?_
    refine kA rfl ⟨_, _, rfl, rfl, rfl⟩ rfl rfl ?_
    refine kA rfl ⟨_, _, rfl, rfl, rfl⟩ rfl rfl ?_
    refine zH (x := .bool false) rfl rfl (bk _) rfl rfl (kH false rfl rfl) ?_
    refine jH ?_
    refine kN rfl ?_
    refine kY ?_
    refine jB ?_
    refine jB ?_
    refine zS (l := [0, 1, 2, 3, 4, 5]) rfl ?_
    refine zH (x := .int .i32 ((c : Nat) : Int)) rfl rfl (bk _) rfl rfl (zN rfl) ?_
    refine zH (x := .bool true) rfl rfl (bk _) rfl rfl (kE rfl rfl (vR (decide_eq_true (by omega)))) ?_
    refine zH (x := .bool true) rfl rfl (bk _) rfl rfl (zN rfl) ?_
    refine kA rfl ⟨_, _, rfl, rfl, rfl⟩ rfl rfl ?_
    refine kA rfl ⟨_, _, rfl, rfl, rfl⟩ rfl rfl ?_
    refine zH (x := .bool true) rfl rfl (bk _) rfl rfl (kH true rfl rfl) ?_
    refine jH ?_
    refine xD rfl ?_
    refine vH ?_
    refine zKk (fn := default) E.enable ?_
    refine qK rfl Try.func75 (.inl ⟨rfl, rfl⟩) rfl rfl rfl h1 ?_
    refine jH ?_
    refine zCe ?_
    exact zCq rfl Try.func77 rfl rfl (zBw Try.func76 rfl (fr := []) _ _ hs)
  ·have hc0 : 0 < c := by omega
   refine zH (x := .int .u64 (stt c 1)) rfl rfl (bk _) rfl rfl (jM rfl) ?_
   refine jH ?_
   refine vH ?_
   refine qK rfl Try.func95 (.inr ⟨4, rfl, rfl⟩) rfl rfl rfl h2 ?_
   refine zH (x := .int .u64 (stt c 1)) rfl rfl (bk _) rfl rfl (jM rfl) ?_
   refine jH ?_
   refine jB ?_
   refine jB ?_
   refine zS (l := [0, 1, 2, 3, 4, 5, 6]) rfl ?_
   refine zH (x := .int .u64 (stt c 1)) rfl rfl (bk _) rfl rfl (zN rfl) ?_
   refine zH (x := .int .u64 0) rfl rfl (bk _) rfl rfl (kE rfl rfl (zAb (by omega) (by decide))) ?_
   refine zH (x := .bool false) rfl rfl (bk _) rfl rfl (kE rfl rfl (xV (decide_eq_false (by omega)))) ?_
   refine zH (x := .bool false) rfl rfl (bk _) rfl rfl (zN rfl) ?_
   refine kA rfl ⟨_, _, rfl, rfl, rfl⟩ rfl rfl ?_
   refine kA rfl ⟨_, _, rfl, rfl, rfl⟩ rfl rfl ?_
   refine zH (x := .bool false) rfl rfl (bk _) rfl rfl (kH false rfl rfl) ?_
   refine jH ?_
   refine kN rfl ?_
   refine kY ?_
   refine jB ?_
   refine zS (l := [0, 1, 2, 3]) rfl ?_
   refine zH (x := .int .u64 (stt c 1)) rfl rfl (bk _) rfl rfl (zN rfl) ?_
   refine zH (x := .int .u64 ((c : Nat) : Int)) rfl rfl (bk _) rfl rfl (zA4 (.inr rfl) rfl rfl (zAe (by decide))) ?_
   refine zH (x := .int .i32 ((c : Nat) : Int)) rfl rfl (bk _) rfl rfl (kS rfl Try.underlying70 Try.underlying21 (yJ (by omega))) ?_
   refine zH (x := .int .i32 ((c : Nat) : Int)) rfl rfl (bk _) rfl rfl (jM rfl) ?_
   refine jH ?_
   refine jB ?_
   refine zS (l := [0, 1, 2, 3]) rfl ?_
   refine zH (x := .int .u64 (stt c 1)) rfl rfl (bk _) rfl rfl (zN rfl) ?_
   refine zH (x := .int .u64 ((1 : Nat) : Int)) rfl rfl (bk _) rfl rfl (kE rfl rfl (wY (by omega) (by decide))) ?_
   refine zH (x := .int .u32 ((1 : Nat) : Int)) rfl rfl (bk _) rfl rfl (kS rfl Try.underlying70 Try.underlying129 (yI (by omega))) ?_
   refine zH (x := .int .u32 ((1 : Nat) : Int)) rfl rfl (bk _) rfl rfl (jM rfl) ?_
   refine jH ?_
   refine jB ?_
   refine jB ?_
   refine zS (l := [0, 1, 2, 3, 4, 5, 6, 7, 8, 9]) rfl ?_
   refine zH (x := .bool true) rfl rfl (bk _) rfl rfl (zN rfl) ?_
   refine zH (x := .int .i64 (-1)) rfl ⟨_, _, rfl, rfl, rfl⟩ (bk _) rfl rfl (zN rfl) ?_
   refine zH (x := .bool false) rfl ⟨_, _, rfl, rfl, rfl⟩ (bk _) rfl rfl (kE rfl rfl (vR (decide_eq_false (by omega)))) ?_
   refine zH (x := .bool false) rfl rfl (bk _) rfl rfl (kH true rfl rfl) ?_
   refine zH (x := .bool false) rfl rfl (bk _) rfl rfl (zN rfl) ?_
   refine kA rfl ⟨_, _, rfl, rfl, rfl⟩ rfl rfl ?_
   refine kA rfl ⟨_, _, rfl, rfl, rfl⟩ rfl rfl ?_
   refine kA rfl ⟨_, _, rfl, rfl, rfl⟩ rfl rfl ?_
   refine kA rfl ⟨_, _, rfl, rfl, rfl⟩ rfl rfl ?_
   refine zH (x := .bool false) rfl rfl (bk _) rfl rfl (kH false rfl rfl) ?_
   refine jH ?_
   refine kN rfl ?_
   refine kY ?_
   refine jB ?_
   refine jB ?_
   refine zS (l := [0, 1]) rfl ?_
   refine zH (x := .int .i32 ((c : Nat) : Int)) rfl rfl (bk _) rfl rfl (zN rfl) ?_
   refine zH (x := .bool false) rfl rfl (bk _) rfl rfl (kE rfl rfl (zBb (decide_eq_false (by omega)))) ?_
   refine jH ?_
   refine kN rfl ?_
   refine kY ?_
   refine jB ?_
   refine jB ?_
   refine zS (l := [0, 1, 2, 3, 4, 5, 6, 7, 8, 9, 10, 11]) rfl ?_
   refine zH (x := .int .u32 ((1 : Nat) : Int)) rfl rfl (bk _) rfl rfl (zN rfl) ?_
   refine zH (x := .bool true) rfl rfl (bk _) rfl rfl (kE rfl rfl (xV (decide_eq_true (by omega)))) ?_
   refine zH (x := .bool true) rfl rfl (bk _) rfl rfl (zN rfl) ?_
   refine zH (x := .int .i64 (-1)) rfl ⟨_, _, rfl, rfl, rfl⟩ (bk _) rfl rfl (zN rfl) ?_
   refine zH (x := .bool false) rfl ⟨_, _, rfl, rfl, rfl⟩ (bk _) rfl rfl (kE rfl rfl (vR (decide_eq_false (by omega)))) ?_
   refine zH (x := .bool false) rfl rfl (bk _) rfl rfl (kH true rfl rfl) ?_
   refine zH (x := .bool false) rfl rfl (bk _) rfl rfl (zN rfl) ?_
   refine kA rfl ⟨_, _, rfl, rfl, rfl⟩ rfl rfl ?_
   refine kA rfl ⟨_, _, rfl, rfl, rfl⟩ rfl rfl ?_
   refine kA rfl ⟨_, _, rfl, rfl, rfl⟩ rfl rfl ?_
   refine kA rfl ⟨_, _, rfl, rfl, rfl⟩ rfl rfl ?_
   refine zH (x := .bool false) rfl rfl (bk _) rfl rfl (kH false rfl rfl) ?_
   refine jH ?_
   refine kN rfl ?_
   refine kY ?_
   refine jB ?_
   refine jB ?_
   refine zS (l := [0, 1, 2, 3, 4, 5]) rfl ?_
   refine zH (x := .int .i32 ((c : Nat) : Int)) rfl rfl (bk _) rfl rfl (zN rfl) ?_
   refine zH (x := .bool true) rfl rfl (bk _) rfl rfl (kE rfl rfl (vR (decide_eq_true (by omega)))) ?_
   refine zH (x := .bool true) rfl rfl (bk _) rfl rfl (zN rfl) ?_
   refine kA rfl ⟨_, _, rfl, rfl, rfl⟩ rfl rfl ?_
   refine kA rfl ⟨_, _, rfl, rfl, rfl⟩ rfl rfl ?_
   refine zH (x := .bool true) rfl rfl (bk _) rfl rfl (kH true rfl rfl) ?_
   refine jH ?_
   refine xD rfl ?_
   refine vH ?_
   refine zKk (fn := default) E.enable ?_
   refine qK rfl Try.func75 (.inl ⟨rfl, rfl⟩) rfl rfl rfl h1 ?_
   refine jH ?_
   refine zCe ?_
   exact zCq rfl Try.func77 rfl rfl (zBw Try.func76 rfl (fr := []) _ _ hs)
 ·
  refine zH (x := .int .u64 (stt 0 1)) rfl rfl (bk _) rfl rfl (jM rfl) ?_
  refine jH ?_
  refine vH ?_
  refine qK rfl Try.func95 (.inr ⟨4, rfl, rfl⟩) rfl rfl rfl h2 ?_
  refine zH (x := .int .u64 (stt 0 1)) rfl rfl (bk _) rfl rfl (jM rfl) ?_
  refine jH ?_
  refine jB ?_
  refine jB ?_
  refine zS (l := [0, 1, 2, 3, 4, 5, 6]) rfl ?_
  refine zH (x := .int .u64 (stt 0 1)) rfl rfl (bk _) rfl rfl (zN rfl) ?_
  refine zH (x := .int .u64 0) rfl rfl (bk _) rfl rfl (kE rfl rfl (zAb (by omega) (by decide))) ?_
  refine zH (x := .bool false) rfl rfl (bk _) rfl rfl (kE rfl rfl (xV (decide_eq_false (by omega)))) ?_
  refine zH (x := .bool false) rfl rfl (bk _) rfl rfl (zN rfl) ?_
  refine kA rfl ⟨_, _, rfl, rfl, rfl⟩ rfl rfl ?_
  refine kA rfl ⟨_, _, rfl, rfl, rfl⟩ rfl rfl ?_
  refine zH (x := .bool false) rfl rfl (bk _) rfl rfl (kH false rfl rfl) ?_
  refine jH ?_
  refine kN rfl ?_
  refine kY ?_
  refine jB ?_
  refine zS (l := [0, 1, 2, 3]) rfl ?_
  refine zH (x := .int .u64 (stt 0 1)) rfl rfl (bk _) rfl rfl (zN rfl) ?_
  refine zH (x := .int .u64 ((0 : Nat) : Int)) rfl rfl (bk _) rfl rfl (zA4 (.inr rfl) rfl rfl (zAe (by decide))) ?_
  refine zH (x := .int .i32 ((0 : Nat) : Int)) rfl rfl (bk _) rfl rfl (kS rfl Try.underlying70 Try.underlying21 (yJ (by omega))) ?_
  refine zH (x := .int .i32 ((0 : Nat) : Int)) rfl rfl (bk _) rfl rfl (jM rfl) ?_
  refine jH ?_
  refine jB ?_
  refine zS (l := [0, 1, 2, 3]) rfl ?_
  refine zH (x := .int .u64 (stt 0 1)) rfl rfl (bk _) rfl rfl (zN rfl) ?_
  refine zH (x := .int .u64 ((1 : Nat) : Int)) rfl rfl (bk _) rfl rfl (kE rfl rfl (wY (by omega) (by decide))) ?_
  refine zH (x := .int .u32 ((1 : Nat) : Int)) rfl rfl (bk _) rfl rfl (kS rfl Try.underlying70 Try.underlying129 (yI (by omega))) ?_
  refine zH (x := .int .u32 ((1 : Nat) : Int)) rfl rfl (bk _) rfl rfl (jM rfl) ?_
  refine jH ?_
  refine jB ?_
  refine jB ?_
  refine zS (l := [0, 1, 2, 3, 4, 5, 6, 7, 8, 9]) rfl ?_
  refine zH (x := .bool true) rfl rfl (bk _) rfl rfl (zN rfl) ?_
  refine zH (x := .int .i64 (-1)) rfl ⟨_, _, rfl, rfl, rfl⟩ (bk _) rfl rfl (zN rfl) ?_
  refine zH (x := .bool false) rfl ⟨_, _, rfl, rfl, rfl⟩ (bk _) rfl rfl (kE rfl rfl (vR (decide_eq_false (by omega)))) ?_
  refine zH (x := .bool false) rfl rfl (bk _) rfl rfl (kH true rfl rfl) ?_
  refine zH (x := .bool false) rfl rfl (bk _) rfl rfl (zN rfl) ?_
  refine kA rfl ⟨_, _, rfl, rfl, rfl⟩ rfl rfl ?_
  refine kA rfl ⟨_, _, rfl, rfl, rfl⟩ rfl rfl ?_
  refine kA rfl ⟨_, _, rfl, rfl, rfl⟩ rfl rfl ?_
  refine kA rfl ⟨_, _, rfl, rfl, rfl⟩ rfl rfl ?_
  refine zH (x := .bool false) rfl rfl (bk _) rfl rfl (kH false rfl rfl) ?_
  refine jH ?_
  refine kN rfl ?_
  refine kY ?_
  refine jB ?_
  refine jB ?_
  refine zS (l := [0, 1]) rfl ?_
  refine zH (x := .int .i32 ((0 : Nat) : Int)) rfl rfl (bk _) rfl rfl (zN rfl) ?_
  refine zH (x := .bool false) rfl rfl (bk _) rfl rfl (kE rfl rfl (zBb (decide_eq_false (by omega)))) ?_
  refine jH ?_
  refine kN rfl ?_
  refine kY ?_
  refine jB ?_
  refine jB ?_
  refine zS (l := [0, 1, 2, 3, 4, 5, 6, 7, 8, 9, 10, 11]) rfl ?_
  refine zH (x := .int .u32 ((1 : Nat) : Int)) rfl rfl (bk _) rfl rfl (zN rfl) ?_
  refine zH (x := .bool true) rfl rfl (bk _) rfl rfl (kE rfl rfl (xV (decide_eq_true (by omega)))) ?_
  refine zH (x := .bool true) rfl rfl (bk _) rfl rfl (zN rfl) ?_
  refine zH (x := .int .i64 (-1)) rfl ⟨_, _, rfl, rfl, rfl⟩ (bk _) rfl rfl (zN rfl) ?_
  refine zH (x := .bool false) rfl ⟨_, _, rfl, rfl, rfl⟩ (bk _) rfl rfl (kE rfl rfl (vR (decide_eq_false (by omega)))) ?_
  refine zH (x := .bool false) rfl rfl (bk _) rfl rfl (kH true rfl rfl) ?_
  refine zH (x := .bool false) rfl rfl (bk _) rfl rfl (zN rfl) ?_
  refine kA rfl ⟨_, _, rfl, rfl, rfl⟩ rfl rfl ?_
  refine kA rfl ⟨_, _, rfl, rfl, rfl⟩ rfl rfl ?_
  refine kA rfl ⟨_, _, rfl, rfl, rfl⟩ rfl rfl ?_
  refine kA rfl ⟨_, _, rfl, rfl, rfl⟩ rfl rfl ?_
  refine zH (x := .bool false) rfl rfl (bk _) rfl rfl (kH false rfl rfl) ?_
  refine jH ?_
  refine kN rfl ?_
  refine kY ?_
  refine jB ?_
  refine jB ?_
  refine zS (l := [0, 1, 2, 3, 4, 5]) rfl ?_
  refine zH (x := .int .i32 ((0 : Nat) : Int)) rfl rfl (bk _) rfl rfl (zN rfl) ?_
  refine zH (x := .bool false) rfl rfl (bk _) rfl rfl (kE rfl rfl (vR (decide_eq_false (by omega)))) ?_
  refine zH (x := .bool false) rfl rfl (bk _) rfl rfl (zN rfl) ?_
  refine zH (x := .int .u32 ((1 : Nat) : Int)) rfl ⟨_, _, rfl, rfl, rfl⟩ (bk _) rfl rfl (zN rfl) ?_
  refine zH (x := .bool false) rfl ⟨_, _, rfl, rfl, rfl⟩ (bk _) rfl rfl (kE rfl rfl (zBa (decide_eq_false (by omega)))) ?_
  refine zH (x := .bool false) rfl rfl (bk _) rfl rfl (kH false rfl rfl) ?_
  refine jH ?_
  refine kN rfl ?_
  refine kY ?_
  refine jB ?_
  refine jB ?_
  refine zS (l := [0, 1, 2, 3, 4, 5]) rfl ?_
  refine zH (x := .pointer (some ⟨W0, 0, none⟩)) rfl rfl (bk _) rfl rfl (zN rfl) ?_
  refine zH (x := .pointer (some ⟨W0, 0, none⟩)) rfl rfl (bk _) rfl rfl (kT rfl) ?_
  refine zH (x := .pointer (some ⟨W0, 0, none⟩)) rfl rfl (bk _) rfl rfl (qN rfl F.fi131_1 F.ti128) ?_
  refine zAj (vs := [.pointer (some ⟨W0, 0, none⟩)]) rfl rfl (bk _) rfl Try.func97 (by kernel_rfl) rfl rfl rfl rfl (fun a3 h3 => ?_)
  refine jB ?_
  refine zS (l := [0]) rfl ?_
  refine zH (x := .int .u64 0) rfl rfl (bk _) rfl rfl (jM rfl) ?_
  refine jH ?_
  refine jB ?_
  refine zS (l := [0, 1, 2, 3, 4]) rfl ?_
  refine zH (x := .pointer (some ⟨W0, 0, none⟩)) rfl rfl (bk _) rfl rfl (zN rfl) ?_
  refine zH (x := .pointer (some ⟨W0, 0, none⟩)) rfl rfl (bk _) rfl rfl (kT rfl) ?_
  refine zH (x := .pointer (some ⟨W0, 0, none⟩)) rfl rfl (bk _) rfl rfl (qN rfl F.fi128_2 F.ti70) ?_
  refine zW0 rfl rfl (bk _) rfl rfl rfl rfl E.load ?_
  refine zH (x := .int .u64 (stt 0 1)) rfl rfl (bk _) rfl rfl (jM rfl) ?_
  refine jH ?_
  refine vH ?_
  refine qK rfl Try.func97 (.inr ⟨2, rfl, rfl⟩) rfl rfl rfl h3 ?_
  refine zH (x := .int .u64 (stt 0 1)) rfl rfl (bk _) rfl rfl (zN rfl) ?_
  refine zH (x := .bool false) rfl rfl (bk _) rfl rfl (kE rfl rfl (xV (by decide))) ?_
  refine jH ?_
  refine kN rfl ?_
  refine kY ?_
  refine jB ?_
  refine zS (l := [0, 1, 2, 3]) rfl ?_
  refine zH (x := .pointer (some ⟨W0, 0, none⟩)) rfl rfl (bk _) rfl rfl (zN rfl) ?_
  refine zH (x := .pointer (some ⟨W0, 0, none⟩)) rfl rfl (bk _) rfl rfl (kT rfl) ?_
  refine zH (x := .pointer (some ⟨W0, 0, none⟩)) rfl rfl (bk _) rfl rfl (qN rfl F.fi131_1 F.ti128) ?_
  refine zAj (vs := [.pointer (some ⟨W0, 0, none⟩), .int .u64 0]) rfl rfl (bk _) rfl Try.func98 (by kernel_rfl) rfl rfl rfl rfl (fun a4 h4 => ?_)
  refine zS (l := [0, 1, 2, 3, 4]) rfl ?_
  refine zH (x := .pointer (some ⟨W0, 0, none⟩)) rfl rfl (bk _) rfl rfl (zN rfl) ?_
  refine zH (x := .pointer (some ⟨W0, 0, none⟩)) rfl rfl (bk _) rfl rfl (kT rfl) ?_
  refine zH (x := .pointer (some ⟨W0, 0, none⟩)) rfl rfl (bk _) rfl rfl (qN rfl F.fi128_2 F.ti70) ?_
  refine zH (x := .int .u64 0) rfl rfl (bk _) rfl rfl (zN rfl) ?_
  refine zT5 rfl rfl (bk _) rfl rfl rfl rfl rfl E.store ?_
  refine jH ?_
  refine zCe ?_
  refine qK rfl Try.func98 (.inl ⟨rfl, rfl⟩) rfl rfl rfl h4 ?_
  refine jH ?_
  refine jB ?_
  refine jB ?_
  refine zS (l := [0]) rfl ?_
  refine zH (x := .bool false) rfl rfl (bk _) rfl rfl (zN rfl) ?_
  refine jH ?_
  refine kN rfl ?_
  refine kY ?_
  refine zFg ?_
  refine zQ4 ?_
  refine jB ?_
  refine jB ?_
  refine zS (l := [0, 1]) rfl ?_
  refine zH (x := .int .u32 ((1 : Nat) : Int)) rfl rfl (bk _) rfl rfl (zN rfl) ?_
  refine zH (x := .bool true) rfl rfl (bk _) rfl rfl (kE rfl rfl (xV (decide_eq_true (by omega)))) ?_
  refine jH ?_
  refine xD rfl ?_
  refine kY ?_
  refine jB ?_
  refine zFg ?_
  refine zS (l := [0, 1, 2, 3]) rfl ?_
  refine zH (x := .pointer (some ⟨W0, 0, none⟩)) rfl rfl (bk _) rfl rfl (zN rfl) ?_
  refine zH (x := .pointer (some ⟨W0, 0, none⟩)) rfl rfl (bk _) rfl rfl (kT rfl) ?_
  refine zH (x := .pointer (some ⟨W0, 1, none⟩)) rfl rfl (bk _) rfl rfl (qN rfl F.fi131_2 F.ti129) ?_
  refine zYl (xs := [_, _]) rfl rfl (bk _) rfl rfl rfl rfl E.semrel ?_
  refine jH ?_
  refine zJd ?_
  refine zS (l := [0, 1, 2]) rfl ?_
  refine zH (x := .int .u32 ((1 : Nat) : Int)) rfl rfl (bk _) rfl rfl (zN rfl) ?_
  refine zH (x := .int .u32 0) rfl rfl (bk _) rfl rfl (kE rfl rfl (zVp (by decide))) ?_
  refine zH (x := .int .u32 0) rfl rfl (bk _) rfl rfl (jM rfl) ?_
  refine jH ?_
  refine zLw ?_
  refine jB ?_
  refine jB ?_
  refine zS (l := [0, 1]) rfl ?_
  refine zH (x := .int .u32 0) rfl rfl (bk _) rfl rfl (zN rfl) ?_
  refine zH (x := .bool false) rfl rfl (bk _) rfl rfl (kE rfl rfl (xV (decide_eq_false (by omega)))) ?_
  refine jH ?_
  refine kN rfl ?_
  refine zVo rfl ?_
  refine zCe ?_
  refine zKk (fn := default) E.enable ?_
  refine qK rfl Try.func75 (.inl ⟨rfl, rfl⟩) rfl rfl rfl h1 ?_
  refine jH ?_
  refine zCe ?_
  exact zCq rfl Try.func77 rfl rfl (zBw Try.func76 rfl (fr := []) _ _ hs)
theorem zVy {ow : List Nat} {m : Nat} {cs : List Frame} (hm : m + 1 < 1000000) (hend : ∀ fr : Frame, (fr.mode = .returning ∧ fr.defers = [] ∧ fr.kind = .normal ∧ fr.fn = 75) -> ΦZ Try.prog (Cp low 131 msg) Stop v (Mn.enc W0 f0 d0 e0 ow (.hire 4 m)) (G fr cs)) :
  ΦZ Try.prog (Cp low 131 msg) Stop v (Mn.enc W0 f0 d0 e0 ow (.hire 0 m)) (G (Frame.enter Try.prog 75 [.pointer (some ⟨W0, 0, none⟩), .int .i64 1].toArray .normal) cs) := by
 letI : Sys := zSys Try.prog (Cp low 131 msg)
 refine zVi Try.func75 rfl rfl rfl ?_
 refine jB ?_
 refine xD rfl ?_
 refine jB ?_
 refine jB ?_
 refine zS (l := [0, 1]) rfl ?_
 refine zH (x := .int .i64 1) rfl rfl (bk _) rfl rfl (zN rfl) ?_
 refine zH (x := .bool false) rfl rfl (bk _) rfl rfl (kE rfl rfl (zBb (decide_eq_false (by omega)))) ?_
 refine jH ?_
 refine kN rfl ?_
 refine kY ?_
 refine jB ?_
 refine zS (l := [0]) rfl ?_
 refine zX3 rfl rfl (bk _) rfl rfl rfl E.disable ?_
 refine jH ?_
 refine zS (l := [0]) rfl ?_
 refine zNs rfl rfl (bk _) rfl rfl ?_
 refine jH ?_
 refine jB ?_
 refine zS (l := [0]) rfl ?_
 refine zH (x := .bool false) rfl rfl (bk _) rfl rfl (jM rfl) ?_
 refine jH ?_
 refine jB ?_
 refine jB ?_
 refine zS (l := [0]) rfl ?_
 refine zP4 (.bool false) rfl rfl (bk _) rfl rfl rfl Try.func91 (by kernel_rfl) rfl (by kernel_rfl) (by kernel_rfl) ?_
 refine jH ?_
 refine kN rfl ?_
 refine kY ?_
 refine jB ?_
 refine zS (l := [0, 1, 2, 3, 4, 5, 6, 7]) rfl ?_
 refine zH (x := .pointer (some ⟨W0, 0, none⟩)) rfl rfl (bk _) rfl rfl (zN rfl) ?_
 refine zH (x := .pointer (some ⟨W0, 0, none⟩)) rfl rfl (bk _) rfl rfl (kT rfl) ?_
 refine zH (x := .pointer (some ⟨W0, 0, none⟩)) rfl rfl (bk _) rfl rfl (qN rfl F.fi131_1 F.ti128) ?_
 refine zH (x := .int .i64 1) rfl rfl (bk _) rfl rfl (zN rfl) ?_
 refine zH (x := .int .u64 1) rfl rfl (bk _) rfl rfl (kS rfl Try.underlying3 Try.underlying70 (by decide)) ?_
 refine zH (x := .int .u64 4294967296) rfl rfl (bk _) rfl rfl (zA4 (.inl rfl) rfl rfl (zPo (by decide) (by decide))) ?_
 refine zAj (vs := [.pointer (some ⟨W0, 0, none⟩), .int .u64 4294967296]) rfl rfl (bk _) rfl Try.func95 (by kernel_rfl) rfl rfl rfl rfl (fun a1 h1 => ?_)
 refine jB ?_
 refine zS (l := [0]) rfl ?_
 refine zH (x := .int .u64 0) rfl rfl (bk _) rfl rfl (jM rfl) ?_
 refine jH ?_
 refine jB ?_
 refine zS (l := [0, 1, 2, 3, 4, 5]) rfl ?_
 refine zH (x := .pointer (some ⟨W0, 0, none⟩)) rfl rfl (bk _) rfl rfl (zN rfl) ?_
 refine zH (x := .pointer (some ⟨W0, 0, none⟩)) rfl rfl (bk _) rfl rfl (kT rfl) ?_
 refine zH (x := .pointer (some ⟨W0, 0, none⟩)) rfl rfl (bk _) rfl rfl (qN rfl F.fi128_2 F.ti70) ?_
 refine zH (x := .int .u64 4294967296) rfl rfl (bk _) rfl rfl (zN rfl) ?_
 refine zYc hm rfl rfl (bk _) rfl rfl rfl rfl rfl E.add ?_ (fun c hc0 hc1 => ?_)
 ·
  refine zH (x := .int .u64 (stt 1 0)) rfl rfl (bk _) rfl rfl (jM rfl) ?_
  refine jH ?_
  refine vH ?_
  refine qK rfl Try.func95 (.inr ⟨4, rfl, rfl⟩) rfl rfl rfl h1 ?_
  refine zH (x := .int .u64 (stt 1 0)) rfl rfl (bk _) rfl rfl (jM rfl) ?_
  refine jH ?_
  refine jB ?_
  refine jB ?_
  refine zS (l := [0, 1, 2, 3, 4, 5, 6]) rfl ?_
  refine zH (x := .int .u64 (stt 1 0)) rfl rfl (bk _) rfl rfl (zN rfl) ?_
  refine zH (x := .int .u64 0) rfl rfl (bk _) rfl rfl (kE rfl rfl (zAb (by omega) (by decide))) ?_
  refine zH (x := .bool false) rfl rfl (bk _) rfl rfl (kE rfl rfl (xV (decide_eq_false (by omega)))) ?_
  refine zH (x := .bool false) rfl rfl (bk _) rfl rfl (zN rfl) ?_
  refine kA rfl ⟨_, _, rfl, rfl, rfl⟩ rfl rfl ?_
  refine kA rfl ⟨_, _, rfl, rfl, rfl⟩ rfl rfl ?_
  refine zH (x := .bool false) rfl rfl (bk _) rfl rfl (kH false rfl rfl) ?_
  refine jH ?_
  refine kN rfl ?_
  refine kY ?_
  refine jB ?_
  refine zS (l := [0, 1, 2, 3]) rfl ?_
  refine zH (x := .int .u64 (stt 1 0)) rfl rfl (bk _) rfl rfl (zN rfl) ?_
  refine zH (x := .int .u64 ((1 : Nat) : Int)) rfl rfl (bk _) rfl rfl (zA4 (.inr rfl) rfl rfl (zAe (by decide))) ?_
  refine zH (x := .int .i32 ((1 : Nat) : Int)) rfl rfl (bk _) rfl rfl (kS rfl Try.underlying70 Try.underlying21 (yJ (by omega))) ?_
  refine zH (x := .int .i32 ((1 : Nat) : Int)) rfl rfl (bk _) rfl rfl (jM rfl) ?_
  refine jH ?_
  refine jB ?_
  refine zS (l := [0, 1, 2, 3]) rfl ?_
  refine zH (x := .int .u64 (stt 1 0)) rfl rfl (bk _) rfl rfl (zN rfl) ?_
  refine zH (x := .int .u64 ((0 : Nat) : Int)) rfl rfl (bk _) rfl rfl (kE rfl rfl (wY (by omega) (by decide))) ?_
  refine zH (x := .int .u32 ((0 : Nat) : Int)) rfl rfl (bk _) rfl rfl (kS rfl Try.underlying70 Try.underlying129 (yI (by omega))) ?_
  refine zH (x := .int .u32 ((0 : Nat) : Int)) rfl rfl (bk _) rfl rfl (jM rfl) ?_
  refine jH ?_
  refine jB ?_
  refine jB ?_
  refine zS (l := [0, 1, 2, 3, 4, 5, 6, 7, 8, 9]) rfl ?_
  refine zH (x := .bool true) rfl rfl (bk _) rfl rfl (zN rfl) ?_
  refine zH (x := .int .i64 1) rfl ⟨_, _, rfl, rfl, rfl⟩ (bk _) rfl rfl (zN rfl) ?_
  refine zH (x := .bool true) rfl ⟨_, _, rfl, rfl, rfl⟩ (bk _) rfl rfl (kE rfl rfl (vR (decide_eq_true (by omega)))) ?_
  refine zH (x := .bool true) rfl rfl (bk _) rfl rfl (kH true rfl rfl) ?_
  refine zH (x := .bool true) rfl rfl (bk _) rfl rfl (zN rfl) ?_
  refine zH (x := .int .i32 ((1 : Nat) : Int)) rfl ⟨_, _, rfl, rfl, rfl⟩ (bk _) rfl rfl (zN rfl) ?_
  refine zH (x := .int .i64 1) rfl ⟨_, _, rfl, rfl, rfl⟩ (bk _) rfl rfl (zN rfl) ?_
  refine zH (x := .int .i32 1) rfl ⟨_, _, rfl, rfl, rfl⟩ (bk _) rfl rfl (kS rfl Try.underlying3 Try.underlying21 (by decide)) ?_
  refine zH (x := .bool true) rfl ⟨_, _, rfl, rfl, rfl⟩ (bk _) rfl rfl (kE rfl rfl (zBa (decide_eq_true (by omega)))) ?_
  refine zH (x := .bool true) rfl rfl (bk _) rfl rfl (kH true rfl rfl) ?_
  refine jH ?_
  refine xD rfl ?_
  refine zS (l := [0, 1, 2, 3, 4]) rfl ?_
  refine zH (x := .pointer (some ⟨W0, 0, none⟩)) rfl rfl (bk _) rfl rfl (zN rfl) ?_
  refine zH (x := .pointer (some ⟨W0, 0, none⟩)) rfl rfl (bk _) rfl rfl (kT rfl) ?_
  refine zH (x := .pointer (some ⟨W0, 1, none⟩)) rfl rfl (bk _) rfl rfl (qN rfl F.fi131_2 F.ti129) ?_
  refine zVw rfl rfl (bk _) rfl rfl Try.underlying151 Try.underlying146 (by kernel_rfl) (.inr rfl) ?_
  refine zV2 rfl rfl (bk _) rfl rfl rfl rfl E.read ?_
  refine jH ?_
  refine jB ?_
  refine jB ?_
  refine zS (l := [0, 1]) rfl ?_
  refine zH (x := .int .i32 ((1 : Nat) : Int)) rfl rfl (bk _) rfl rfl (zN rfl) ?_
  refine zH (x := .bool false) rfl rfl (bk _) rfl rfl (kE rfl rfl (zBb (decide_eq_false (by omega)))) ?_
  refine jH ?_
  refine kN rfl ?_
  refine kY ?_
  refine jB ?_
  refine jB ?_
  refine zS (l := [0, 1, 2, 3, 4, 5, 6, 7, 8, 9, 10, 11]) rfl ?_
  refine zH (x := .int .u32 ((0 : Nat) : Int)) rfl rfl (bk _) rfl rfl (zN rfl) ?_
  refine zH (x := .bool false) rfl rfl (bk _) rfl rfl (kE rfl rfl (xV (decide_eq_false (by omega)))) ?_
  refine zH (x := .bool false) rfl rfl (bk _) rfl rfl (zN rfl) ?_
  refine kA rfl ⟨_, _, rfl, rfl, rfl⟩ rfl rfl ?_
  refine kA rfl ⟨_, _, rfl, rfl, rfl⟩ rfl rfl ?_
  refine zH (x := .bool false) rfl rfl (bk _) rfl rfl (kH false rfl rfl) ?_
  refine zH (x := .bool false) rfl rfl (bk _) rfl rfl (zN rfl) ?_
  refine kA rfl ⟨_, _, rfl, rfl, rfl⟩ rfl rfl ?_
  refine kA rfl ⟨_, _, rfl, rfl, rfl⟩ rfl rfl ?_
  refine kA rfl ⟨_, _, rfl, rfl, rfl⟩ rfl rfl ?_
  refine kA rfl ⟨_, _, rfl, rfl, rfl⟩ rfl rfl ?_
  refine zH (x := .bool false) rfl rfl (bk _) rfl rfl (kH false rfl rfl) ?_
  refine jH ?_
  refine kN rfl ?_
  refine kY ?_
  refine jB ?_
  refine jB ?_
  refine zS (l := [0, 1, 2, 3, 4, 5]) rfl ?_
  refine zH (x := .int .i32 ((1 : Nat) : Int)) rfl rfl (bk _) rfl rfl (zN rfl) ?_
  refine zH (x := .bool true) rfl rfl (bk _) rfl rfl (kE rfl rfl (vR (decide_eq_true (by omega)))) ?_
  refine zH (x := .bool true) rfl rfl (bk _) rfl rfl (zN rfl) ?_
  refine kA rfl ⟨_, _, rfl, rfl, rfl⟩ rfl rfl ?_
  refine kA rfl ⟨_, _, rfl, rfl, rfl⟩ rfl rfl ?_
  refine zH (x := .bool true) rfl rfl (bk _) rfl rfl (kH true rfl rfl) ?_
  refine jH ?_
  refine xD rfl ?_
  refine vH ?_
  refine z_on E.enable ?_
  exact fun a todo ha => hend _ ⟨rfl, ha.defs, rfl, rfl⟩
 ·
  refine zH (x := .int .u64 (stt c 0)) rfl rfl (bk _) rfl rfl (jM rfl) ?_
  refine jH ?_
  refine vH ?_
  refine qK rfl Try.func95 (.inr ⟨4, rfl, rfl⟩) rfl rfl rfl h1 ?_
  refine zH (x := .int .u64 (stt c 0)) rfl rfl (bk _) rfl rfl (jM rfl) ?_
  refine jH ?_
  refine jB ?_
  refine jB ?_
  refine zS (l := [0, 1, 2, 3, 4, 5, 6]) rfl ?_
  refine zH (x := .int .u64 (stt c 0)) rfl rfl (bk _) rfl rfl (zN rfl) ?_
  refine zH (x := .int .u64 0) rfl rfl (bk _) rfl rfl (kE rfl rfl (zAb (by omega) (by decide))) ?_
  refine zH (x := .bool false) rfl rfl (bk _) rfl rfl (kE rfl rfl (xV (decide_eq_false (by omega)))) ?_
  refine zH (x := .bool false) rfl rfl (bk _) rfl rfl (zN rfl) ?_
  refine kA rfl ⟨_, _, rfl, rfl, rfl⟩ rfl rfl ?_
  refine kA rfl ⟨_, _, rfl, rfl, rfl⟩ rfl rfl ?_
  refine zH (x := .bool false) rfl rfl (bk _) rfl rfl (kH false rfl rfl) ?_
  refine jH ?_
  refine kN rfl ?_
  refine kY ?_
  refine jB ?_
  refine zS (l := [0, 1, 2, 3]) rfl ?_
  refine zH (x := .int .u64 (stt c 0)) rfl rfl (bk _) rfl rfl (zN rfl) ?_
  refine zH (x := .int .u64 ((c : Nat) : Int)) rfl rfl (bk _) rfl rfl (zA4 (.inr rfl) rfl rfl (zAe (by decide))) ?_
  refine zH (x := .int .i32 ((c : Nat) : Int)) rfl rfl (bk _) rfl rfl (kS rfl Try.underlying70 Try.underlying21 (yJ (by omega))) ?_
  refine zH (x := .int .i32 ((c : Nat) : Int)) rfl rfl (bk _) rfl rfl (jM rfl) ?_
  refine jH ?_
  refine jB ?_
  refine zS (l := [0, 1, 2, 3]) rfl ?_
  refine zH (x := .int .u64 (stt c 0)) rfl rfl (bk _) rfl rfl (zN rfl) ?_
  refine zH (x := .int .u64 ((0 : Nat) : Int)) rfl rfl (bk _) rfl rfl (kE rfl rfl (wY (by omega) (by decide))) ?_
  refine zH (x := .int .u32 ((0 : Nat) : Int)) rfl rfl (bk _) rfl rfl (kS rfl Try.underlying70 Try.underlying129 (yI (by omega))) ?_
  refine zH (x := .int .u32 ((0 : Nat) : Int)) rfl rfl (bk _) rfl rfl (jM rfl) ?_
  refine jH ?_
  refine jB ?_
  refine jB ?_
  refine zS (l := [0, 1, 2, 3, 4, 5, 6, 7, 8, 9]) rfl ?_
  refine zH (x := .bool true) rfl rfl (bk _) rfl rfl (zN rfl) ?_
  refine zH (x := .int .i64 1) rfl ⟨_, _, rfl, rfl, rfl⟩ (bk _) rfl rfl (zN rfl) ?_
  refine zH (x := .bool true) rfl ⟨_, _, rfl, rfl, rfl⟩ (bk _) rfl rfl (kE rfl rfl (vR (decide_eq_true (by omega)))) ?_
  refine zH (x := .bool true) rfl rfl (bk _) rfl rfl (kH true rfl rfl) ?_
  refine zH (x := .bool true) rfl rfl (bk _) rfl rfl (zN rfl) ?_
  refine zH (x := .int .i32 ((c : Nat) : Int)) rfl ⟨_, _, rfl, rfl, rfl⟩ (bk _) rfl rfl (zN rfl) ?_
  refine zH (x := .int .i64 1) rfl ⟨_, _, rfl, rfl, rfl⟩ (bk _) rfl rfl (zN rfl) ?_
  refine zH (x := .int .i32 1) rfl ⟨_, _, rfl, rfl, rfl⟩ (bk _) rfl rfl (kS rfl Try.underlying3 Try.underlying21 (by decide)) ?_
  refine zH (x := .bool false) rfl ⟨_, _, rfl, rfl, rfl⟩ (bk _) rfl rfl (kE rfl rfl (zBa (decide_eq_false (by omega)))) ?_
  refine zH (x := .bool false) rfl rfl (bk _) rfl rfl (kH true rfl rfl) ?_
  refine jH ?_
  refine kN rfl ?_
  refine kY ?_
  refine jB ?_
  refine jB ?_
  refine zS (l := [0, 1]) rfl ?_
  refine zH (x := .int .i32 ((c : Nat) : Int)) rfl rfl (bk _) rfl rfl (zN rfl) ?_
  refine zH (x := .bool false) rfl rfl (bk _) rfl rfl (kE rfl rfl (zBb (decide_eq_false (by omega)))) ?_
  refine jH ?_
  refine kN rfl ?_
  refine kY ?_
  refine jB ?_
  refine jB ?_
  refine zS (l := [0, 1, 2, 3, 4, 5, 6, 7, 8, 9, 10, 11]) rfl ?_
  refine zH (x := .int .u32 ((0 : Nat) : Int)) rfl rfl (bk _) rfl rfl (zN rfl) ?_
  refine zH (x := .bool false) rfl rfl (bk _) rfl rfl (kE rfl rfl (xV (decide_eq_false (by omega)))) ?_
  refine zH (x := .bool false) rfl rfl (bk _) rfl rfl (zN rfl) ?_
  refine kA rfl ⟨_, _, rfl, rfl, rfl⟩ rfl rfl ?_
  refine kA rfl ⟨_, _, rfl, rfl, rfl⟩ rfl rfl ?_
  refine zH (x := .bool false) rfl rfl (bk _) rfl rfl (kH false rfl rfl) ?_
  refine zH (x := .bool false) rfl rfl (bk _) rfl rfl (zN rfl) ?_
  refine kA rfl ⟨_, _, rfl, rfl, rfl⟩ rfl rfl ?_
  refine kA rfl ⟨_, _, rfl, rfl, rfl⟩ rfl rfl ?_
  refine kA rfl ⟨_, _, rfl, rfl, rfl⟩ rfl rfl ?_
  refine kA rfl ⟨_, _, rfl, rfl, rfl⟩ rfl rfl ?_
  refine zH (x := .bool false) rfl rfl (bk _) rfl rfl (kH false rfl rfl) ?_
  refine jH ?_
  refine kN rfl ?_
  refine kY ?_
  refine jB ?_
  refine jB ?_
  refine zS (l := [0, 1, 2, 3, 4, 5]) rfl ?_
  refine zH (x := .int .i32 ((c : Nat) : Int)) rfl rfl (bk _) rfl rfl (zN rfl) ?_
  refine zH (x := .bool true) rfl rfl (bk _) rfl rfl (kE rfl rfl (vR (decide_eq_true (by omega)))) ?_
  refine zH (x := .bool true) rfl rfl (bk _) rfl rfl (zN rfl) ?_
  refine kA rfl ⟨_, _, rfl, rfl, rfl⟩ rfl rfl ?_
  refine kA rfl ⟨_, _, rfl, rfl, rfl⟩ rfl rfl ?_
  refine zH (x := .bool true) rfl rfl (bk _) rfl rfl (kH true rfl rfl) ?_
  refine jH ?_
  refine xD rfl ?_
  refine vH ?_
  refine z_on E.enable ?_
  exact fun a todo ha => hend _ ⟨rfl, ha.defs, rfl, rfl⟩
theorem zVb (hi : i ≠ 0) {p : Addr} (hcell : v.cell? p = some (.chan (some d0))) (hlt : p.block < v.heap.size) : ΦN Try.prog (Cp low 131 msg) i Stop v (Wt.enc W0 d0 .new) (G (Frame.enter Try.prog 78 [.pointer (some ⟨W0, 0, none⟩), .pointer (some p)].toArray .deferred) [bornF Try.prog]) := by
 letI : Sys := nSys Try.prog (Cp low 131 msg) i
 refine zKn Try.func78 rfl rfl rfl ?_
 refine jB ?_
 refine zS (l := [0]) rfl ?_
 refine zAj (vs := [.pointer (some ⟨W0, 0, none⟩)]) rfl rfl (bkD _) rfl Try.func79 (by kernel_rfl) rfl rfl rfl rfl (fun a1 h1 => ?_)
 refine jB ?_
 refine xD rfl ?_
 refine zS (l := [0]) rfl ?_
 refine zXp hi rfl rfl (bk _) rfl rfl rfl E.disable (fun n => ?_)
 refine jH ?_
 refine zFg ?_
 refine zTn (fr' := [(0, .pointer (some ⟨W0, 0, none⟩))]) (by repeat (first | exact Sub.nil _ | refine Sub.cons rfl ?_)) ?_
 refine zWg (fun n ih => ?_) n
 refine zFg ?_
 refine jB ?_
 refine zS (l := [0, 1, 2, 3, 4]) rfl ?_
 refine zH (x := .pointer (some ⟨W0, 0, none⟩)) rfl rfl (bk _) rfl rfl (zN rfl) ?_
 refine zH (x := .pointer (some ⟨W0, 0, none⟩)) rfl rfl (bk _) rfl rfl (kT rfl) ?_
 refine zH (x := .pointer (some ⟨W0, 0, none⟩)) rfl rfl (bk _) rfl rfl (qN rfl F.fi131_1 F.ti128) ?_
 refine zAj (vs := [.pointer (some ⟨W0, 0, none⟩)]) rfl rfl (bk _) rfl Try.func97 (by kernel_rfl) rfl rfl rfl rfl (fun a2 h2 => ?_)
 refine jB ?_
 refine zS (l := [0]) rfl ?_
 refine zH (x := .int .u64 0) rfl rfl (bk _) rfl rfl (jM rfl) ?_
 refine jH ?_
 refine jB ?_
 refine zS (l := [0, 1, 2, 3, 4]) rfl ?_
 refine zH (x := .pointer (some ⟨W0, 0, none⟩)) rfl rfl (bk _) rfl rfl (zN rfl) ?_
 refine zH (x := .pointer (some ⟨W0, 0, none⟩)) rfl rfl (bk _) rfl rfl (kT rfl) ?_
 refine zH (x := .pointer (some ⟨W0, 0, none⟩)) rfl rfl (bk _) rfl rfl (qN rfl F.fi128_2 F.ti70) ?_
 refine zWa hi rfl rfl (bk _) rfl rfl rfl rfl E.load ?_ (fun c hc0 hc1 hcn => ?_)
 ·
  refine zH (x := .int .u64 (stt 0 0)) rfl rfl (bk _) rfl rfl (jM rfl) ?_
  refine jH ?_
  refine vH ?_
  refine qK rfl Try.func97 (.inr ⟨2, rfl, rfl⟩) rfl rfl rfl h2 ?_
  refine zH (x := .int .u64 (stt 0 0)) rfl rfl (bk _) rfl rfl (jM rfl) ?_
  refine jH ?_
  refine jB ?_
  refine zS (l := [0, 1, 2, 3]) rfl ?_
  refine zH (x := .int .u64 (stt 0 0)) rfl rfl (bk _) rfl rfl (zN rfl) ?_
  refine zH (x := .int .u64 ((0 : Nat) : Int)) rfl rfl (bk _) rfl rfl (zA4 (.inr rfl) rfl rfl (zAe (by decide))) ?_
  refine zH (x := .int .i32 ((0 : Nat) : Int)) rfl rfl (bk _) rfl rfl (kS rfl Try.underlying70 Try.underlying21 (yJ (by omega))) ?_
  refine zH (x := .int .i32 ((0 : Nat) : Int)) rfl rfl (bk _) rfl rfl (jM rfl) ?_
  refine jH ?_
  refine jB ?_
  refine zS (l := [0, 1, 2, 3]) rfl ?_
  refine zH (x := .int .u64 (stt 0 0)) rfl rfl (bk _) rfl rfl (zN rfl) ?_
  refine zH (x := .int .u64 ((0 : Nat) : Int)) rfl rfl (bk _) rfl rfl (kE rfl rfl (wY (by omega) (by decide))) ?_
  refine zH (x := .int .u32 ((0 : Nat) : Int)) rfl rfl (bk _) rfl rfl (kS rfl Try.underlying70 Try.underlying129 (yI (by omega))) ?_
  refine zH (x := .int .u32 ((0 : Nat) : Int)) rfl rfl (bk _) rfl rfl (jM rfl) ?_
  refine jH ?_
  refine jB ?_
  refine jB ?_
  refine zS (l := [0, 1]) rfl ?_
  refine zH (x := .int .i32 ((0 : Nat) : Int)) rfl rfl (bk _) rfl rfl (zN rfl) ?_
  refine zH (x := .bool true) rfl rfl (bk _) rfl rfl (kE rfl rfl (zBa (decide_eq_true (by omega)))) ?_
  refine jH ?_
  refine xD rfl ?_
  refine jB ?_
  refine xD rfl ?_
  refine jB ?_
  refine zS (l := [0]) rfl ?_
  refine zPs (q := .on) (q' := .acq) .enable (by simp) (fun σ ok h => ⟨_, zQ2 ok h⟩) hi rfl rfl (bk _) rfl rfl rfl E.enable ?_
  refine jH ?_
  refine zS (l := [0, 1, 2]) rfl ?_
  refine zH (x := .pointer (some ⟨W0, 0, none⟩)) rfl rfl (bk _) rfl rfl (zN rfl) ?_
  refine zLu (q := .acq) rfl rfl (bk _) rfl rfl Try.underlying144 Try.underlying146 (by kernel_rfl) (.inl rfl) ?_
  refine zGj (q := .acq) (q' := .cls) .acquire (by simp) 0 (fun σ ok h => ⟨_, zN3 ok h⟩) hi rfl rfl (bk _) rfl rfl rfl rfl E.acquire ?_
  refine jH ?_
  refine jB ?_
  refine jB ?_
  refine zS (l := [0, 1, 2, 3, 4, 5, 6, 7, 8, 9, 10]) rfl ?_
  refine zH (x := .int .u32 ((0 : Nat) : Int)) rfl rfl (bk _) rfl rfl (zN rfl) ?_
  refine zH (x := .bool true) rfl rfl (bk _) rfl rfl (kE rfl rfl (zBa (decide_eq_true (by omega)))) ?_
  refine zH (x := .bool true) rfl rfl (bk _) rfl rfl (zN rfl) ?_
  refine zH (x := .int .u64 (stt 0 0)) rfl ⟨_, _, rfl, rfl, rfl⟩ (bk _) rfl rfl (zN rfl) ?_
  refine zH (x := .int .u64 0) rfl ⟨_, _, rfl, rfl, rfl⟩ (bk _) rfl rfl (kE rfl rfl (zAb (by omega) (by decide))) ?_
  refine zH (x := .bool false) rfl ⟨_, _, rfl, rfl, rfl⟩ (bk _) rfl rfl (kE rfl rfl (xV (decide_eq_false (by omega)))) ?_
  refine zH (x := .bool false) rfl rfl (bk _) rfl rfl (kH true rfl rfl) ?_
  refine zH (x := .bool false) rfl rfl (bk _) rfl rfl (zN rfl) ?_
  refine kA rfl ⟨_, _, rfl, rfl, rfl⟩ rfl rfl ?_
  refine kA rfl ⟨_, _, rfl, rfl, rfl⟩ rfl rfl ?_
  refine zH (x := .bool false) rfl rfl (bk _) rfl rfl (kH false rfl rfl) ?_
  refine jH ?_
  refine kN rfl ?_
  refine kY ?_
  refine vH ?_
  refine qK rfl Try.func79 (.inl ⟨rfl, rfl⟩) rfl rfl rfl h1 ?_
  refine jH ?_
  refine zS (l := [0, 1]) rfl ?_
  refine zQn rfl (bkD _) rfl rfl rfl F.one122 hcell hlt ?_
  refine zN7 hi rfl rfl (bkD _) rfl rfl rfl ?_
  refine jH ?_
  refine zCe ?_
  exact zBw Try.func78 rfl
 ·
  refine zH (x := .int .u64 (stt c 0)) rfl rfl (bk _) rfl rfl (jM rfl) ?_
  refine jH ?_
  refine vH ?_
  refine qK rfl Try.func97 (.inr ⟨2, rfl, rfl⟩) rfl rfl rfl h2 ?_
  refine zH (x := .int .u64 (stt c 0)) rfl rfl (bk _) rfl rfl (jM rfl) ?_
  refine jH ?_
  refine jB ?_
  refine zS (l := [0, 1, 2, 3]) rfl ?_
  refine zH (x := .int .u64 (stt c 0)) rfl rfl (bk _) rfl rfl (zN rfl) ?_
  refine zH (x := .int .u64 ((c : Nat) : Int)) rfl rfl (bk _) rfl rfl (zA4 (.inr rfl) rfl rfl (zAe (by decide))) ?_
  refine zH (x := .int .i32 ((c : Nat) : Int)) rfl rfl (bk _) rfl rfl (kS rfl Try.underlying70 Try.underlying21 (yJ (by omega))) ?_
  refine zH (x := .int .i32 ((c : Nat) : Int)) rfl rfl (bk _) rfl rfl (jM rfl) ?_
  refine jH ?_
  refine jB ?_
  refine zS (l := [0, 1, 2, 3]) rfl ?_
  refine zH (x := .int .u64 (stt c 0)) rfl rfl (bk _) rfl rfl (zN rfl) ?_
  refine zH (x := .int .u64 ((0 : Nat) : Int)) rfl rfl (bk _) rfl rfl (kE rfl rfl (wY (by omega) (by decide))) ?_
  refine zH (x := .int .u32 ((0 : Nat) : Int)) rfl rfl (bk _) rfl rfl (kS rfl Try.underlying70 Try.underlying129 (yI (by omega))) ?_
  refine zH (x := .int .u32 ((0 : Nat) : Int)) rfl rfl (bk _) rfl rfl (jM rfl) ?_
  refine jH ?_
  refine jB ?_
  refine jB ?_
  refine zS (l := [0, 1]) rfl ?_
  refine zH (x := .int .i32 ((c : Nat) : Int)) rfl rfl (bk _) rfl rfl (zN rfl) ?_
  refine zH (x := .bool false) rfl rfl (bk _) rfl rfl (kE rfl rfl (zBa (decide_eq_false (by omega)))) ?_
  refine jH ?_
  refine kN rfl ?_
  refine kY ?_
  refine jB ?_
  refine zS (l := [0, 1, 2, 3, 4, 5, 6]) rfl ?_
  refine zH (x := .pointer (some ⟨W0, 0, none⟩)) rfl rfl (bk _) rfl rfl (zN rfl) ?_
  refine zH (x := .pointer (some ⟨W0, 0, none⟩)) rfl rfl (bk _) rfl rfl (kT rfl) ?_
  refine zH (x := .pointer (some ⟨W0, 0, none⟩)) rfl rfl (bk _) rfl rfl (qN rfl F.fi131_1 F.ti128) ?_
  refine zH (x := .int .u64 (stt c 0)) rfl rfl (bk _) rfl rfl (zN rfl) ?_
  refine zH (x := .int .u64 (stt c 0)) rfl rfl (bk _) rfl rfl (zN rfl) ?_
  refine zH (x := .int .u64 (stt c 1)) rfl rfl (bk _) rfl rfl (kE rfl rfl (zW4 (by omega))) ?_
  refine zAj (vs := [.pointer (some ⟨W0, 0, none⟩), .int .u64 (stt c 0), .int .u64 (stt c 1)]) rfl rfl (bk _) rfl Try.func103 (by kernel_rfl) rfl rfl rfl rfl (fun a3 h3 => ?_)
  refine jB ?_
  refine zS (l := [0]) rfl ?_
  refine zH (x := .bool false) rfl rfl (bk _) rfl rfl (jM rfl) ?_
  refine jH ?_
  refine jB ?_
  refine zS (l := [0, 1, 2, 3, 4, 5, 6]) rfl ?_
  refine zH (x := .pointer (some ⟨W0, 0, none⟩)) rfl rfl (bk _) rfl rfl (zN rfl) ?_
  refine zH (x := .pointer (some ⟨W0, 0, none⟩)) rfl rfl (bk _) rfl rfl (kT rfl) ?_
  refine zH (x := .pointer (some ⟨W0, 0, none⟩)) rfl rfl (bk _) rfl rfl (qN rfl F.fi128_2 F.ti70) ?_
  refine zH (x := .int .u64 (stt c 0)) rfl rfl (bk _) rfl rfl (zN rfl) ?_
  refine zH (x := .int .u64 (stt c 1)) rfl rfl (bk _) rfl rfl (zN rfl) ?_
  refine zYf hi rfl rfl (bk _) rfl rfl rfl rfl rfl rfl E.cas ?_ ?_
  ·
   refine zH (x := .bool true) rfl rfl (bk _) rfl rfl (jM rfl) ?_
   refine jH ?_
   refine vH ?_
   refine qK rfl Try.func103 (.inr ⟨6, rfl, rfl⟩) rfl rfl rfl h3 ?_
   refine jH ?_
   refine xD rfl ?_
   refine jB ?_
   refine jB ?_
   refine zS (l := [0, 1, 2, 3]) rfl ?_
   refine zH (x := .bool true) rfl rfl (bk _) rfl rfl (zN rfl) ?_
   refine zH (x := .int .u32 ((0 : Nat) : Int)) rfl ⟨_, _, rfl, rfl, rfl⟩ (bk _) rfl rfl (zN rfl) ?_
   refine zH (x := .bool true) rfl ⟨_, _, rfl, rfl, rfl⟩ (bk _) rfl rfl (kE rfl rfl (zBa (decide_eq_true (by omega)))) ?_
   refine zH (x := .bool true) rfl rfl (bk _) rfl rfl (kH true rfl rfl) ?_
   refine jH ?_
   refine xD rfl ?_
   refine zS (l := [0, 1, 2, 3, 4]) rfl ?_
   refine zH (x := .pointer (some ⟨W0, 0, none⟩)) rfl rfl (bk _) rfl rfl (zN rfl) ?_
   refine zH (x := .pointer (some ⟨W0, 0, none⟩)) rfl rfl (bk _) rfl rfl (kT rfl) ?_
   refine zH (x := .pointer (some ⟨W0, 1, none⟩)) rfl rfl (bk _) rfl rfl (qN rfl F.fi131_2 F.ti129) ?_
   refine zLu (q := .writ) rfl rfl (bk _) rfl rfl Try.underlying151 Try.underlying146 (by kernel_rfl) (.inr rfl) ?_
   refine zGj (q := .writ) (q' := .sleep) .write (by simp) 1 (fun σ ok h => ⟨_, zR4 ok h⟩) hi rfl rfl (bk _) rfl rfl rfl rfl E.write ?_
   refine jH ?_
   refine jB ?_
   refine zS (l := [0]) rfl ?_
   refine zH (x := .bool false) rfl rfl (bk _) rfl rfl (jM rfl) ?_
   refine jH ?_
   refine jB ?_
   refine jB ?_
   refine zS (l := [0, 1, 2, 3, 4, 5]) rfl ?_
   refine zH (x := .int .u64 (stt c 0)) rfl rfl (bk _) rfl rfl (zN rfl) ?_
   refine zH (x := .int .u64 0) rfl rfl (bk _) rfl rfl (kE rfl rfl (zAb (by omega) (by decide))) ?_
   refine zH (x := .bool false) rfl rfl (bk _) rfl rfl (kE rfl rfl (xV (decide_eq_false (by omega)))) ?_
   refine zH (x := .bool false) rfl rfl (bk _) rfl rfl (zN rfl) ?_
   refine kA rfl ⟨_, _, rfl, rfl, rfl⟩ rfl rfl ?_
   refine zH (x := .bool false) rfl rfl (bk _) rfl rfl (kH false rfl rfl) ?_
   refine jH ?_
   refine kN rfl ?_
   refine kY ?_
   refine jB ?_
   refine zS (l := [0, 1, 2, 3, 4]) rfl ?_
   refine zH (x := .pointer (some ⟨W0, 0, none⟩)) rfl rfl (bk _) rfl rfl (zN rfl) ?_
   refine zH (x := .pointer (some ⟨W0, 0, none⟩)) rfl rfl (bk _) rfl rfl (kT rfl) ?_
   refine zH (x := .pointer (some ⟨W0, 1, none⟩)) rfl rfl (bk _) rfl rfl (qN rfl F.fi131_2 F.ti129) ?_
   refine zH (x := .bool false) rfl rfl (bk _) rfl rfl (zN rfl) ?_
   refine zX0 (xs := [_]) hi rfl rfl (bk _) rfl rfl rfl rfl E.semacq ?_
   refine jH ?_
   refine jB ?_
   refine zS (l := [0, 1, 2, 3, 4, 5]) rfl ?_
   refine zH (x := .pointer (some ⟨W0, 0, none⟩)) rfl rfl (bk _) rfl rfl (zN rfl) ?_
   refine zH (x := .pointer (some ⟨W0, 0, none⟩)) rfl rfl (bk _) rfl rfl (kT rfl) ?_
   refine zH (x := .pointer (some ⟨W0, 0, none⟩)) rfl rfl (bk _) rfl rfl (qN rfl F.fi131_1 F.ti128) ?_
   refine zAj (vs := [.pointer (some ⟨W0, 0, none⟩)]) rfl rfl (bk _) rfl Try.func97 (by kernel_rfl) rfl rfl rfl rfl (fun a4 h4 => ?_)
   refine jB ?_
   refine zS (l := [0]) rfl ?_
   refine zH (x := .int .u64 0) rfl rfl (bk _) rfl rfl (jM rfl) ?_
   refine jH ?_
   refine jB ?_
   refine zS (l := [0, 1, 2, 3, 4]) rfl ?_
   refine zH (x := .pointer (some ⟨W0, 0, none⟩)) rfl rfl (bk _) rfl rfl (zN rfl) ?_
   refine zH (x := .pointer (some ⟨W0, 0, none⟩)) rfl rfl (bk _) rfl rfl (kT rfl) ?_
   refine zH (x := .pointer (some ⟨W0, 0, none⟩)) rfl rfl (bk _) rfl rfl (qN rfl F.fi128_2 F.ti70) ?_
   refine zVh hi rfl rfl (bk _) rfl rfl rfl rfl E.load ?_
   refine zH (x := .int .u64 (stt 0 0)) rfl rfl (bk _) rfl rfl (jM rfl) ?_
   refine jH ?_
   refine vH ?_
   refine qK rfl Try.func97 (.inr ⟨2, rfl, rfl⟩) rfl rfl rfl h4 ?_
   refine zH (x := .bool false) rfl rfl (bk _) rfl rfl (kE rfl rfl (xV (by decide))) ?_
   refine zH (x := .bool false) rfl rfl (bk _) rfl rfl (jM rfl) ?_
   refine jH ?_
   refine jB ?_
   refine xD rfl ?_
   refine jB ?_
   refine zS (l := [0]) rfl ?_
   refine zPs (q := .on) (q' := .acq) .enable (by simp) (fun σ ok h => ⟨_, zQ2 ok h⟩) hi rfl rfl (bk _) rfl rfl rfl E.enable ?_
   refine jH ?_
   refine zS (l := [0, 1, 2]) rfl ?_
   refine zH (x := .pointer (some ⟨W0, 0, none⟩)) rfl rfl (bk _) rfl rfl (zN rfl) ?_
   refine zLu (q := .acq) rfl rfl (bk _) rfl rfl Try.underlying144 Try.underlying146 (by kernel_rfl) (.inl rfl) ?_
   refine zGj (q := .acq) (q' := .cls) .acquire (by simp) 0 (fun σ ok h => ⟨_, zN3 ok h⟩) hi rfl rfl (bk _) rfl rfl rfl rfl E.acquire ?_
   refine jH ?_
   refine jB ?_
   refine jB ?_
   refine zS (l := [0]) rfl ?_
   refine zH (x := .bool false) rfl rfl (bk _) rfl rfl (zN rfl) ?_
   refine jH ?_
   refine kN rfl ?_
   refine kY ?_
   refine vH ?_
   refine qK rfl Try.func79 (.inl ⟨rfl, rfl⟩) rfl rfl rfl h1 ?_
   refine jH ?_
   refine zS (l := [0, 1]) rfl ?_
   refine zQn rfl (bkD _) rfl rfl rfl F.one122 hcell hlt ?_
   refine zN7 hi rfl rfl (bkD _) rfl rfl rfl ?_
   refine jH ?_
   refine zCe ?_
   exact zBw Try.func78 rfl
  ·
   refine zH (x := .bool false) rfl rfl (bk _) rfl rfl (jM rfl) ?_
   refine jH ?_
   refine vH ?_
   refine qK rfl Try.func103 (.inr ⟨6, rfl, rfl⟩) rfl rfl rfl h3 ?_
   refine jH ?_
   refine kN rfl ?_
   refine kY ?_
   refine zJd ?_
   exact zTn (fr' := [(0, .pointer (some ⟨W0, 0, none⟩))]) (by repeat (first | exact Sub.nil _ | refine Sub.cons rfl ?_)) (ih (c - 1) (by omega))
end
end Go.Proofs.Yteppiphdbondeaa.N
namespace Go.Proofs.Yteppiphdbondeaa.N
open Go Go.RowKit Go.Proofs Go.Conc
set_option linter.unusedSectionVars false
theorem zYm {low m W0 f0 d0 e0 : Nat} {msg : Nat -> Value} {ow : List Nat} {w : World} (hm : m + 1 < 1000000) (hout : w.output = gout (Mn.enc W0 f0 d0 e0 ow (.hire 0 m))) :
  @Calls Try.prog (zSys Try.prog (Cp low 131 msg)) 75 #[.pointer (some ⟨W0, 0, none⟩), .int .i64 1] w fun e w' => e = .returned (.tuple #[]) ∧ w' = saying w (gout (Mn.enc W0 f0 d0 e0 ow (.hire 4 m))) := by
 intro cs
 letI : Sys := zSys Try.prog (Cp low 131 msg)
 have h := zVy (low := low) (msg := msg) (W0 := W0) (f0 := f0) (d0 := d0) (e0 := e0) (ow := ow) (m := m) (v := w) (cs := cs)
  (Stop := fun g v' => ∃ e fr v₀, (e = .returned (.tuple #[]) ∧ v₀ = saying w (gout (Mn.enc W0 f0 d0 e0 ow (.hire 4 m)))) ∧ Rl v₀ v' ∧ g = G fr cs ∧ fr.fn = 75 ∧ Leaving Try.prog fr v' e) hm (fun fr h1 => by
   obtain ⟨h1, h2, h3, h4⟩ := h1
   refine Gs.stop fun v₁ hv => ⟨_, fr, _, ⟨rfl, rfl⟩, hv, rfl, h4, h1, h2, h3, _, by rw [h4]; exact Try.func75, ?_⟩
   have hr : Try.f75.results = #[] := rfl
   have h5 : results Try.f75 fr.tmps = pure (.tuple #[]) := by
    unfold results
    rw [hr]
    simp
   refine ⟨?_, fun v₂ _ => ?_⟩
   ·rw [h5]; exact xK _
   ·rw [h5]; rfl)
 unfold ΦZ at h
 have e : saying w (gout (Mn.enc W0 f0 d0 e0 ow (.hire 0 m))) = w := by rw [<- hout]; rfl
 rw [e] at h
 exact h
end Go.Proofs.Yteppiphdbondeaa.N
namespace Go.Proofs.Yteppiphdbondeaa.N
open Go Go.RowKit Go.Proofs
set_option linter.unusedSectionVars false
variable [I : Sys]

def Places (P : Program) (t : TypeId) (pl : List (Nat × Nat)) : Prop :=
 (∃ fs, P.underlying t = some (.struct fs) ∧ fs.toList.mapM (fun f => (P.info? f.type).map fun i => (f.offset, i.size)) = some pl) ∨
 (∃ n e s, P.underlying t = some (.array n e) ∧ (P.info? e).map (·.size) = some s ∧ pl = (List.range n).map (fun j => (j * s, s)))
inductive Filled (pl : List (Nat × Nat)) : List Value -> List (Nat × Value) -> List Value -> Prop
 | nil (z : List Value) : Filled pl z [] z
 | cons {i off : Nat} {v : Value} {z lv l : List Value} {ps : List (Nat × Value)} [h : Cells v lv] (hp : pl[i]? = some (off, lv.length)) (hb : Nat.ble (off + lv.length) z.length = true)
   (h' : Filled pl (z.take off ++ lv ++ z.drop (off + lv.length)) ps l) : Filled pl z ((i, v) :: ps) l
theorem zF2 {pl : List (Nat × Nat)} {place : Nat -> Option (Nat × Nat)} (hpl : ∀ i q, pl[i]? = some q -> place i = some q) {z l : List Value} {ps : List (Nat × Value)} (h : Filled pl z ps l) : Instr.fill place z.toArray ps = some l.toArray := by
 induction h with
 | nil z => rfl
 | @cons i off v z lv l ps hc hp hb _ ih =>
  have hb' : off + lv.length <= z.length := by simpa [Nat.ble_eq] using hb
  unfold Instr.fill
  rw [hpl _ _ hp]
  simp only [hc.eq]
  rw [if_neg (by simp; omega)]
  have hfold := zJj lv z.toArray off 0 (by simp; omega)
  simp only [Nat.add_zero] at hfold
  have hz : lv.toArray.zipIdx.foldl (fun cs (q : Value × Nat) => cs.setIfInBounds (off + q.2) q.1) z.toArray = (z.take off ++ lv ++ z.drop (off + lv.length)).toArray := by
   apply Array.ext'
   rw [<- Array.foldl_toList]
   simpa using hfold
  rw [show (fun (cs : Array Value) (x : Value × Nat) => match x with | (c, j) => cs.setIfInBounds (off + j) c) = (fun (cs : Array Value) (q : Value × Nat) => cs.setIfInBounds (off + q.2) q.1) from rfl, hz]
  exact ih
theorem zI9 {P : Program} {t : TypeId} {z l : List Value} {n m : Nat} {pl : List (Nat × Nat)} {ps : List (Nat × Value)} (hi : TI P t (.agg z.toArray) n m) (hpl : Places P t pl) (h : Filled pl z ps l) (w : World) :
  (Instr.build t ps.toArray).run P w = .ok (.agg l.toArray) w := by
 obtain ⟨i, hi, hz, _⟩ := hi
 refine run_build w t _ _ ?_
 unfold Program.built
 rcases hpl with ⟨fs, hu, hfs⟩ | ⟨k, e, s, hu, hs, rfl⟩
 ·have hf := zF2 (place := fun i => pl.toArray[i]?) (fun i q hq => by simpa using hq) h
  simp only [hi, hu, hz, hfs]
  exact hf
 ·obtain ⟨j, hj, hjs⟩ := Option.map_eq_some_iff.1 hs
  have hf := zF2 (place := fun i => some (i * s, s)) (fun i q hq => by
   rw [List.getElem?_map] at hq
   obtain ⟨a, ha, hq⟩ := Option.map_eq_some_iff.1 hq
   have hai : a = i := by
    rcases Nat.lt_or_ge i k with h1 | h1
    ·rw [List.getElem?_range h1] at ha; exact (Option.some.inj ha).symm
    ·rw [List.getElem?_eq_none (by simpa using h1)] at ha; cases ha
   rw [<- hq, hai]) h
  simp only [hi, hu, hz, hj, hjs]
  exact hf
section
variable {C : Ctx} {fr : List (Nat × Value)} {hp hp' : List Res} {a : Act} {w : World} {ops : Array Oper} {Q : Exit -> Act -> World -> Prop} {rest : List Oper}
 {d : Nat} {ty : TypeId} {pos : String} {after : Array Edge}
theorem kD {t : TypeId} {parts : Array (Nat × Operand)} {vs : List (Nat × Value)} {z l l' : List Value} {n m : Nat} {pl : List (Nat × Nat)} (hd : Nat.blt d C.N = true)
  (hx : parts.toList.map (fun q => (q.1, ev fr q.2)) = vs.map (fun q => (q.1, some q.2))) (hi : TI C.P t (.agg z.toArray) n m) (hpl : Places C.P t pl) (h : Filled pl z vs l) (hl : l = l')
  (k : Lst C ops Q rest ((d, .agg l'.toArray) :: fr) hp) : Lst C ops Q (⟨some d, .build t parts, ty, pos, after, none⟩ :: rest) fr hp := by
 subst hl
 exact zQd hd hx (zI9 hi hpl h) k
theorem xP {dst : Option Tmp} {t : TypeId} {parts : Array (Nat × Operand)} {vs : List (Nat × Value)} {z l l' : List Value} {n m : Nat} {pl : List (Nat × Nat)}
  (hx : parts.toList.map (fun q => (q.1, ev fr q.2)) = vs.map (fun q => (q.1, some q.2))) (hi : TI C.P t (.agg z.toArray) n m) (hpl : Places C.P t pl) (h : Filled pl z vs l) (hl : l = l') :
  Yld C ⟨dst, .build t parts, ty, pos, after, none⟩ fr hp (.agg l'.toArray) := by
 subst hl
 refine ⟨rfl, fun a w ha => ⟨zH0 .., ?_⟩⟩
 have h' : parts.map (fun (i, x) => (i, a.eval x)) = vs.toArray := by
  have : ∀ (l : List (Nat × Operand)) (vs : List (Nat × Value)), l.map (fun q => (q.1, ev fr q.2)) = vs.map (fun q => (q.1, some q.2)) -> l.map (fun (q : Nat × Operand) => (q.1, a.eval q.2)) = vs := by
   intro l
   induction l with
   | nil => intro vs h; cases vs with
    | nil => rfl
    | cons => simp at h
   | cons x l ih =>
    intro vs h
    cases vs with
    | nil => simp at h
    | cons v vs =>
     simp only [List.map_cons, List.cons.injEq, Prod.mk.injEq] at h
     rw [List.map_cons, ha.eval h.1.2, ih vs h.2, h.1.1]
  obtain ⟨l⟩ := parts
  simp only [List.map_toArray]
  rw [show (fun (x : Nat × Operand) => match x with | (i, x) => (i, a.eval x)) = (fun (q : Nat × Operand) => (q.1, a.eval q.2)) from rfl, this l vs hx]
 simp only [execOp, h', Sem.run_bind, zI9 hi hpl h, Result.andThen_ok, Sem.run_pure]
theorem zNf {dst : Option Tmp} {op : BinOp} {x y : Operand} {t t' : TypeId} {u u' : Value} {v : Value} [htb : TB u u'] (hx : ev fr x = some u) (hy : ev fr y = some u')
  (hr : ∀ w : World, (do eqGuard op t x y u u'; binOp op t u u' : Sem Value).run C.P w = .ok v w) : Yld C ⟨dst, .binOp op t x y t', ty, pos, after, none⟩ fr hp v := by
 refine ⟨rfl, fun a w ha => ⟨kM _ (by rw [ha.eval hx, ha.eval hy]; exact htb.tame ..), ?_⟩⟩
 have := hr w
 simp only [execOp, ha.eval hx, ha.eval hy, Sem.run_bind] at this ⊢
 rw [this]; rfl
theorem zL0 (ha : At C fr hp a w) {j t : Nat} (hj : (ops[j]?).bind (·.dst) = some t) (hv : look fr t = some undef) : yielded ops a.tmps j = none := by
 have h := ha.slots t _ hv
 unfold yielded
 rw [hj]
 simp only [Option.bind_some]
 cases hx : a.tmps[t]? with
 | none => rfl
 | some u =>
  rw [Array.getD_eq_getD_getElem?, hx] at h
  have hu : u = undef := h
  rw [hu]; rfl
theorem kP {op : Op} {j t d : Nat} {b : Bool} (hd : Nat.blt d C.N = true) (hj : (ops[j]?).bind (·.dst) = some t) (hv : look fr t = some undef)
  (k : Lst C ops Q rest ((d, undef) :: fr) hp) : Lst C ops Q (⟨some d, op, ty, pos, after, some (j, b)⟩ :: rest) fr hp := by
 intro a w ha
 simp only [wpList]
 have e : Region.wanted ⟨some d, op, ty, pos, after, some (j, b)⟩ (yielded ops a.tmps) = false := by
  simp [Region.wanted, zL0 ha hj hv]
 rw [if_neg (by rw [e]; simp)]
 exact k _ _ (ha.put (kB hd) _)
inductive Dk
 | b (n : Nat)
 | q (A : Option Addr)
 | r (A : Option Addr)
class Drp (bs : List Dk) (hp : List Res) (hp' : outParam (List Res)) : Prop where
 sub : hp'.Sublist hp
instance Drp.nil (hp : List Res) : Drp [] hp hp := ⟨List.Sublist.refl _⟩
class Drp1 (b : Dk) (hp : List Res) (hp' : outParam (List Res)) : Prop where
 sub : hp'.Sublist hp
instance Drp1.tail (b : Dk) (x : Res) (l l' : List Res) [h : Drp1 b l l'] : Drp1 b (x :: l) (x :: l') := ⟨h.sub.cons_cons x⟩
instance Drp1.b (b : Nat) (o : Obj) (l : List Res) : Drp1 (.b b) (.blk b o :: l) l := ⟨List.Sublist.cons _ (List.Sublist.refl _)⟩
instance Drp1.r (A : Option Addr) (e size n c : Nat) (xs : List Value) (l : List Res) : Drp1 (.r A) (.row e size A n c xs :: l) l := ⟨List.Sublist.cons _ (List.Sublist.refl _)⟩
instance Drp.cons (b : Dk) (bs : List Dk) (l l' l'' : List Res) [h : Drp1 b l l'] [h' : Drp bs l' l''] : Drp (b :: bs) l l'' := ⟨h'.sub.trans h.sub⟩
theorem kJ {id : Nat} {l : List Oper} {hpS : List Res} (bs : List Dk) (hm : C.P.follows .mixedOrders = true) (n : Nat) (hn : l.length = n) (lst : List Bool) (hl : Array.replicate n false = lst.toArray) [hs : Drp bs hp hpS] (h : Any C l.toArray Q hpS n lst.toArray fr hp) :
  Cod C (.region id l.toArray true) Q fr hp := zI3 hm n hn lst hl hs.sub h
theorem zGd {fn : Func} {R : Ending -> World -> Prop} {ch : List PanicEntry} (hds : C.ds = []) (k : ∀ a w, At C fr hp a w -> R (.panicked ch) w) : Ex C (bodyPost C.P fn R) (.panic ch) fr hp :=
 fun a w ha => ⟨ha.defs.trans hds, k a w ha⟩
end
end Go.Proofs.Yteppiphdbondeaa.N
namespace Go.Proofs.Yteppiphdbondeaa.N
open Go Go.RowKit Go.Proofs
set_option linter.unusedSectionVars false
theorem sbl {l m : List Res} (h : l.Sublist m := by repeat (first | exact List.Sublist.refl _ | exact List.nil_sublist _ | refine List.Sublist.cons_cons _ ?_ | refine List.Sublist.cons _ ?_)) : l.Sublist m := h
theorem sbn {l m : List (Nat × Value)} (h : Sub l m := by repeat (first | exact Sub.nil _ | refine Sub.cons rfl ?_)) : Sub l m := h
theorem pkk {l m : List Res} (h : Pck l m := by repeat (first | exact Pck.nil _ | exact Pck.refl _ | (apply Pck.cons; focus ((repeat (first | exact Rem.here _ | apply Rem.there)); done)) | refine Pck.skip _ ?_)) : Pck l m := h
theorem zG [I : Sys] {C : Ctx} {fr : List (Nat × Value)} {hp hpS : List Res} {ops : Array Oper} {Q : Exit -> Act -> World -> Prop} {d fuel : Nat} {listed : Array Bool} {o : Oper} {v : Value} (i : Nat) (hi : ops[i]? = some o) (hdst : o.dst = some d) (hd : Nat.blt d C.N = true)
  (y : Yld C o fr hpS v) (k : Any C ops Q hpS fuel (listed.setIfInBounds i true) ((d, v) :: fr) hp) (hns : Region.noSelect ops = true := by kernel_rfl) (hf : Region.free .any ops listed i = true := by kernel_rfl) (hr : (Region.ready .any ops listed).contains i = true := by kernel_rfl)
  (hs : hpS.Sublist hp := by repeat (first | exact List.Sublist.refl _ | exact List.nil_sublist _ | refine List.Sublist.cons_cons _ ?_ | refine List.Sublist.cons _ ?_)) : Any C ops Q hpS (fuel + 1) listed fr hp :=
 zSl i hi hdst hd hns hf hr hs y rfl k
theorem om {p : Prop} (h : p := by omega) : p := h
theorem kr {p : Prop} (h : p := by kernel_rfl) : p := h
theorem tdo {p : Prop} (h : p := by (try dsimp only); omega) : p := h
theorem nsl {α : Type} {l : List α} : [].Sublist l := List.nil_sublist l
section
variable [I : Sys] {C : Ctx} {fr : List (Nat × Value)} {hp hpS : List Res} {ops : Array Oper} {Q : Exit -> Act -> World -> Prop} {fuel : Nat} {listed : Array Bool}
theorem anx (h : Any C ops Q [] fuel listed fr hp) : Ex C (Exit.then (Nxt C ops Q [] fuel listed) (Lax (OnlyN Q))) .normal fr hp := zLc nsl h
theorem anb (h : Any C ops Q hpS fuel listed fr hp) (hs : hpS.Sublist hp := by repeat (first | exact List.Sublist.refl _ | exact List.nil_sublist _ | refine List.Sublist.cons_cons _ ?_ | refine List.Sublist.cons _ ?_)) : Ex C (Exit.then (Nxt C ops Q hpS fuel listed) (Lax (OnlyN Q))) .normal fr hp := zLc hs h
theorem adn (h : Ex C Q .normal fr hp) (h0 : Region.ready .any ops listed = [] := by kernel_rfl) : Any C ops Q hpS fuel listed fr hp := zSe rfl h0 h
theorem an1 {o : Oper} (i : Nat) (hi : ops[i]? = some o) (h : Lst C ops (Exit.then (Nxt C ops Q hpS fuel (listed.setIfInBounds i true)) (Lax (OnlyN Q))) [o] fr hp) (hr : Region.ready .any ops listed = [i] := by kernel_rfl) : Any C ops Q hpS (fuel + 1) listed fr hp := zT2 i hr hi rfl h
end
abbrev V4 (a b c d : Nat) : List Value := [.int .i64 (a : Int), .int .i64 (b : Int), .int .i64 (c : Int), .int .u8 (d : Int)]
abbrev CA (fA : Option Addr) (n fc kiln : Nat) (dA : Option Addr) (m dc : Nat) : List Value := [.slice fA n fc, .int .i64 (kiln : Int), .slice dA m dc]
end Go.Proofs.Yteppiphdbondeaa.N
namespace Go.Proofs.Yteppiphdbondeaa.N
open Go
set_option linter.unusedSectionVars false
variable [I : Sys]
theorem jF (n : Int) (h : -9223372036854775808 <= n) (h' : n < 9223372036854775808) : IntKind.i64.wrap n = n := by
 rw [IntKind.wrap_i64]
 omega
def ints (l : List Nat) : List Value := l.map fun (n : Nat) => Value.int .i64 (n : Int)
theorem zJf (l : List Nat) (n : Nat) : ints (l ++ [n]) = ints l ++ [.int .i64 (n : Int)] := by simp [ints]
theorem zCb (l : List Nat) : (ints l).length = l.length := by simp [ints]
end Go.Proofs.Yteppiphdbondeaa.N
namespace Go.Proofs.Yteppiphdbondeaa.N
open Go Go.RowKit Go.Conc
set_option linter.unusedSectionVars false
def roundPost (P : Program) (l : Nat) (R : Ending -> World -> Prop) : Exit -> Act -> World -> Prop
 | .normal, _, v => ∀ v₁, Rl v v₁ -> ∃ x v', (Instr.endRound l none).run P v₁ = .ok x v' ∧ R (.returned x) v'
 | .ret, _, v => ∀ v₁, Rl v v₁ -> ∃ x v', (Instr.endRound l (some .ret)).run P v₁ = .ok x v' ∧ R (.returned x) v'
 | .exit id, _, v => ∀ v₁, Rl v v₁ -> ∃ x v', (Instr.endRound l (some (.exit id))).run P v₁ = .ok x v' ∧ R (.returned x) v'
 | _, _, _ => False
section
variable {P : Program} [I : Sys]
omit I in
theorem zCh (l : Nat) : Tame P (Instr.beginRound l) := Tame.bind (zAm l) fun r => Tame.bind ⟨trivial, trivial⟩ fun _ => by
 split <;> first | trivial | exact jV _
omit I in
theorem zEm (l : Nat) : Tame P (Instr.endLoop l) := Tame.bind (zAm l) fun r => by
 show Tame P (if r.state == .busy then _ else _)
 split
 ·exact Tame.bind (jV _) fun _ => Tame.bind ⟨trivial, trivial⟩ fun _ => trivial
 ·exact Tame.bind ⟨trivial, trivial⟩ fun _ => trivial
theorem Stp.begin {main : Bool} {b : Frame} {a : Act} {k : List Item} {cs : List Frame} {l : Nat} {v v' : World} (hb : b.roundOf = some l) (hk : b.kind ≠ .early) (hr : (Instr.beginRound l).run P v = .ok () v') :
  ∃ es, Stp P main (G (b.atR a (.beginRound :: k)) cs) v (G (b.atR a k) cs) v' es := by
 have hk' : (b.kind == CallKind.early) = false := by simpa using hk
 have ht : Tame P (do Instr.beginRound l; pure .skip : Sem Next) := Tame.bind (zCh l) fun _ => trivial
 have hr' : (do Instr.beginRound l; pure .skip : Sem Next).run P v = .ok .skip v' := by simp [hr]
 refine ⟨seen P b.fn ((do Instr.beginRound l; pure .skip : Sem Next).events P v #[]), ⟨fun F S w hw => ?_, fun _ _ w hw => ?_⟩⟩
 ·obtain ⟨w', h1, h2, h3, h4, h5⟩ := ht.ok hr' hw
  refine ⟨w', ?_, h3, h4, vB h5⟩
  rw [<- h2]
  obtain ⟨w2, k1, _⟩ := (zCh l).ok hr hw
  obtain rfl : w2 = w' := by
   have e : (do Instr.beginRound l; pure .skip : Sem Next).run P w = .ok .skip w2 := by simp [k1]
   rw [h1] at e
   cases e; rfl
  simp [G, stepG, stepG.exec, Frame.atR, hb, stepG.apply, k1, hk', GStep.after, Frame.finish]
 ·obtain ⟨w', h1, _, _, h4, _⟩ := ht.ok hr' hw.self
  rw [hr'] at h1
  cases h1
  exact h4.output
theorem zKz {l : Nat} {f : FuncId} {tmps : Array Value} {assign body : Code} {v : World} {R : Ending -> World -> Prop} (hfa : fits assign = true) (hfb : fits body = true)
  (h : wp P assign (Exit.then (fun a v => ∀ v₁, Rl v v₁ -> ∃ v', (Instr.beginRound l).run P v₁ = .ok () v' ∧ wp P body (roundPost P l R) a v') (fun _ _ _ => False)) ⟨tmps, []⟩ v) : Rounds P l f tmps assign body v R := by
 intro cs
 let b : Frame := { (default : Frame) with fn := f, kind := .normal, roundOf := some l }
 have hb : b.kind ≠ .early := by simp [b]
 have he : Frame.round l f tmps assign body .normal = b.atR ⟨tmps, []⟩ [.code assign, .beginRound, .code body] := by simp [Frame.round, Frame.atR, b]
 rw [he]
 refine (h b [.beginRound, .code body] cs ⟨hb, .inr hfa⟩).bind ?_
 rintro g w' ⟨e, a', v0, hq, hr, harr⟩
 cases e with
 | normal =>
  obtain rfl := harr
  refine Gs.step' rfl fun v₁ h1 => ?_
  obtain ⟨v', h2, h3⟩ := hq v₁ (hr.trans h1)
  obtain ⟨es, h4⟩ := Stp.begin (main := I.main) (b := b) (a := a') (k := [.code body]) (cs := cs) rfl hb h2
  refine ⟨_, _, _, h4, (h3 b [] cs ⟨hb, .inr hfb⟩).bind ?_⟩
  rintro g w'' ⟨e, a2, v2, hq, hr, harr⟩
  cases e with
  | normal => obtain rfl := harr; exact .stop fun v3 h3 => ⟨_, rfl, b, a2, [], none, rfl, rfl, rfl, .inl ⟨rfl, rfl⟩, fun v4 h4 => hq v4 ((hr.trans h3).trans h4)⟩
  | ret => obtain ⟨todo, rfl⟩ := harr; exact .stop fun v3 h3 => ⟨_, rfl, b, a2, _, some .ret, rfl, rfl, rfl, .inr (.inl ⟨todo, rfl, rfl⟩), fun v4 h4 => hq v4 ((hr.trans h3).trans h4)⟩
  | exit id => obtain ⟨k₁, hk, rfl⟩ := harr; exact .stop fun v3 h3 => ⟨_, rfl, b, a2, _, some (.exit id), rfl, rfl, rfl, .inr (.inr ⟨id, k₁, rfl, by rw [hk]; rfl, rfl⟩), fun v4 h4 => hq v4 ((hr.trans h3).trans h4)⟩
  | _ => exact hq.elim
 | _ => exact hq.elim
def rangeSem (a : Act) (g : Operand) (l : Nat) : Sem Next := do
 let d <- resolve a.eval { callee := .value g, args := #[.const (.func (.yield l) #[] #[])], argTypes := #[] } 0
 invoke d.target d.args
omit I in
theorem zIk (fn : FuncId) (tmps : Array Value) (ps : Array Tmp) (assign body : Code) : Tame P (Instr.enterLoop fn tmps ps assign body none) := by
 exact And.intro trivial fun _ => And.intro trivial fun _ => trivial
theorem Stp.ranges {main : Bool} {b : Frame} {a : Act} {k : List Item} {cs : List Frame} {v : World} {g : Operand} {ps : Array Tmp} {assign body : Code} {f : FuncId} {args : Array Value} (hb : b.roundOf = none) (hk : b.kind ≠ .early)
  (ht : Tame P (rangeSem a g (v.heap.size + 1))) (hr : ∀ w, (rangeSem a g (v.heap.size + 1)).run P w = .ok (.enter f args) w) :
  ∃ es, Stp P main (G (b.atR a (.code (.rangeFunc g ps assign body) :: k)) cs) v
   (G (Frame.enter P f args .normal) (b.atR { a with defers := { target := .collected v.heap.size, args := #[] } :: a.defers } (.inRangeFunc (v.heap.size + 1) :: k) :: cs))
   ((v.alloc (.deferred (some []))).alloc (.loop { state := .ready, pending := none, fn := b.fn, tmps := a.tmps, params := ps, assign, body, defers := v.heap.size })) es := by
 have hk' : (b.kind == CallKind.early) = false := by simpa using hk
 have he : ∀ w : World, w.heap.size = v.heap.size -> (Instr.enterLoop b.fn a.tmps ps assign body none).run P w = .ok (v.heap.size + 1, [{ target := .collected v.heap.size, args := #[] }])
   ((w.alloc (.deferred (some []))).alloc (.loop { state := .ready, pending := none, fn := b.fn, tmps := a.tmps, params := ps, assign, body, defers := v.heap.size })) := fun w hw => by
  rw [<- hw]; exact run_enterLoop_outer (w := w) b.fn a.tmps ps assign body
 refine ⟨seen P b.fn ((Instr.enterLoop b.fn a.tmps ps assign body none).events P v #[]) ++ seen P b.fn ((rangeSem a g (v.heap.size + 1)).events P ((v.alloc (.deferred (some []))).alloc (.loop { state := .ready, pending := none, fn := b.fn, tmps := a.tmps, params := ps, assign, body, defers := v.heap.size })) #[]), ⟨fun F S w hw => ?_, fun _ _ w hw => rfl⟩⟩
 obtain ⟨w1, h1, h2, h3, h4, h5⟩ := (zIk b.fn a.tmps ps assign body).ok (he v rfl) hw
 obtain ⟨w2, k1, k2, k3, k4, k5⟩ := ht.ok (hr _) h3
 rw [hr w1] at k1
 cases k1
 refine ⟨w1, ?_, k3, h4.trans k4, ?_⟩
 ·rw [<- h2, <- k2]
  have hev : ({ fn := b.fn, tmps := a.tmps, todo := .inRangeFunc (v.heap.size + 1) :: k, defers := { target := .collected v.heap.size, args := #[] } :: a.defers, mode := .run, kind := b.kind } : Frame).eval = a.eval := by
   funext x; cases x <;> rfl
  have hr1 := hr w1
  unfold rangeSem at hr1 ⊢
  simp only [G, stepG, stepG.exec, Frame.atR, hb, h1, Sem.runT_eq, stepG.apply, List.singleton_append, hev, hr1]
  simp [GStep.after, hk']
 ·intro e hm
  rcases Array.mem_append.1 hm with hm | hm
  ·exact vB h5 e hm
  ·exact vB k5 e hm
theorem Stp.endRange {main : Bool} {b : Frame} {a : Act} {k : List Item} {cs : List Frame} {l : Nat} {v v' : World} {jump : Option Code} (hr : (Instr.endLoop l).run P v = .ok jump v') :
  ∃ es, Stp P main (G (b.atR a (.endRangeFunc l :: k)) cs) v (G (b.atR a ((jump.map Item.code).toList ++ k)) cs) v' es := by
 refine ⟨seen P b.fn ((Instr.endLoop l).events P v #[]), ⟨fun F S w hw => ?_, fun _ _ w hw => ?_⟩⟩
 ·obtain ⟨w', h1, h2, h3, h4, h5⟩ := (zEm l).ok hr hw
  refine ⟨w', ?_, h3, h4, vB h5⟩
  rw [<- h2]
  simp [G, stepG, stepG.exec, Frame.atR, h1, Sem.runT_eq, GStep.after]
 ·obtain ⟨w', h1, _, _, h4, _⟩ := (zEm l).ok hr hw.self
  rw [hr] at h1
  cases h1
  exact h4.output
def rangeQ (Q : Exit -> Act -> World -> Prop) (a : Act) : Option Code -> World -> Prop
 | none, v => Q .normal a v
 | some .ret, v => Q .ret a v
 | some (.exit id), v => Q (.exit id) a v
 | _, _ => False
abbrev recIn (fn : FuncId) (a : Act) (ps : Array Tmp) (assign body : Code) (D : Nat) : Loop := { state := .ready, pending := none, fn, tmps := a.tmps, params := ps, assign, body, defers := D }
theorem zLy {g : Operand} {ps : Array Tmp} {assign body : Code} {Q : Exit -> Act -> World -> Prop} {a : Act} {v : World}
  (h : ∀ fn v₁, Rl v v₁ -> ∃ f args, Tame P (rangeSem a g (v₁.heap.size + 1)) ∧ (∀ w, (rangeSem a g (v₁.heap.size + 1)).run P w = .ok (.enter f args) w) ∧
   Calls P f args ((v₁.alloc (.deferred (some []))).alloc (.loop (recIn fn a ps assign body v₁.heap.size))) fun e v3 => (∃ x, e = .returned x) ∧
    ∀ v4, Rl v3 v4 -> ∃ jump v5, (Instr.endLoop (v₁.heap.size + 1)).run P v4 = .ok jump v5 ∧ rangeQ Q { a with defers := { target := .collected v₁.heap.size, args := #[] } :: a.defers } jump v5) :
  wp P (.rangeFunc g ps assign body) Q a v := by
 intro b k cs hb
 have hro : b.roundOf = none := hb.2.resolve_right (by simp [fits])
 refine Gs.step' rfl fun v₁ h1 => ?_
 obtain ⟨f, args, ht, hr, hc⟩ := h b.fn v₁ h1
 obtain ⟨es, h2⟩ := Stp.ranges (main := I.main) (k := k) (cs := cs) (ps := ps) (assign := assign) (body := body) hro hb.1 ht hr
 refine ⟨_, _, _, h2, (hc _).bind ?_⟩
 rintro g' w' ⟨e, fr, v0, ⟨⟨x, rfl⟩, hend⟩, hr0, rfl, _, hle⟩
 refine Gs.step' rfl fun v2 h3 => ?_
 obtain ⟨es, h4⟩ := Stp.leaving (main := I.main) (c := b.atR { a with defers := { target := .collected v₁.heap.size, args := #[] } :: a.defers } (.inRangeFunc (v₁.heap.size + 1) :: k)) (cs := cs) (hle.rely h3)
 refine ⟨_, _, _, h4, Gs.step' rfl fun v4 h5 => ?_⟩
 obtain ⟨jump, v5, h6, h7⟩ := hend v4 ((hr0.trans h3).trans h5)
 obtain ⟨es, h8⟩ := Stp.endRange (main := I.main) (b := b) (a := { a with defers := { target := .collected v₁.heap.size, args := #[] } :: a.defers }) (k := k) (cs := cs) h6
 refine ⟨_, _, _, h8, ?_⟩
 match jump, h7 with
 | none, h7 => exact Out.now (e := .normal) h7 rfl
 | some .ret, h7 => exact Out.now (e := .ret) h7 ⟨k, rfl⟩
 | some (.exit id), h7 => exact Out.now (e := .exit id) h7 ⟨k, rfl, rfl⟩
end
end Go.Proofs.Yteppiphdbondeaa.N
namespace Go.Proofs.Yteppiphdbondeaa.N
open Go Go.RowKit Go.Proofs
set_option linter.unusedSectionVars false
variable [I : Sys]
section
variable {C : Ctx} {fr frC : List (Nat × Value)} {hp hp' : List Res} {a : Act} {w : World} {ops : Array Oper} {Q : Exit -> Act -> World -> Prop} {rest : List Oper}
 {d : Nat} {ty : TypeId} {pos : String} {after : Array Edge} {r : Nat}
theorem At.putRec {rec rec' : Loop} (ha : At C fr (.blk r (.loop rec) :: hp) a w) : At C fr (.blk r (.loop rec') :: hp) a (w.putObj r (.loop rec')) := by
 have hb := ha.own _ (List.mem_cons_self ..)
 refine ha.turn (Upd.head hp) ⟨rfl, rfl, rfl, by simp, fun k _ hk => World.putObj_heap_other (fun e => hk (by rw [e]; rfl))⟩ ⟨hb.1, ?_⟩ (fun k hk => .inl hk)
 exact World.putObj_heap_same (Array.getElem?_eq_some_iff.1 hb.2).1
def YieldAt (P : Program) (r : Nat) (args : Array Value) (v : World) (R : Ending -> World -> Prop) : Prop :=
 ∃ rec : Loop, v.heap[r]? = some (.loop rec) ∧ args.size = rec.params.size ∧
  Rounds P r rec.fn ((rec.params.zip args).foldl (fun t (x : Tmp × Value) => t.setIfInBounds x.1 x.2) rec.tmps) rec.assign rec.body v R
theorem YieldAt.mono {P : Program} {args : Array Value} {v : World} {R R' : Ending -> World -> Prop} (h : YieldAt P r args v R) (hr : ∀ e v', R e v' -> R' e v') : YieldAt P r args v R' := by
 obtain ⟨rec, h1, h2, h3⟩ := h
 exact ⟨rec, h1, h2, h3.mono hr⟩
omit I in
theorem zPa {P : Program} (r : Nat) (args : Array Value) : Tame P (Instr.yield r args) := Tame.bind (zAm r) fun rec => by
 show Tame P (if args.size ≠ rec.params.size then _ else _)
 split
 ·exact Tame.bind (xX _) fun _ => trivial
 ·trivial
theorem zGr {X : Type} {frB : X -> List (Nat × Value)} {hp1 : X -> List Res} {P : Program} {B N0 N : Nat} {w0 : World} {ds0 : List Deferred} {frI : List (Nat × Value)} {hpI : List Res} {aI : Act} {rec : Loop} {v : Value} {R : Ending -> World -> Prop}
  (ha : At ⟨P, B, w0, N0, ds0⟩ frI (.blk r (.loop rec) :: hpI) aI w) (hready : rec.state = .ready) (hps : rec.params = #[d]) (hsz : rec.tmps.size = N) (hd : Nat.blt d N = true) (hsl : ∀ t u, look frC t = some u -> rec.tmps.getD t undef = u)
  (hfa : fits rec.assign = true) (hfb : fits rec.body = true)
  (hassign : ∀ K : Act -> World -> Prop, (∀ x, Ex ⟨P, B, w0, N, []⟩ (Exit.then K (fun _ _ _ => False)) .normal (frB x) (.blk r (.loop rec) :: hp1 x)) -> Cod ⟨P, B, w0, N, []⟩ rec.assign (Exit.then K (fun _ _ _ => False)) ((d, v) :: frC) (.blk r (.loop rec) :: hpI))
  (hbody : ∀ x, Cod ⟨P, B, w0, N, []⟩ rec.body (roundPost P r R) (frB x) (.blk r (.loop { rec with state := .busy }) :: hp1 x)) : YieldAt P r [v].toArray w R := by
 have hl := (ha.own _ (List.mem_cons_self ..)).2
 refine ⟨rec, hl, by rw [hps]; simp, zKz hfa hfb ?_⟩
 have e : (rec.params.zip [v].toArray).foldl (fun t (x : Tmp × Value) => t.setIfInBounds x.1 x.2) rec.tmps = rec.tmps.setIfInBounds d v := by rw [hps]; simp
 rw [e]
 have h0 : At ⟨P, B, w0, N, []⟩ frC (.blk r (.loop rec) :: hpI) { tmps := rec.tmps, defers := [] } w := ⟨hsz, rfl, hsl, ha.below, ha.base, ha.own, ha.apart⟩
 refine hassign _ ?_ _ _ (h0.put (kB hd) v)
 intro x a w ha v₁ hv
 have ha1 := ha.rely hv
 exact ⟨_, run_beginRound (ha1.own _ (List.mem_cons_self ..)).2 hready, hbody x a _ ha1.putRec⟩
theorem wK {P : Program} {B N : Nat} {w0 : World} {ds : List Deferred} {rec : Loop} {R : Ending -> World -> Prop} (hready : rec.state = .ready) (hpe : rec.pending = none)
  (k : ∀ a w, At ⟨P, B, w0, N, ds⟩ fr (.blk r (.loop rec) :: hp) a w -> R (.returned (.bool true)) w) : Ex ⟨P, B, w0, N, ds⟩ (roundPost P r R) .normal fr (.blk r (.loop { rec with state := .busy }) :: hp) := by
 intro a w ha v₁ hv
 have ha1 := ha.rely hv
 obtain ⟨st, pe, _, _, _, _, _, _⟩ := rec
 simp only at hready hpe
 subst hready; subst hpe
 exact ⟨_, _, run_endRound (P := P) none (ha1.own _ (List.mem_cons_self ..)).2, k a _ ha1.putRec⟩
def isJump : Exit -> Code -> Prop
 | .ret, .ret => True
 | .exit i, .exit j => i = j
 | _, _ => False
theorem zMt {P : Program} {B N : Nat} {w0 : World} {ds : List Deferred} {rec : Loop} {R : Ending -> World -> Prop} {e : Exit} {j : Code} (hj : isJump e j)
  (k : ∀ a w, At ⟨P, B, w0, N, ds⟩ fr (.blk r (.loop { rec with state := .done, pending := some j }) :: hp) a w -> R (.returned (.bool false)) w) : Ex ⟨P, B, w0, N, ds⟩ (roundPost P r R) e fr (.blk r (.loop { rec with state := .busy }) :: hp) := by
 intro a w ha
 have key : ∀ v₁, Rl w v₁ -> ∃ x v', (Instr.endRound r (some j)).run P v₁ = .ok x v' ∧ R (.returned x) v' := fun v₁ hv =>
  have ha1 := ha.rely hv
  ⟨_, _, run_endRound (P := P) (some j) (ha1.own _ (List.mem_cons_self ..)).2, k a _ ha1.putRec⟩
 cases e <;> cases j <;> first | exact hj.elim | exact key | (simp only [isJump] at hj; subst hj; exact key)
theorem zS0 {P : Program} {B N D : Nat} {w0 : World} {fn : Func} {R : Ending -> World -> Prop} (e : Exit) (he : e = .ret ∨ e = .normal) (x : Value)
  (hr : ∀ a w, At ⟨P, B, w0, N, [{ target := .collected D, args := #[] }]⟩ fr (.blk D (.deferred none) :: hp) a w -> ResV P fn a.tmps x w)
  (k : ∀ a w, At ⟨P, B, w0, N, [{ target := .collected D, args := #[] }]⟩ fr (.blk D (.deferred none) :: hp) a w -> R (.returned x) w) :
  Ex ⟨P, B, w0, N, [{ target := .collected D, args := #[] }]⟩ (bodyPostD P fn R) e fr (.blk D (.deferred (some [])) :: hp) := by
 intro a w ha
 have key : Leaves P fn a.tmps R a.defers .returning w := by
  rw [ha.defs]
  refine zFu (by simp) fun v₁ hv => ?_
  have ha1 := ha.rely hv
  have hD := (ha1.own _ (List.mem_cons_self ..)).2
  have at2 : At ⟨P, B, w0, N, [{ target := .collected D, args := #[] }]⟩ fr (.blk D (.deferred none) :: hp) a (v₁.putObj D (.deferred none)) := by
   refine ha1.turn (Upd.head _) ⟨rfl, rfl, rfl, by simp, fun k _ hk => World.putObj_heap_other (fun e => hk (by rw [e]; rfl))⟩ ⟨(ha1.own _ (List.mem_cons_self ..)).1, ?_⟩ (fun k hk => .inl hk)
   exact World.putObj_heap_same (Array.getElem?_eq_some_iff.1 hD).1
  exact ⟨_, run_takeDeferred hD, x, hr a _ at2, k a _ at2⟩
 rcases he with rfl | rfl <;> exact key
end
def ncell (n : Nat) : List Value := [.int .i64 (n : Int)]
section
variable {C : Ctx} {fr : List (Nat × Value)} {hp hp' : List Res} {a : Act} {w : World} {ops : Array Oper} {Q : Exit -> Act -> World -> Prop} {rest : List Oper}
 {d : Nat} {ty : TypeId} {pos : String} {after : Array Edge}
theorem At.as_row (ha : At C fr hp a w) {b e size : Nat} (hu : Upd (.blk b (.cells ([] : List Value).toArray e (0, 0))) (.row e size (some ⟨b, 0, none⟩) 0 0 []) hp hp') : At C fr hp' a w := by
 have hb := ha.own _ hu.mem
 refine ha.turn hu (⟨rfl, rfl, rfl, Nat.le_refl _, fun _ _ _ => rfl⟩ : w.grownBy w _) ⟨by simp, .inr ⟨b, 0, #[], rfl, hb.1, hb.2, Nat.le_refl _, Nat.zero_le _, by simp, by simp⟩⟩ (fun k hk => .inl ?_)
 exact hk
theorem zH3 {l : List Oper} {b e : Nat} (size : Nat) (hu : Upd (.blk b (.cells ([] : List Value).toArray e (0, 0))) (.row e size (some ⟨b, 0, none⟩) 0 0 []) hp hp') (h : Lst C ops Q l fr hp') : Lst C ops Q l fr hp := fun a w ha => h a w (ha.as_row hu)
theorem zEb {x y : Operand} {t e : TypeId} {A : Option Addr} {p : Addr} {n c m cb size bytes : Nat} {xs news : List Value} {z : Value} {hp' : Option Addr -> Nat -> List Res} (hd : Nat.blt d C.N = true)
  (hx : ev fr x = some (.slice A n c)) (hy : ev fr y = some (.slice (some p) m cb)) (ht : C.P.underlying t = some (.slice e)) (hi : TI C.P e z size bytes) (hzs : z.cells.size = size) (hs0 : Nat.blt 0 size = true)
  (hnews : ∀ a w, At C fr hp a w -> ∀ j u, news[j]? = some u -> w.cell? (p.add j) = some u) (hl : news.length = m * size) (ho : ∀ u ∈ news, u.oneCell' = true) [hr : InR A e size n c xs hp] [hu : ∀ A' c', UpR A e size n c xs (.row e size A' (n + m) c' (xs ++ news)) hp (hp' A' c')]
  (hplace : ∀ (w : World) (v' : Value) (w' : World), w.ownsRow C.B e size (.slice A n c) n xs -> (∀ j u, news[j]? = some u -> w.cell? (p.add j) = some u) -> (Builtin.append_ #[t, t] ty #[.slice A n c, .slice (some p) m cb]).run C.P w = .ok v' w' -> ∀ k, v'.ownBlock = some k -> (Value.slice A n c).ownBlock = some k ∨ w.heap.size <= k)
  (h63 : n + m <= maxLen) (hbytes : (n + m) * bytes <= 140737488355328)
  (k : ∀ A' c', Lst C ops Q rest ((d, .slice A' (n + m) c') :: fr) (hp' A' c')) :
  Lst C ops Q (⟨some d, .call { callee := .builtin .append, args := #[x, y], argTypes := #[t, t] }, ty, pos, after, none⟩ :: rest) fr hp := by
 refine qW rfl fun a w ha => ?_
 obtain ⟨i, hi1, hi2, hi3, hi4⟩ := hi
 have hown := ha.own _ hr.mem
 subst hi3; subst hi4
 obtain ⟨v', w', hrun, hown', hg, _⟩ := run_append_own (P := C.P) w C.B t ty e i z i.size i.bytes ht hi1 hi2 rfl rfl hzs (kB hs0) _ n xs hown p m cb news hl (hnews a w ha) ho h63 hbytes ha.base
 have hpl := hplace w v' w' hown (hnews a w ha) hrun
 obtain ⟨A', c', rfl⟩ := wQ hown'
 refine ⟨xR fun cs => by simp only [List.map_toArray, List.map_cons, List.map_nil, ha.eval hx, ha.eval hy]; exact wL ht, ?_⟩
 have hr' : (execOp a.eval ⟨some d, .call { callee := .builtin .append, args := #[x, y], argTypes := #[t, t] }, ty, pos, after, none⟩).run C.P w = .ok (.value (.slice A' (n + m) c')) w' := by
  simp only [execOp, resolve, invoke, builtin, Sem.run_bind, Sem.run_pure, Result.andThen_ok, List.map_toArray, List.map_cons, List.map_nil, ha.eval hx, ha.eval hy, hrun]
 rw [hr']
 exact k A' c' _ _ ((ha.turn (hu A' c').upd hg hown' hpl).put (kB hd) _)
theorem zH6 {x y : Operand} {t e : TypeId} {A : Option Addr} {p : Addr} {n c m cb bytes : Nat} {xs : List Value} {l : List Nat} {z : Value} {hp' : Option Addr -> Nat -> List Res} (hd : Nat.blt d C.N = true)
  (hx : ev fr x = some (.slice A n c)) (hy : ev fr y = some (.slice (some p) m cb)) (ht : C.P.underlying t = some (.slice e)) (hi : TI C.P e z 1 bytes) (hzs : z.cells.size = 1)
  (hnews : ∀ a w, At C fr hp a w -> ∀ j u, (ints l)[j]? = some u -> w.cell? (p.add j) = some u) (hl : l.length = m) [hr : InR A e 1 n c xs hp] [hu : ∀ A' c', UpR A e 1 n c xs (.row e 1 A' (n + m) c' (xs ++ ints l)) hp (hp' A' c')]
  (h63 : n + m <= maxLen) (hbytes : (n + m) * bytes <= 140737488355328)
  (k : ∀ A' c', Lst C ops Q rest ((d, .slice A' (n + m) c') :: fr) (hp' A' c')) :
  Lst C ops Q (⟨some d, .call { callee := .builtin .append, args := #[x, y], argTypes := #[t, t] }, ty, pos, after, none⟩ :: rest) fr hp := by
 have ho : ∀ u ∈ ints l, u.oneCell' = true := by
  intro u hu'
  obtain ⟨n, _, rfl⟩ := List.mem_map.1 hu'
  simp [Value.oneCell']
 have hi' := hi
 obtain ⟨i, hi1, hi2, hi3, hi4⟩ := hi'
 subst hi4
 refine zEb hd hx hy ht hi hzs rfl hnews (by rw [zCb]; omega) ho (fun w v' w' hown hn hrun => ?_) h63 hbytes k
 exact zB6 ht hi1 hi2 (hi3 ▸ hown) (by rw [zCb, hi3]; omega) hn ho h63 hbytes hrun
theorem zEf {x y : Operand} {t ct : TypeId} {b o : Nat} {cs cs' : List Value} {v z : Value} {m : Nat} (hx : ev fr x = some (.pointer (some ⟨b, o, none⟩))) (hy : ev fr y = some v) (hi : TI C.P t z 1 m) [hc : Cells v [v]]
  (ho : o < cs.length) (hcs : cs' = cs.set o v) (hu : Upd (.blk b (.cells cs.toArray ct (0, 0))) (.blk b (.cells cs'.toArray ct (0, 0))) hp hp')
  (k : Lst C ops Q rest fr hp') : Lst C ops Q (⟨none, .store t x y, ty, pos, after, none⟩ :: rest) fr hp := by
 obtain ⟨i, hi, _, hsz, _⟩ := hi
 refine zDt (fun _ _ _ => zB7 ..) (fun a w ha => ?_) k
 have hs : Splice cs o [v] cs' := ⟨by rw [hcs, List.set_eq_take_append_cons_drop, if_pos ho, List.append_assoc]; rfl, by simp; omega⟩
 obtain ⟨w', h1, h2, h3⟩ := zDx hs (ha.mem_blk hu.mem) hc.one C.P
 refine ⟨w', ?_, ha.turn hu h3 ⟨(ha.own _ hu.mem).1, h2⟩ (fun k hk => .inl hk)⟩
 simp [execOp, ha.eval hx, ha.eval hy, Instr.storeAt, Instr.sureAddr, storeVar, sizeOf, typeInfo, hi, hc.eq, hsz, h1]
end
theorem zI5 (l : List Nat) : ints l = l.flatMap ncell := by
 induction l with
 | nil => rfl
 | cons n l ih => rw [List.flatMap_cons, <- ih]; rfl
variable {C : Ctx} {fr : List (Nat × Value)} {hp : List Res} {ops : Array Oper} {Q : Exit -> Act -> World -> Prop} {rest : List Oper} {d : Nat} {ty : TypeId} {pos : String} {after : Array Edge}
theorem zNa {P : Program} {t e : TypeId} (ht : P.underlying t = some (.slice e)) : P.elem t = e := by
 unfold Program.elem
 rw [ht]
theorem RdL.take {α : Type} {cells : α -> List Value} {size : Nat} {w : World} {A : Option Addr} {l : List α} (h : RdL cells size w A l) (n : Nat) : RdL cells size w A (l.take n) := fun hl => by
 rw [List.length_take] at hl
 obtain ⟨b, o, h1, h2, h3⟩ := h om
 refine ⟨b, o, h1, h2, fun k x hk j u hu => h3 k x ?_ j u hu⟩
 rw [List.getElem?_take] at hk
 split at hk
 ·exact hk
 ·cases hk
end Go.Proofs.Yteppiphdbondeaa.N
namespace Go.Proofs.Yteppiphdbondeaa.N
open Go Go.RowKit Go.Proofs
set_option linter.unusedSectionVars false

structure Flt where
 power : Nat
 gain : Nat
 now : Nat
 washed : Bool
 deriving DecidableEq, Inhabited
def Flt.cells (f : Flt) : List Value := [.int .i64 (f.power : Int), .int .i64 (f.gain : Int), .int .i64 (f.now : Int), .bool f.washed]
def FltOk (f : Flt) : Prop := 1 <= f.power ∧ f.power <= 4 ∧ f.gain <= f.power ∧ f.now <= f.power
structure Mor where
 s : List Nat
 w : Nat
 deriving DecidableEq, Inhabited
abbrev M4 (a b c w : Nat) : Mor := ⟨[a, b, c], w⟩
abbrev O5 (a b c w d t : Nat) : Obj := .cells [.int .i64 (a : Int), .int .i64 (b : Int), .int .i64 (c : Int), .int .u8 (w : Int), .int .i64 (d : Int)].toArray t (0, 0)
abbrev OO (a b : Nat) (c : Bool) (t : Nat) : Obj := .cells [.int .i64 (a : Int), .int .i64 (b : Int), .bool c].toArray t (0, 0)
abbrev PO (b t : Nat) : Obj := .cells [.pointer (some ⟨b, 0, none⟩)].toArray t (0, 0)
abbrev pt (b : Nat) : Value := .pointer (some ⟨b, 0, none⟩)
def Mor.cells (m : Mor) : List Value := m.s.map (fun (x : Nat) => Value.int .i64 (x : Int)) ++ [.int .u8 (m.w : Int)]
def Mor.val (m : Mor) : Value := .agg m.cells.toArray
structure MOk (m : Mor) : Prop where
 three : m.s.length = 3
 small : ∀ x ∈ m.s, x <= 4
 w : m.w < 8
def wWith (w n : Nat) : Nat := w ||| 2 ^ n
def wOut (w n : Nat) : Nat := w &&& (7 - 2 ^ n)
def startN (fs : List Flt) (k : Nat) : Mor := ⟨((fs.take k).map Flt.now) ++ List.replicate (3 - (fs.take k).length) 0, (List.range k).foldl (fun w i => if (fs.getD i default).washed then wWith w i else w) 0⟩
def start (fs : List Flt) : Mor := startN fs fs.length
def dStep (fs : List Flt) (m : Mor) (st : Nat × Mor) (i kind : Nat) : Nat × Mor :=
 let now := m.s.getD i 0
 let f := fs.getD i default
 if kind = 0 then (st.1 - min st.1 now, ⟨st.2.s.set i (now - min st.1 now), st.2.w⟩)
 else if kind = 2 then (st.1, ⟨st.2.s.set i (min f.power (now + f.gain)), wWith st.2.w i⟩)
 else if kind = 3 then (st.1, ⟨st.2.s.set i f.power, wOut st.2.w i⟩)
 else (st.1, ⟨st.2.s.set i now, st.2.w⟩)
def dRun (fs : List Flt) (m : Mor) (acts : List Nat) (sugar k : Nat) : Nat × Mor := (List.range k).foldl (fun st i => dStep fs m st i (acts.getD i 0)) (sugar, m)
def barred (m : Mor) (acts : List Nat) (k : Nat) : Bool := (List.range k).any fun i => acts.getD i 0 == 2 && m.w.testBit i
def firesN (acts : List Nat) (k : Nat) : Nat := (acts.take k).countP (· == 3)
def dayE (fs : List Flt) (kiln : Nat) (m : Mor) (acts : List Nat) (sugar : Nat) : Nat × Mor :=
 if barred m acts acts.length then (12, m)
 else if kiln < firesN acts acts.length then (6, m)
 else if 0 < (dRun fs m acts sugar acts.length).1 then (9, m)
 else (0, (dRun fs m acts sugar acts.length).2)
theorem zQx : ∀ w : Fin 8, ∀ n : Fin 3, IntKind.u8.wrap (((BitVec.ofInt IntKind.u8.bits (w.1 : Int) ||| BitVec.ofInt IntKind.u8.bits ((2 ^ n.1 : Nat) : Int)).toNat : Nat) : Int) = ((wWith w.1 n.1 : Nat) : Int) := by decide
theorem zSw : ∀ w : Fin 8, ∀ n : Fin 3, IntKind.u8.wrap (((BitVec.ofInt IntKind.u8.bits (w.1 : Int) &&& ~~~ BitVec.ofInt IntKind.u8.bits ((2 ^ n.1 : Nat) : Int)).toNat : Nat) : Int) = ((wOut w.1 n.1 : Nat) : Int) := by decide
theorem zTa : ∀ n : Fin 3, IntKind.u8.wrap ((1 : Int) * 2 ^ (min ((n.1 : Int)).toNat IntKind.u8.bits)) = ((2 ^ n.1 : Nat) : Int) := by decide
theorem zS5 : ∀ w : Fin 8, ∀ n : Fin 3, ((w.1 : Int)).fdiv (2 ^ (min ((n.1 : Int)).toNat IntKind.u8.bits)) = ((w.1 >>> n.1 : Nat) : Int) := by decide
theorem zR7 : ∀ w : Fin 8, IntKind.u8.wrap (((BitVec.ofInt IntKind.u8.bits (w.1 : Int) &&& BitVec.ofInt IntKind.u8.bits 1).toNat : Nat) : Int) = ((w.1 % 2 : Nat) : Int) := by decide
theorem zUd : ∀ w : Fin 8, ∀ n : Fin 3, wWith w.1 n.1 < 8 := by decide
theorem zWp : ∀ w : Fin 8, ∀ n : Fin 3, wOut w.1 n.1 < 8 := by decide
theorem zQq : ∀ w : Fin 8, ∀ n : Fin 3, decide ((((w.1 >>> n.1) % 2 : Nat) : Int) = 1) = w.1.testBit n.1 := by decide
theorem zS6 {w n : Nat} (hw : w < 8) (hn : n < 3) : decide ((((w >>> n) % 2 : Nat) : Int) = 1) = w.testBit n := zQq ⟨w, hw⟩ ⟨n, hn⟩
section
variable {x n : Nat} (hx : x < 8) (hn : n < 3)
include hx hn
theorem zWs : IntKind.u8.wrap (((BitVec.ofInt IntKind.u8.bits (x : Int) ||| BitVec.ofInt IntKind.u8.bits ((2 ^ n : Nat) : Int)).toNat : Nat) : Int) = ((wWith x n : Nat) : Int) := zQx ⟨x, hx⟩ ⟨n, hn⟩
theorem zXd : IntKind.u8.wrap (((BitVec.ofInt IntKind.u8.bits (x : Int) &&& ~~~ BitVec.ofInt IntKind.u8.bits ((2 ^ n : Nat) : Int)).toNat : Nat) : Int) = ((wOut x n : Nat) : Int) := zSw ⟨x, hx⟩ ⟨n, hn⟩
omit hx in
theorem zTi : IntKind.u8.wrap ((1 : Int) * 2 ^ (min ((n : Int)).toNat IntKind.u8.bits)) = ((2 ^ n : Nat) : Int) := zTa ⟨n, hn⟩
theorem zX7 : ((x : Int)).fdiv (2 ^ (min ((n : Int)).toNat IntKind.u8.bits)) = ((x >>> n : Nat) : Int) := zS5 ⟨x, hx⟩ ⟨n, hn⟩
theorem zXx : IntKind.u8.wrap (((BitVec.ofInt IntKind.u8.bits ((x >>> n : Nat) : Int) &&& BitVec.ofInt IntKind.u8.bits 1).toNat : Nat) : Int) = (((x >>> n) % 2 : Nat) : Int) := zR7 ⟨x >>> n, Nat.lt_of_le_of_lt (Nat.shiftRight_le ..) hx⟩
theorem zLr : wWith x n < 8 := zUd ⟨x, hx⟩ ⟨n, hn⟩
theorem zVf : wOut x n < 8 := zWp ⟨x, hx⟩ ⟨n, hn⟩
end
end Go.Proofs.Yteppiphdbondeaa.N
namespace Go.Proofs.Yteppiphdbondeaa.N
open Go Go.RowKit Go.Proofs
set_option linter.unusedSectionVars false
variable [I : Sys]
theorem F.fi174_0 : FI Try.prog 174 0 3 0 := ⟨_, _, Try.underlying174, rfl, rfl, rfl⟩
theorem F.fi49_0 : FI Try.prog 49 0 3 0 := ⟨_, _, Try.underlying49, rfl, rfl, rfl⟩
theorem F.fi49_1 : FI Try.prog 49 1 3 1 := ⟨_, _, Try.underlying49, rfl, rfl, rfl⟩
theorem F.one3 : One Try.prog 3 := ⟨by unfold aggB; rw [Try.underlying3], by rw [Try.underlying3]; simp⟩
theorem F.ti3 : TI Try.prog 3 (.int .i64 0) 1 8 := TI.of (by kernel_rfl)
theorem zQp (x n : Nat) (hx : x < 8) (hn : n < 3) (w : World) : Calls Try.prog 80 #[.int .u8 (x : Int), .int .i64 (n : Int)] w fun e w' => e = .returned (.int .u8 ((wWith x n : Nat) : Int)) ∧ Grew w w' [] := by
 refine enter (N := 9) [(0, .int .u8 (x : Int)), (1, .int .i64 (n : Int))] Try.func80 rfl Try.ntmps80 rfl rfl ?_
 refine zD (zB (zE rfl rfl (zA (zC (zD (zB (zF rfl rfl (zF rfl rfl (zOb rfl rfl rfl om (zTi hn) ?_)))))))))
 refine zI rfl rfl rfl (fun w => zWm w (zWs hx hn)) ?_
 refine zE rfl rfl (zA (zC (zZ ?_)))
 exact jI rfl (fun a w ha => jY rfl rfl ha) (fun a w ha => ⟨rfl, ha.grown nsl⟩)

theorem zPt (x n : Nat) (hx : x < 8) (hn : n < 3) (w : World) : Calls Try.prog 109 #[.int .u8 (x : Int), .int .i64 (n : Int)] w fun e w' => e = .returned (.int .u8 ((wOut x n : Nat) : Int)) ∧ Grew w w' [] := by
 refine enter (N := 9) [(0, .int .u8 (x : Int)), (1, .int .i64 (n : Int))] Try.func109 rfl Try.ntmps109 rfl rfl ?_
 refine zD (zB (zE rfl rfl (zA (zC (zD (zB (zF rfl rfl (zF rfl rfl (zOb rfl rfl rfl om (zTi hn) ?_)))))))))
 refine zI rfl rfl rfl (fun w => zDv w (zXd hx hn)) ?_
 refine zE rfl rfl (zA (zC (zZ ?_)))
 exact jI rfl (fun a w ha => jY rfl rfl ha) (fun a w ha => ⟨rfl, ha.grown nsl⟩)

theorem zYo (x n : Nat) (hx : x < 8) (hn : n < 3) (w : World) : Calls Try.prog 107 #[.int .u8 (x : Int), .int .i64 (n : Int)] w fun e w' => e = .returned (.bool (x.testBit n)) ∧ Grew w w' [] := by
 refine enter (N := 10) [(0, .int .u8 (x : Int)), (1, .int .i64 (n : Int))] Try.func107 rfl Try.ntmps107 rfl rfl ?_
 refine zD (zB (zE rfl rfl (zA (zC (zD (zB (zF rfl rfl (zF rfl rfl (zUu rfl rfl rfl om (zX7 hx hn) ?_)))))))))
 refine zI rfl rfl rfl (fun w => zUm w (zXx hx hn)) ?_
 refine zI rfl rfl rfl kC ?_
 refine zE rfl rfl (zA (zC (zZ ?_)))
 exact jI rfl (fun a w ha => jY rfl rfl ha) (fun a w ha => ⟨by rw [zS6 hx hn], ha.grown nsl⟩)

theorem zXg (f : Flt) (x : Nat) (_hf : FltOk f) (hx : x <= 4) (y : Nat) (hy : y <= x) (w : World) : Calls Try.prog 133 #[.agg [.int .i64 (y : Int)].toArray, .agg [.int .i64 (f.power : Int), .int .i64 (f.gain : Int), .int .i64 (f.now : Int), .bool f.washed].toArray, .int .i64 (x : Int)] w fun e w' => e = .returned (.int .i64 ((x - y : Nat) : Int)) ∧ Grew w w' [] := by
 refine enter (N := 11) [(0, .agg [.int .i64 (y : Int)].toArray), (1, .agg [.int .i64 (f.power : Int), .int .i64 (f.gain : Int), .int .i64 (f.now : Int), .bool f.washed].toArray), (2, .int .i64 (x : Int))] Try.func133 rfl Try.ntmps133 rfl rfl ?_
 refine zD (zB (jT rfl rfl ?_))
 intro b3
 refine jT rfl rfl ?_
 intro b4
 refine zE rfl rfl (zA (zC (zD (zB (zF rfl rfl (zP rfl rfl F.fi174_0 F.ti3 ?_))))))
 refine jE rfl rfl F.one3 ?_
 refine zI (v := .int .i64 ((x - y : Nat) : Int)) rfl rfl rfl (fun w => vJ w (by rw [jF _ om om]; omega)) ?_
 refine zE rfl rfl (zA (zC (zZ ?_)))
 exact jI rfl (fun a w ha => jY rfl rfl ha) (fun a w ha => ⟨rfl, ha.grown nsl⟩)

theorem zVq (f : Flt) (x : Nat) (_hf : FltOk f) (_hx : x <= 4) (w : World) : Calls Try.prog 134 #[.agg [].toArray, .agg [.int .i64 (f.power : Int), .int .i64 (f.gain : Int), .int .i64 (f.now : Int), .bool f.washed].toArray, .int .i64 (x : Int)] w fun e w' => e = .returned (.int .i64 (x : Int)) ∧ Grew w w' [] := by
 refine enter (N := 8) [(0, .agg [].toArray), (1, .agg [.int .i64 (f.power : Int), .int .i64 (f.gain : Int), .int .i64 (f.now : Int), .bool f.washed].toArray), (2, .int .i64 (x : Int))] Try.func134 rfl Try.ntmps134 rfl rfl ?_
 refine zD (zB (jT rfl rfl ?_))
 intro b3
 refine jT rfl rfl ?_
 intro b4
 refine zE rfl rfl (zA (zC (zD (zB (zF rfl rfl (zE rfl rfl (zA (zC (zZ ?_)))))))))
 exact jI rfl (fun a w ha => jY rfl rfl ha) (fun a w ha => ⟨rfl, ha.grown nsl⟩)

theorem zWo (f : Flt) (x : Nat) (_hf : FltOk f) (_hx : x <= 4) (w : World) : Calls Try.prog 132 #[.agg [].toArray, .agg [.int .i64 (f.power : Int), .int .i64 (f.gain : Int), .int .i64 (f.now : Int), .bool f.washed].toArray, .int .i64 (x : Int)] w fun e w' => e = .returned (.int .i64 (f.power : Int)) ∧ Grew w w' [] := by
 refine enter (N := 9) [(0, .agg [].toArray), (1, .agg [.int .i64 (f.power : Int), .int .i64 (f.gain : Int), .int .i64 (f.now : Int), .bool f.washed].toArray), (2, .int .i64 (x : Int))] Try.func132 rfl Try.ntmps132 rfl rfl ?_
 refine zD (zB (jT rfl rfl ?_))
 intro b3
 refine jT rfl rfl ?_
 intro b4
 refine zE rfl rfl (zA (zC (zD (zB (zP rfl rfl F.fi49_0 F.ti3 ?_)))))
 refine jE rfl rfl F.one3 ?_
 refine zE rfl rfl (zA (zC (zZ ?_)))
 exact jI rfl (fun a w ha => jY rfl rfl ha) (fun a w ha => ⟨rfl, ha.grown nsl⟩)

theorem zVr (f : Flt) (x : Nat) (hf : FltOk f) (hx : x <= 4) (w : World) : Calls Try.prog 131 #[.agg [].toArray, .agg [.int .i64 (f.power : Int), .int .i64 (f.gain : Int), .int .i64 (f.now : Int), .bool f.washed].toArray, .int .i64 (x : Int)] w fun e w' => e = .returned (.int .i64 ((min f.power (x + f.gain) : Nat) : Int)) ∧ Grew w w' [] := by
 refine enter (N := 14) [(0, .agg [].toArray), (1, .agg [.int .i64 (f.power : Int), .int .i64 (f.gain : Int), .int .i64 (f.now : Int), .bool f.washed].toArray), (2, .int .i64 (x : Int))] Try.func131 rfl Try.ntmps131 rfl rfl ?_
 refine zD (zB (jT rfl rfl ?_))
 intro b3
 refine jT rfl rfl ?_
 intro b4
 refine zE rfl rfl (zA (zC (zD (zB (zP rfl rfl F.fi49_0 F.ti3 ?_)))))
 refine jE rfl rfl F.one3 ?_
 refine zF rfl rfl (zP rfl rfl F.fi49_1 F.ti3 ?_)
 refine jE rfl rfl F.one3 ?_
 refine zI (v := .int .i64 ((x + f.gain : Nat) : Int)) rfl rfl rfl (fun w => jO w (by obtain ⟨h1, h2, h3, h4⟩ := hf; rw [jF _ om om]; omega)) ?_
 refine zNc rfl rfl rfl ?_
 refine zE rfl rfl (zA (zC (zZ ?_)))
 exact jI rfl (fun a w ha => jY rfl rfl ha) (fun a w ha => ⟨by congr 2; split <;> omega, ha.grown nsl⟩)

end Go.Proofs.Yteppiphdbondeaa.N
namespace Go.Proofs.Yteppiphdbondeaa.N
open Go Go.RowKit Go.Proofs
set_option linter.unusedSectionVars false
theorem zF9 (fs : List Flt) (k : Nat) (x : Flt) (hx : fs[k]? = some x) (hk : k < 3) : startN fs (k + 1) = ⟨(startN fs k).s.set k x.now, if x.washed then wWith (startN fs k).w k else (startN fs k).w⟩ := by
 have hlt := (List.getElem?_eq_some_iff.1 hx).1
 have h1 : fs.take (k + 1) = fs.take k ++ [x] := by rw [List.take_add_one, hx]; rfl
 have h2 : (fs.take k).length = k := by rw [List.length_take]; omega
 have h3 : fs.getD k default = x := by rw [List.getD_eq_getElem?_getD, hx]; rfl
 unfold startN
 rw [List.range_succ, List.foldl_append, List.foldl_cons, List.foldl_nil, h3, h1]
 congr 1
 simp only [List.map_append, List.map_cons, List.map_nil, List.length_append, h2, List.length_singleton, List.append_assoc]
 rw [List.set_append_right _ _ (by rw [List.length_map, h2]; exact Nat.le_refl _)]
 simp only [List.length_map, h2, Nat.sub_self]
 have : 3 - k = (3 - (k + 1)) + 1 := by omega
 rw [this, List.replicate_succ]
 rfl
theorem vU {fs : List Flt} (h3 : fs.length <= 3) (hf : ∀ f ∈ fs, FltOk f) (k : Nat) (hk : k <= fs.length) : MOk (startN fs k) := by
 refine ⟨?_, fun x hx => ?_, ?_⟩
 ·simp only [startN, List.length_append, List.length_map, List.length_replicate, List.length_take]
  omega
 ·simp only [startN, List.mem_append, List.mem_map, List.mem_replicate] at hx
  rcases hx with ⟨f, hf1, rfl⟩ | ⟨_, rfl⟩
  ·obtain ⟨_, h2, _, h4⟩ := hf f (List.mem_of_mem_take hf1)
   omega
  ·omega
 ·induction k with
  | zero => exact (by decide : 0 < 8)
  | succ k ih =>
   obtain ⟨x, hx⟩ : ∃ x, fs[k]? = some x := ⟨_, List.getElem?_eq_getElem om⟩
   rw [zF9 fs k x hx om]
   dsimp only
   split
   ·exact zLr (ih om) om
   ·exact ih om
theorem MOk.form {m : Mor} (h : MOk m) : ∃ z0 z1 z2 zw : Nat, m = ⟨[z0, z1, z2], zw⟩ ∧ z0 <= 4 ∧ z1 <= 4 ∧ z2 <= 4 ∧ zw < 8 := by
 obtain ⟨s, w⟩ := m
 obtain ⟨h1, h2, h3⟩ := h
 rcases s with _ | ⟨a, _ | ⟨b, _ | ⟨c, _ | ⟨d, r⟩⟩⟩⟩ <;> simp at h1
 exact ⟨a, b, c, w, rfl, h2 a (by simp), h2 b (by simp), h2 c (by simp), h3⟩
theorem zI7 (a b c : Nat) (v : Value) (z k x : Nat) (_hv : v = .int .u8 (z : Int)) (hk : k < 3) : ∃ y0 y1 y2 : Nat, [a, b, c].set k x = [y0, y1, y2] ∧ [Value.int .i64 (a : Int), .int .i64 (b : Int), .int .i64 (c : Int), v].set k (.int .i64 (x : Int)) = [Value.int .i64 (y0 : Int), .int .i64 (y1 : Int), .int .i64 (y2 : Int), v] := by
 rcases k with _ | _ | _ | k
 ·exact ⟨x, b, c, rfl, rfl⟩
 ·exact ⟨a, x, c, rfl, rfl⟩
 ·exact ⟨a, b, x, rfl, rfl⟩
 ·omega
theorem zFb (a b c : Nat) (v : Value) (k : Nat) (hk : k < 3) : [Value.int .i64 (a : Int), .int .i64 (b : Int), .int .i64 (c : Int), v][k]? = some (.int .i64 (([a, b, c].getD k 0 : Nat) : Int)) := by
 rcases k with _ | _ | _ | k
 ·rfl
 ·rfl
 ·rfl
 ·omega
def actOf (m : Mor) (i kind sugar : Nat) : Value × Nat :=
 if kind = 0 then (.iface 174 (.agg #[.int .i64 ((min sugar (m.s.getD i 0) : Nat) : Int)]), sugar - min sugar (m.s.getD i 0))
 else if kind = 2 then (.iface 165 (.agg #[]), sugar) else if kind = 3 then (.iface 166 (.agg #[]), sugar) else (.iface 175 (.agg #[]), sugar)
theorem zUb (s sugar : Nat) : (if (s : Int) < (sugar : Int) then (s : Int) else (sugar : Int)) = ((min sugar s : Nat) : Int) := by split <;> omega
theorem actOf0 {m : Mor} {i k s : Nat} (h : (k : Int) = 0) : actOf m i k s = (.iface 174 (.agg #[.int .i64 ((min s (m.s.getD i 0) : Nat) : Int)]), s - min s (m.s.getD i 0)) := by unfold actOf; rw [if_pos (by omega)]
theorem actOf2 {m : Mor} {i k s : Nat} (h : (k : Int) = 2) : actOf m i k s = (.iface 165 (.agg #[]), s) := by unfold actOf; rw [if_neg (by omega), if_pos (by omega)]
theorem actOf3 {m : Mor} {i k s : Nat} (h : (k : Int) = 3) : actOf m i k s = (.iface 166 (.agg #[]), s) := by unfold actOf; rw [if_neg (by omega), if_neg (by omega), if_pos (by omega)]
theorem actOf1 {m : Mor} {i k s : Nat} (h0 : ¬ (k : Int) = 0) (h2 : ¬ (k : Int) = 2) (h3 : ¬ (k : Int) = 3) : actOf m i k s = (.iface 175 (.agg #[]), s) := by unfold actOf; rw [if_neg (by omega), if_neg (by omega), if_neg (by omega)]
theorem zHr {z0 z1 z2 b : Nat} (h0 : z0 <= b) (h1 : z1 <= b) (h2 : z2 <= b) (i : Nat) : [z0, z1, z2].getD i 0 <= b := by
 rcases i with _ | _ | _ | i
 ·exact h0
 ·exact h1
 ·exact h2
 ·exact Nat.zero_le _
end Go.Proofs.Yteppiphdbondeaa.N
namespace Go.Proofs.Yteppiphdbondeaa.N
open Go Go.RowKit Go.Proofs
set_option linter.unusedSectionVars false
variable [I : Sys]
theorem F.agg49 : aggB Try.prog 49 = true := by unfold aggB; rw [Try.underlying49]
theorem F.agg95 : aggB Try.prog 95 = true := by unfold aggB; rw [Try.underlying95]
theorem F.ent80 : Enters Try.prog 80 := jG Try.func80 rfl (by kernel_rfl)
theorem F.fi27_0 : FI Try.prog 27 0 25 0 := ⟨_, _, Try.underlying27, rfl, rfl, rfl⟩
theorem F.fi49_2 : FI Try.prog 49 2 3 2 := ⟨_, _, Try.underlying49, rfl, rfl, rfl⟩
theorem F.fi49_3 : FI Try.prog 49 3 4 3 := ⟨_, _, Try.underlying49, rfl, rfl, rfl⟩
theorem F.fi77_0 : FI Try.prog 77 0 27 0 := ⟨_, _, Try.underlying77, rfl, rfl, rfl⟩
theorem F.fi95_0 : FI Try.prog 95 0 92 0 := ⟨_, _, Try.underlying95, rfl, rfl, rfl⟩
theorem F.fi95_1 : FI Try.prog 95 1 93 3 := ⟨_, _, Try.underlying95, rfl, rfl, rfl⟩
theorem F.one25 : One Try.prog 25 := ⟨by unfold aggB; rw [Try.underlying25], by rw [Try.underlying25]; simp⟩
theorem F.one4 : One Try.prog 4 := ⟨by unfold aggB; rw [Try.underlying4], by rw [Try.underlying4]; simp⟩
theorem F.one93 : One Try.prog 93 := ⟨by unfold aggB; rw [Try.underlying93], by rw [Try.underlying93]; simp⟩
theorem F.ti25 : TI Try.prog 25 (.slice none 0 0) 1 24 := TI.of (by kernel_rfl)
theorem F.ti27 : TI Try.prog 27 (.agg [.slice none 0 0, .int .i64 0, .slice none 0 0].toArray) 3 56 := TI.of (by kernel_rfl)
theorem F.ti4 : TI Try.prog 4 (.bool false) 1 1 := TI.of (by kernel_rfl)
theorem F.ti49 : TI Try.prog 49 (.agg [.int .i64 0, .int .i64 0, .int .i64 0, .bool false].toArray) 4 32 := TI.of (by kernel_rfl)
theorem F.ti92 : TI Try.prog 92 (.agg [.int .i64 0, .int .i64 0, .int .i64 0].toArray) 3 24 := TI.of (by kernel_rfl)
theorem F.ti93 : TI Try.prog 93 (.int .u8 0) 1 1 := TI.of (by kernel_rfl)
theorem F.ti95 : TI Try.prog 95 (.agg [.int .i64 0, .int .i64 0, .int .i64 0, .int .u8 0].toArray) 4 32 := TI.of (by kernel_rfl)
theorem zBy (fA dA : Option Addr) (fc nd dc kiln : Nat) (fs : List Flt) (h3 : fs.length <= 3) (hf : ∀ f ∈ fs, FltOk f) (w : World) (hA : RdL Flt.cells 4 w fA fs) : Calls Try.prog 60 #[.agg (CA fA fs.length fc kiln dA nd dc).toArray] w fun e w' => e = .returned (Mor.val (start fs)) ∧ Grew w w' [] := by
 refine enter (N := 29) [(0, .agg (CA fA fs.length fc kiln dA nd dc).toArray)] Try.func60 rfl Try.ntmps60 rfl rfl ?_
 refine zD (zB (jT rfl rfl ?_))
 intro b1
 refine jA rfl F.ti95 ?_
 intro b2
 refine zA (zC (zD (zB (jA rfl F.ti95 ?_))))
 intro b3
 refine zA (zC (zD (zD (zB (zP rfl rfl F.fi77_0 F.ti27 ?_)))))
 refine zP rfl rfl F.fi27_0 F.ti25 ?_
 refine jE rfl rfl F.one25 ?_
 refine jX rfl rfl Try.underlying25 ?_
 refine zF rfl rfl (zA (zC (zV (xM (G := Nat) (fun k => k <= fs.length) (fun k => fs.length - k) (fun k => [(2, .pointer (some ⟨b2, 0, none⟩)), (3, .pointer (some ⟨b3, 0, none⟩)), (8, .slice fA fs.length fc), (9, .int .i64 (fs.length : Int)), (10, .int .i64 (k : Int))]) (fun k => [.blk b3 (.cells (Mor.cells (startN fs (k))).toArray 95 (0, 0)), .blk b2 (.cells [.int .i64 0, .int .i64 0, .int .i64 0, .int .u8 0].toArray 95 (0, 0))]) 0 (Nat.zero_le _) sbn sbl ?_))))
 intro k hk
 (try dsimp only at hk ⊢)
 refine zD (zB (zI rfl rfl rfl kG ?_))
 refine zA (zC (zD (zR rfl (fun hc0 => ?_) (fun hc0 => ?_))))
 ·have hk' : k < fs.length := by omega
  obtain ⟨b, o, rfl, hb, hcell⟩ := hA om
  obtain ⟨x, hx⟩ : ∃ x, fs[k]? = some x := ⟨_, List.getElem?_eq_getElem hk'⟩
  obtain ⟨hx1, hx2, hx3, hx4⟩ := hf x (List.mem_of_getElem? hx)
  obtain ⟨z0, z1, z2, zw, hz, hz0, hz1, hz2, hzw⟩ := (vU h3 hf k om).form
  have hnx := zF9 fs k x hx om
  rw [hz] at hnx
  rw [hz]
  simp only [Mor.cells, List.map_cons, List.map_nil, List.cons_append, List.nil_append] at hnx ⊢
  obtain ⟨y0, y1, y2, hy1, hy2⟩ := zI7 z0 z1 z2 (.int .u8 (zw : Int)) zw k x.now rfl om
  refine zQ (zC (zD (zV (zD (zB (zF rfl rfl (qE (j := k) rfl rfl rfl Try.underlying25 F.ti49 rfl hk' ?_)))))))
  refine qS (l := [.int .i64 (x.power : Int), .int .i64 (x.gain : Int), .int .i64 (x.now : Int), .bool x.washed]) rfl rfl F.agg49 F.ti49 rfl (fun a w ha j u hu => ha.old (hcell k x hx j u hu) hb) ?_
  refine jA rfl F.ti49 ?_
  intro b5
  refine zE rfl rfl (zK rfl rfl F.ti49 rfl ?_)
  refine zA (zC (zD (zB (zF rfl rfl (zP rfl rfl F.fi49_2 F.ti3 ?_)))))
  refine jE rfl rfl F.one3 ?_
  refine zP rfl rfl F.fi95_0 F.ti92 ?_
  refine zBj (j := k) rfl rfl rfl Try.underlying92 F.ti3 rfl om ?_
  refine zEf (cs := (V4 z0 z1 z2 zw)) (cs' := (V4 y0 y1 y2 zw)) rfl rfl F.ti3 (by simp; omega) (by rw [Nat.zero_add, Nat.mul_one]; exact hy2.symm) (.tail _ (.head _)) ?_
  refine zA (zC (zD (zB (zP rfl rfl F.fi49_3 F.ti4 ?_))))
  refine jE rfl rfl F.one4 ?_
  refine zA (zC (kV rfl (fun hc1 => ?_) (fun hc1 => ?_)))
  ·refine zB (zP rfl rfl F.fi95_1 F.ti93 ?_)
   refine jE rfl rfl F.one93 ?_
   refine zF rfl rfl (zW (vs := [_, _]) rfl rfl F.ent80 (fun a w ha => zQp zw k hzw om w) ?_)
   refine zP rfl rfl F.fi95_1 F.ti93 ?_
   refine zK rfl rfl F.ti93 rfl ?_
   refine zA (zO (zC (zB (zI rfl rfl rfl (fun w => jO w (jF _ om om)) ?_))))
   refine zF rfl rfl (zA (qR (k + 1) om tdo sbn (by (try dsimp only); rw [hnx, hy1, if_pos hc1]; simp only [List.map_cons, List.map_nil, List.cons_append, List.nil_append]; repeat (first | exact List.Sublist.refl _ | exact List.nil_sublist _ | refine List.Sublist.cons_cons _ ?_ | refine List.Sublist.cons _ ?_))))
  ·refine zQ (zO (zC (zB (zI rfl rfl rfl (fun w => jO w (jF _ om om)) ?_))))
   refine zF rfl rfl (zA (qR (k + 1) om tdo sbn (by (try dsimp only); rw [hnx, hy1, if_neg (by rw [hc1]; simp)]; simp only [List.map_cons, List.map_nil, List.cons_append, List.nil_append]; repeat (first | exact List.Sublist.refl _ | exact List.nil_sublist _ | refine List.Sublist.cons_cons _ ?_ | refine List.Sublist.cons _ ?_))))
 ·obtain rfl : k = fs.length := by omega
  obtain ⟨z0, z1, z2, zw, hz, _⟩ := (vU h3 hf fs.length (Nat.le_refl _)).form
  rw [hz]
  simp only [Mor.cells, List.map_cons, List.map_nil, List.cons_append, List.nil_append]
  refine kI (zT (zT (jK (zC (zD (zB (zX rfl rfl F.agg95 F.ti95 ?_)))))))
  refine zK rfl rfl F.ti95 rfl ?_
  refine zA (zC (zZ ?_))
  exact jI rfl (fun a w ha => by exact xU (ha := ha) rfl rfl F.agg95 F.ti95 rfl) (fun a w ha => ⟨by unfold start; rw [hz]; rfl, ha.grown nsl⟩)

theorem F.pl165 : Places Try.prog 165 [] := .inl ⟨_, Try.underlying165, by kernel_rfl⟩
theorem F.pl166 : Places Try.prog 166 [] := .inl ⟨_, Try.underlying166, by kernel_rfl⟩
theorem F.pl174 : Places Try.prog 174 [(0, 1)] := .inl ⟨_, Try.underlying174, by kernel_rfl⟩
theorem F.pl175 : Places Try.prog 175 [] := .inl ⟨_, Try.underlying175, by kernel_rfl⟩
theorem F.ti165 : TI Try.prog 165 (.agg [].toArray) 0 0 := TI.of (by kernel_rfl)
theorem F.ti166 : TI Try.prog 166 (.agg [].toArray) 0 0 := TI.of (by kernel_rfl)
theorem F.ti174 : TI Try.prog 174 (.agg [.int .i64 0].toArray) 1 8 := TI.of (by kernel_rfl)
theorem F.ti175 : TI Try.prog 175 (.agg [].toArray) 0 0 := TI.of (by kernel_rfl)
theorem zXi (z0 z1 z2 zw i k s : Nat) (hz0 : z0 <= 4) (hz1 : z1 <= 4) (hz2 : z2 <= 4) (hi : i < 3) (hs : s <= 12) (w : World) : Calls Try.prog 108 #[.agg (V4 z0 z1 z2 zw).toArray, .int .i64 (i : Int), .int .i64 (k : Int), .int .i64 (s : Int)] w fun e w' => e = .returned (.tuple #[(actOf ⟨[z0, z1, z2], zw⟩ i k s).1, .int .i64 ((actOf ⟨[z0, z1, z2], zw⟩ i k s).2 : Int)]) ∧ Grew w w' [] := by
 refine enter (N := 39) [(0, .agg (V4 z0 z1 z2 zw).toArray), (1, .int .i64 (i : Int)), (2, .int .i64 (k : Int)), (3, .int .i64 (s : Int))] Try.func108 rfl Try.ntmps108 rfl rfl ?_
 refine zD (zB (jT rfl rfl ?_))
 intro b4
 refine zE rfl rfl (zE rfl rfl (zA (zC (zD (zD (zB (zF rfl rfl (zA (zC (zV (zD (zB (zI rfl rfl rfl kC ?_)))))))))))))
 refine zE rfl rfl (zA (zC (zR rfl (fun hc0 => ?_) (fun hc0 => ?_))))
 ·refine zD (zB (zF rfl rfl (zF rfl rfl (zP rfl rfl F.fi95_0 F.ti92 ?_))))
  refine zBj (j := i) rfl rfl rfl Try.underlying92 F.ti3 rfl hi ?_
  refine kQ (v := .int .i64 (([z0, z1, z2].getD i 0 : Nat) : Int)) rfl rfl F.one3 (fun a w ha => jU (ha.mem_blk (InB.mem (b := b4) (o := .cells (V4 z0 z1 z2 zw).toArray 95 (0, 0)))) (by rw [Nat.zero_add, Nat.mul_one]; exact zFb z0 z1 z2 _ i hi)) ?_
  have hmn : [z0, z1, z2].getD i 0 <= 4 := zHr hz0 hz1 hz2 i
  refine zNc rfl rfl rfl ?_
  rw [zUb]
  refine zE rfl rfl (zA (zC (zD (zB (zF rfl rfl (kD (vs := [(0, _)]) (l' := [_]) rfl rfl F.ti174 F.pl174 (.cons rfl rfl (.nil _)) rfl ?_))))))
  refine xC rfl rfl Try.underlying174 rfl ?_
  refine zF rfl rfl (zF rfl rfl (zI (v := .int .i64 ((s - min s ([z0, z1, z2].getD i 0) : Nat) : Int)) rfl rfl rfl (fun w => vJ w (by rw [jF _ om om]; omega)) ?_))
  refine zE rfl rfl (zE rfl rfl (zA (zC (zZ (jQ (zU ?_))))))
  exact jI rfl (fun a w ha => qM rfl rfl rfl ha) (fun a w ha => ⟨by rw [actOf0 hc0]; first | rfl | skip, ha.grown nsl⟩)
 ·refine zD (zB (zI rfl rfl rfl kC ?_))
  refine zE rfl rfl (zA (zC (zR rfl (fun hc1 => ?_) (fun hc1 => ?_))))
  ·refine zD (zB (kD (vs := []) (l' := []) rfl rfl F.ti165 F.pl165 (.nil _) rfl ?_))
   refine xC rfl rfl Try.underlying165 rfl ?_
   refine zF rfl rfl (zE rfl rfl (zE rfl rfl (zA (zC (zZ (jQ (zU ?_)))))))
   exact jI rfl (fun a w ha => qM rfl rfl rfl ha) (fun a w ha => ⟨by rw [actOf2 hc1]; first | rfl | skip, ha.grown nsl⟩)
  ·refine zD (zB (zI rfl rfl rfl kC ?_))
   refine zE rfl rfl (zA (zC (zR rfl (fun hc2 => ?_) (fun hc2 => ?_))))
   ·refine zD (zB (kD (vs := []) (l' := []) rfl rfl F.ti166 F.pl166 (.nil _) rfl ?_))
    refine xC rfl rfl Try.underlying166 rfl ?_
    refine zF rfl rfl (zE rfl rfl (zE rfl rfl (zA (zC (zZ (jQ (zU ?_)))))))
    exact jI rfl (fun a w ha => qM rfl rfl rfl ha) (fun a w ha => ⟨by rw [actOf3 hc2]; first | rfl | skip, ha.grown nsl⟩)
   ·refine zQ (zO (zC (zD (zB (kD (vs := []) (l' := []) rfl rfl F.ti175 F.pl175 (.nil _) rfl ?_)))))
    refine xC rfl rfl Try.underlying175 rfl ?_
    refine zF rfl rfl (zE rfl rfl (zE rfl rfl (zA (zC (zZ ?_)))))
    exact jI rfl (fun a w ha => qM rfl rfl rfl ha) (fun a w ha => ⟨by rw [actOf1 hc0 hc1 hc2]; first | rfl | skip, ha.grown nsl⟩)

end Go.Proofs.Yteppiphdbondeaa.N
namespace Go.Proofs.Yteppiphdbondeaa.N
open Go Go.RowKit Go.Proofs
set_option linter.unusedSectionVars false
def pureOf {α : Type} (P : Program) : Sem α -> Option α
 | .pure a => some a
 | .program k => pureOf P (k P)
 | _ => none
theorem zHl {α : Type} {P : Program} {s : Sem α} {x : α} (h : pureOf P s = some x) (w : World) : s.run P w = .ok x w := by
 induction s with
 | pure a => cases h; rfl
 | program k ih => exact ih P h
 | _ => cases h
theorem zM1 {α β : Type} {P : Program} {s : Sem α} {x : α} {f : α -> Sem β} (h : pureOf P s = some x) (hf : Tame P (f x)) : Tame P (s >>= f) := by
 show Tame P (s.bind f)
 induction s with
 | pure a => cases h; exact hf
 | program k ih => exact ih P h
 | _ => cases h
variable [I : Sys]
section
variable {C : Ctx} {fr : List (Nat × Value)} {hp hp' : List Res} {ops : Array Oper} {Q : Exit -> Act -> World -> Prop} {rest : List Oper} {d : Nat} {ty : TypeId} {pos : String} {after : Array Edge}
theorem zOu {X : Type} {x : Operand} {name : String} {t f : Nat} {rv rcv : Value} {vs : List Value} {args : Array Operand} {ts : Array TypeId} {p : X -> Prop} {val : X -> Value} {rs : X -> List Res} (hd : Nat.blt d C.N = true)
  (hx : ev fr x = some (.iface t rv)) (hargs : args.toList.map (ev fr) = vs.map some) (hm : pureOf C.P (Go.method (C.P.types.size + Made.depth) t rv name) = some (f, rcv)) (hf : Enters C.P f)
  (hc : ∀ a w, At C fr hp a w -> Calls C.P f (rcv :: vs).toArray w fun e w' => ∃ y, p y ∧ e = .returned (val y) ∧ At C fr (rs y) a w')
  (k : ∀ y, p y -> Lst C ops Q rest ((d, val y) :: fr) (rs y)) : Lst C ops Q (⟨some d, .call { callee := .invoke x name, args := args, argTypes := ts }, ty, pos, after, none⟩ :: rest) fr hp := by
 refine qW rfl fun a w ha => ?_
 have e1 : (#[Value.iface t rv] ++ vs.toArray)[0]? = some (.iface t rv) := by simp
 have e2 : (#[Value.iface t rv] ++ vs.toArray).extract 1 (#[Value.iface t rv] ++ vs.toArray).size = vs.toArray := by simp
 have e3 : #[rcv] ++ vs.toArray = (rcv :: vs).toArray := by simp
 have he : execOp a.eval ⟨some d, .call { callee := .invoke x name, args := args, argTypes := ts }, ty, pos, after, none⟩ = ((program : Sem Program) >>= fun P => Go.method (P.types.size + Made.depth) t rv name >>= fun y => callFunc y.1 (#[y.2] ++ vs.toArray)) := by
  simp only [execOp, resolve, vN ha hargs, ha.eval hx, pure_bind, invoke, e1, e2, callMethod]
 have hm' : pureOf C.P ((program : Sem Program) >>= fun P => Go.method (P.types.size + Made.depth) t rv name) = some (f, rcv) := hm
 have hr : (execOp a.eval ⟨some d, .call { callee := .invoke x name, args := args, argTypes := ts }, ty, pos, after, none⟩).run C.P w = .ok (.enter f (rcv :: vs).toArray) w := by
  rw [he, <- bind_assoc, Sem.run_bind, zHl hm' w, Result.andThen_ok, e3]
  exact hf.1 _ w
 refine ⟨by rw [he, <- bind_assoc]; exact zM1 hm' (hf.2 _), ?_⟩
 rw [hr]
 refine (hc a w ha).mono ?_
 rintro e w' ⟨y, h1, rfl, h2⟩
 exact k y h1 _ _ (h2.put (kB hd) _)
theorem zA6 {x : Operand} {name : String} {t f : Nat} {rv rcv v : Value} {vs : List Value} {args : Array Operand} {ts : Array TypeId} (hd : Nat.blt d C.N = true)
  (hx : ev fr x = some (.iface t rv)) (hargs : args.toList.map (ev fr) = vs.map some) (hm : pureOf C.P (Go.method (C.P.types.size + Made.depth) t rv name) = some (f, rcv)) (hf : Enters C.P f)
  (hc : ∀ a w, At C fr hp a w -> Calls C.P f (rcv :: vs).toArray w fun e w' => e = .returned v ∧ Grew w w' [])
  (k : Lst C ops Q rest ((d, v) :: fr) hp) : Lst C ops Q (⟨some d, .call { callee := .invoke x name, args := args, argTypes := ts }, ty, pos, after, none⟩ :: rest) fr hp := by
 refine zOu (X := Unit) (p := fun _ => True) (val := fun _ => v) (rs := fun _ => hp) hd hx hargs hm hf (fun a w ha => (hc a w ha).mono fun e w' ⟨h1, h2⟩ => ⟨(), trivial, h1, ?_⟩) (fun _ _ => k)
 have := ha.more h2
 simpa using this
theorem zF5 {α β : Type} {P : Program} {s : Sem α} {x : α} {f : α -> Sem β} {y : β} (h : pureOf P s = some x) (hf : pureOf P (f x) = some y) : pureOf P (s >>= f) = some y := by
 show pureOf P (s.bind f) = some y
 induction s with
 | pure a => cases h; exact hf
 | program k ih => exact ih P h
 | _ => cases h
theorem zPd {α : Type} {P : Program} {s : Sem α} {x : α} (h : pureOf P s = some x) : Tame P s := by
 induction s with
 | pure a => trivial
 | program k ih => exact ih P h
 | _ => cases h
theorem zD1 {dst : Option Tmp} {x : Operand} {name : String} {t : Nat} {rv : Value} {aS : List Value} {cs : List Value} (hx : ev fr x = some (.func (.method name) (Value.iface t rv :: aS).toArray cs.toArray))
  (hn : pureOf C.P (Go.nilAhead (C.P.types.size + Made.depth) t rv name) = some (some false)) : Yld C ⟨dst, .nilCheck x, ty, pos, after, none⟩ fr hp (.func (.method name) (Value.iface t rv :: aS).toArray cs.toArray) := by
 have h : ∀ a : Act, a.eval x = .func (.method name) (Value.iface t rv :: aS).toArray cs.toArray -> pureOf C.P (execOp a.eval ⟨dst, .nilCheck x, ty, pos, after, none⟩) = some (.value (.func (.method name) (Value.iface t rv :: aS).toArray cs.toArray)) := by
  intro a ha
  simp only [execOp, ha, List.getElem?_toArray, List.getElem?_cons_zero]
  refine zF5 (s := (program : Sem Program)) (x := C.P) rfl (zF5 hn ?_)
  rfl
 exact ⟨rfl, fun a w ha => ⟨zPd (h a (ha.eval hx)), zHl (h a (ha.eval hx)) w⟩⟩
end
end Go.Proofs.Yteppiphdbondeaa.N
namespace Go.Proofs.Yteppiphdbondeaa.N
open Go Go.RowKit Go.Proofs
set_option linter.unusedSectionVars false
def aftOf (f : Flt) (now i kind s : Nat) (m : Mor) : Nat := if kind = 0 then now - min s (m.s.getD i 0) else if kind = 2 then min f.power (now + f.gain) else if kind = 3 then f.power else now
theorem Act.m0 (n : Int) : pureOf Try.prog (Go.method (Try.prog.types.size + Made.depth) 174 (.agg #[.int .i64 n]) "muscovado/char.after") = some (133, .agg #[.int .i64 n]) := by kernel_rfl
theorem Act.m2 : pureOf Try.prog (Go.method (Try.prog.types.size + Made.depth) 165 (.agg #[]) "muscovado/char.after") = some (131, .agg #[]) := by kernel_rfl
theorem Act.m3 : pureOf Try.prog (Go.method (Try.prog.types.size + Made.depth) 166 (.agg #[]) "muscovado/char.after") = some (132, .agg #[]) := by kernel_rfl
theorem Act.m1 : pureOf Try.prog (Go.method (Try.prog.types.size + Made.depth) 175 (.agg #[]) "muscovado/char.after") = some (134, .agg #[]) := by kernel_rfl
theorem Act.n0 (n : Int) : pureOf Try.prog (Go.nilAhead (Try.prog.types.size + Made.depth) 174 (.agg #[.int .i64 n]) "muscovado/char.after") = some (some false) := by kernel_rfl
theorem Act.n2 : pureOf Try.prog (Go.nilAhead (Try.prog.types.size + Made.depth) 165 (.agg #[]) "muscovado/char.after") = some (some false) := by kernel_rfl
theorem Act.n3 : pureOf Try.prog (Go.nilAhead (Try.prog.types.size + Made.depth) 166 (.agg #[]) "muscovado/char.after") = some (some false) := by kernel_rfl
theorem Act.n1 : pureOf Try.prog (Go.nilAhead (Try.prog.types.size + Made.depth) 175 (.agg #[]) "muscovado/char.after") = some (some false) := by kernel_rfl
variable [I : Sys]
section
variable {B N : Nat} {w0 : World} {ds : List Deferred} {fr : List (Nat × Value)} {hp hp' : List Res} {ops : Array Oper} {Q : Exit -> Act -> World -> Prop} {rest : List Oper} {d : Nat} {ty : TypeId} {pos : String} {after : Array Edge}
theorem zJ2 {dst : Option Tmp} {x : Operand} {m : Mor} {i k s : Nat} (hx : ev fr x = some (.func (.method "muscovado/char.after") [(actOf m i k s).1].toArray [].toArray)) : Yld ⟨Try.prog, B, w0, N, ds⟩ ⟨dst, .nilCheck x, ty, pos, after, none⟩ fr hp (.func (.method "muscovado/char.after") [(actOf m i k s).1].toArray [].toArray) := by
 unfold actOf at hx ⊢
 split at hx
 ·rename_i h; rw [if_pos h]; exact zD1 hx (Act.n0 _)
 ·rename_i h0; rw [if_neg h0]
  split at hx
  ·rename_i h; rw [if_pos h]; exact zD1 hx Act.n2
  ·rename_i h2; rw [if_neg h2]
   split at hx
   ·rename_i h; rw [if_pos h]; exact zD1 hx Act.n3
   ·rename_i h3; rw [if_neg h3]; exact zD1 hx Act.n1
theorem zRa {x : Operand} {m : Mor} {i k s now : Nat} {f : Flt} {args : Array Operand} {ts : Array TypeId} (hd : Nat.blt d N = true) (hx : ev fr x = some (actOf m i k s).1)
  (hargs : args.toList.map (ev fr) = [Value.agg [.int .i64 (f.power : Int), .int .i64 (f.gain : Int), .int .i64 (f.now : Int), .bool f.washed].toArray, .int .i64 (now : Int)].map some) (hf : FltOk f) (hn : now <= 4) (hm : min s (m.s.getD i 0) <= now)
  (kk : Lst ⟨Try.prog, B, w0, N, ds⟩ ops Q rest ((d, .int .i64 ((aftOf f now i k s m : Nat) : Int)) :: fr) hp) : Lst ⟨Try.prog, B, w0, N, ds⟩ ops Q (⟨some d, .call { callee := .invoke x "muscovado/char.after", args := args, argTypes := ts }, ty, pos, after, none⟩ :: rest) fr hp := by
 unfold actOf at hx
 unfold aftOf at kk
 split at hx
 ·rename_i h
  rw [if_pos h] at kk
  exact zA6 hd hx hargs (Act.m0 _) (jG Try.func133 rfl kr) (fun a w ha => zXg f now hf hn _ hm w) kk
 ·rename_i h0
  rw [if_neg h0] at kk
  split at hx
  ·rename_i h
   rw [if_pos h] at kk
   exact zA6 hd hx hargs Act.m2 (jG Try.func131 rfl kr) (fun a w ha => zVr f now hf hn w) kk
  ·rename_i h2
   rw [if_neg h2] at kk
   split at hx
   ·rename_i h
    rw [if_pos h] at kk
    exact zA6 hd hx hargs Act.m3 (jG Try.func132 rfl kr) (fun a w ha => zWo f now hf hn w) kk
   ·rename_i h3
    rw [if_neg h3] at kk
    exact zA6 hd hx hargs Act.m1 (jG Try.func134 rfl kr) (fun a w ha => zVq f now hf hn w) kk
end
theorem zS1 (m : Mor) (i k s : Nat) (w : World) : (Instr.typeAssert (actOf m i k s).1 161 165 true).run Try.prog w = .ok (.tuple [.agg #[], .bool (decide ((k : Int) = 2))].toArray) w := by
 unfold actOf
 split
 ·rename_i h; subst h; simp [Instr.typeAssert, go_sem]
 ·split
  ·rename_i h; subst h; simp [Instr.typeAssert, go_sem]
  ·rename_i h0 h2
   have e : decide ((k : Int) = 2) = false := decide_eq_false om
   rw [e]
   split
   ·simp [Instr.typeAssert, go_sem]
   ·simp [Instr.typeAssert, go_sem]
theorem zS2 (m : Mor) (i k s : Nat) (w : World) : (Instr.typeAssert (actOf m i k s).1 161 166 true).run Try.prog w = .ok (.tuple [.agg #[], .bool (decide ((k : Int) = 3))].toArray) w := by
 unfold actOf
 split
 ·rename_i h; subst h; simp [Instr.typeAssert, go_sem]
 ·split
  ·rename_i h; subst h; simp [Instr.typeAssert, go_sem]
  ·split
   ·rename_i h; subst h; simp [Instr.typeAssert, go_sem]
   ·rename_i h0 h2 h3
    have e : decide ((k : Int) = 3) = false := decide_eq_false om
    rw [e]
    simp [Instr.typeAssert, go_sem]
end Go.Proofs.Yteppiphdbondeaa.N
namespace Go.Proofs.Yteppiphdbondeaa.N
open Go Go.RowKit Go.Proofs
set_option linter.unusedSectionVars false
theorem zRt {f : Flt} {now i kind s : Nat} {m : Mor} (hf : FltOk f) (hn : now <= 4) : aftOf f now i kind s m <= 4 := by
 obtain ⟨_, h2, _, _⟩ := hf
 unfold aftOf
 split
 ·omega
 ·split
  ·omega
  ·split <;> omega
theorem zJt (fs : List Flt) (m : Mor) (acts : List Nat) (sugar k : Nat) : dRun fs m acts sugar (k + 1) = dStep fs m (dRun fs m acts sugar k) k (acts.getD k 0) := by
 unfold dRun
 rw [List.range_succ, List.foldl_append]
 rfl
theorem zJe (fs : List Flt) (m : Mor) (st : Nat × Mor) (i kind : Nat) : dStep fs m st i kind = ((actOf m i kind st.1).2, ⟨st.2.s.set i (aftOf (fs.getD i default) (m.s.getD i 0) i kind st.1 m), if kind = 2 then wWith st.2.w i else if kind = 3 then wOut st.2.w i else st.2.w⟩) := by
 unfold dStep actOf aftOf
 by_cases h0 : kind = 0
 ·subst h0; simp
 ·by_cases h2 : kind = 2
  ·subst h2; simp
  ·by_cases h3 : kind = 3
   ·subst h3; simp
   ·simp [h0, h2, h3]
theorem MOk.set {m : Mor} (h : MOk m) {i x w : Nat} (hx : x <= 4) (hw : w < 8) : MOk ⟨m.s.set i x, w⟩ :=
 ⟨by simp [h.three], fun y hy => (List.mem_or_eq_of_mem_set hy).elim (h.small y) fun e => e ▸ hx, hw⟩
theorem MOk.getD {m : Mor} (h : MOk m) (i : Nat) : m.s.getD i 0 <= 4 := by
 rw [List.getD_eq_getElem?_getD]
 cases hi : m.s[i]? with
 | none => exact Nat.zero_le _
 | some x => exact h.small x (List.mem_of_getElem? hi)
theorem zIx {fs : List Flt} {m : Mor} {acts : List Nat} {sugar : Nat} (hf : ∀ f ∈ fs, FltOk f) (hm : MOk m) : ∀ k, k <= fs.length -> k <= 3 -> MOk (dRun fs m acts sugar k).2 ∧ (dRun fs m acts sugar k).1 <= sugar := by
 intro k
 induction k with
 | zero => exact fun _ _ => ⟨hm, Nat.le_refl _⟩
 | succ k ih =>
  intro hk h3
  obtain ⟨h1, h2⟩ := ih om om
  obtain ⟨x, hx⟩ : ∃ x, fs[k]? = some x := ⟨_, List.getElem?_eq_getElem om⟩
  have e : fs.getD k default = x := by rw [List.getD_eq_getElem?_getD, hx]; rfl
  rw [zJt, zJe, e]
  refine ⟨h1.set (zRt (hf x (List.mem_of_getElem? hx)) (hm.getD k)) ?_, ?_⟩
  ·split
   ·exact zLr h1.w om
   ·split
    ·exact zVf h1.w om
    ·exact h1.w
  ·unfold actOf
   dsimp only
   split
   ·dsimp only; omega
   ·split
    ·exact h2
    ·split <;> exact h2
theorem zMq {m : Mor} {acts : List Nat} {k x : Nat} (hx : acts[k]? = some x) (h : barred m acts k = false) (hn : (decide ((x : Int) = 2) && m.w.testBit k) = false) : barred m acts (k + 1) = false := by
 unfold barred at h ⊢
 have e : acts.getD k 0 = x := by rw [List.getD_eq_getElem?_getD, hx]; rfl
 rw [List.range_succ, List.any_append, h]
 simp only [List.any_cons, List.any_nil, Bool.or_false, Bool.false_or, e]
 have : (x == 2) = decide ((x : Int) = 2) := by
  by_cases h2 : x = 2
  ·subst h2; rfl
  ·have h3 : ¬ (x : Int) = 2 := by omega
   simp [h2, h3]
 rw [this]
 exact hn
theorem zQf {m : Mor} {acts : List Nat} {k x : Nat} (hx : acts[k]? = some x) (hn : (decide ((x : Int) = 2) && m.w.testBit k) = true) : barred m acts acts.length = true := by
 unfold barred
 rw [List.any_eq_true]
 have hlt := (List.getElem?_eq_some_iff.1 hx).1
 have e : acts.getD k 0 = x := by rw [List.getD_eq_getElem?_getD, hx]; rfl
 refine ⟨k, List.mem_range.2 hlt, ?_⟩
 rw [e]
 simp only [Bool.and_eq_true, decide_eq_true_eq] at hn
 have h2 : x = 2 := by omega
 rw [hn.2, h2]
 rfl
theorem zO1 {acts : List Nat} {k x : Nat} (hx : acts[k]? = some x) : firesN acts (k + 1) = firesN acts k + if (x : Int) = 3 then 1 else 0 := by
 unfold firesN
 rw [List.take_add_one, hx, List.countP_append]
 simp only [Option.toList, List.countP_cons, List.countP_nil, Nat.zero_add]
 congr 1
 by_cases h : x = 3
 ·subst h; rfl
 ·have h3 : ¬ (x : Int) = 3 := by omega
  simp [h, h3]
theorem zSb (acts : List Nat) (k : Nat) : firesN acts k <= k := by
 unfold firesN
 exact Nat.le_trans List.countP_le_length (by rw [List.length_take]; omega)
def dayEnd (x : Nat × Mor) : Ending := if x.1 = 0 then .returned x.2.val else .panicked [{ v := .iface 141 (.agg [.int .i64 (x.1 : Int)].toArray), recovered := false }]
theorem day12 {fs : List Flt} {kiln : Nat} {m : Mor} {acts : List Nat} {sugar : Nat} (h : barred m acts acts.length = true) : dayE fs kiln m acts sugar = (12, m) := by unfold dayE; rw [if_pos h]
theorem day6 {fs : List Flt} {kiln : Nat} {m : Mor} {acts : List Nat} {sugar : Nat} (h : barred m acts acts.length = false) (h2 : kiln < firesN acts acts.length) : dayE fs kiln m acts sugar = (6, m) := by unfold dayE; rw [if_neg (by rw [h]; simp), if_pos h2]
theorem day9 {fs : List Flt} {kiln : Nat} {m : Mor} {acts : List Nat} {sugar : Nat} (h : barred m acts acts.length = false) (h2 : ¬ kiln < firesN acts acts.length) (h3 : 0 < (dRun fs m acts sugar acts.length).1) : dayE fs kiln m acts sugar = (9, m) := by unfold dayE; rw [if_neg (by rw [h]; simp), if_neg h2, if_pos h3]
theorem day0 {fs : List Flt} {kiln : Nat} {m : Mor} {acts : List Nat} {sugar : Nat} (h : barred m acts acts.length = false) (h2 : ¬ kiln < firesN acts acts.length) (h3 : ¬ 0 < (dRun fs m acts sugar acts.length).1) : dayE fs kiln m acts sugar = (0, (dRun fs m acts sugar acts.length).2) := by unfold dayE; rw [if_neg (by rw [h]; simp), if_neg h2, if_neg h3]
theorem wG {fs : List Flt} {kiln : Nat} {m : Mor} {acts : List Nat} {sugar : Nat} (hf : ∀ f ∈ fs, FltOk f) (hm : MOk m) (hl : acts.length <= fs.length) (h3 : fs.length <= 3) : MOk (dayE fs kiln m acts sugar).2 ∧ ((dayE fs kiln m acts sugar).1 ≠ 0 -> (dayE fs kiln m acts sugar).2 = m) := by
 have h := (zIx (acts := acts) (sugar := sugar) hf hm acts.length hl om).1
 unfold dayE
 split
 ·exact ⟨hm, fun _ => rfl⟩
 ·split
  ·exact ⟨hm, fun _ => rfl⟩
  ·split
   ·exact ⟨hm, fun _ => rfl⟩
   ·exact ⟨h, fun x => absurd rfl x⟩
end Go.Proofs.Yteppiphdbondeaa.N
