/- Parts of the walk of the law CharFewest: T27, T28, Sx7, ChA, ChG, T29, T30, ChU, ChD, ChAH, T39, ChAI, ChAJ, ChAK, T44, ChAL, ChAM, ChAN, T45, T46. -/
import Derived.Test.YteppiphdbondeaaSCharFewest08
import Derived.Test.YteppiphdbondeaaProg
import Derived.Test.YteppiphdbondeaaSCharFewest05
import Derived.DeepKeys3
import Derived.Test.YteppiphdbondeaaSCharFewest07
import Derived.ArgAppend
import Derived.Deep.Upon
import Derived.Deep.AppendSrc
namespace Go.Proofs.Yteppiphdbondeaa.N
open Go Go.RowKit Go.Proofs
set_option linter.unusedSectionVars false
variable [I : Sys]
variable {C : Ctx} {Q : Exit -> Act -> World -> Prop} {T hp : List Res} {a : Act} {after : Array Edge} {args : Array Operand} {d hb nc st tk : Nat} {fr : List (Nat × Value)} {n : Int} {nA : Option Addr} {nums : List Int} {ops : Array Oper} {pos : String} {rest : List Oper} {ts : Array TypeId} {ty : TypeId} {w : World}
theorem F.ent26 : Enters Try.prog 26 := jD Try.func26 rfl (by kernel_rfl)
theorem F.ent30 : Enters Try.prog 30 := jD Try.func30 rfl (by kernel_rfl)
theorem F.ent47 : Enters Try.prog 47 := jD Try.func47 rfl (by kernel_rfl)
theorem F.ent55 : Enters Try.prog 55 := jD Try.func55 rfl (by kernel_rfl)
theorem F.ent58 : Enters Try.prog 58 := jD Try.func58 rfl (by kernel_rfl)
theorem F.fi72_0 : FI Try.prog 72 0 22 0 := ⟨_, _, Try.underlying72, rfl, rfl, rfl⟩
theorem F.fi72_1 : FI Try.prog 72 1 3 1 := ⟨_, _, Try.underlying72, rfl, rfl, rfl⟩
theorem F.fi72_2 : FI Try.prog 72 2 70 2 := ⟨_, _, Try.underlying72, rfl, rfl, rfl⟩
theorem F.one70 : One Try.prog 70 := ⟨by unfold aggB; rw [Try.underlying70], by rw [Try.underlying70]; simp⟩
theorem F.pl72 : Places Try.prog 72 [(0, 1), (1, 1), (2, 1)] := .inl ⟨_, Try.underlying72, by kernel_rfl⟩
theorem F.ti72 : TI Try.prog 72 (.agg [.slice none 0 0, .int .i64 0, .int .u64 0].toArray) 3 40 := TI.of (by kernel_rfl)
theorem zY8 (hC : C.P = Try.prog) {hb tk st nc : Nat} {nA : Option Addr} {nums : List Int} (hB : C.w0.heap.size = C.B) (hN : RdL icell 1 C.w0 nA nums) (htk : tk <= 1000000) (hst : st < 18446744073709551616) (ha : At C fr (.blk hb (.cells [.slice nA nums.length nc, .int .i64 (tk : Int), .int .u64 (st : Int)].toArray 72 (0, 0)) :: T) a w) : Calls C.P 58 #[pt hb] w fun e w' => ∃ st' x : Nat, st' < 18446744073709551616 ∧ x < 18446744073709551616 ∧ e = .returned (.int .u64 (x : Int)) ∧ At C fr (.blk hb (.cells [.slice nA nums.length nc, .int .i64 ((tk + 1 : Nat) : Int), .int .u64 (st' : Int)].toArray 72 (0, 0)) :: T) a w' := by
 obtain ⟨P, B, w0, N0, ds⟩ := C
 obtain rfl : P = Try.prog := hC
 (try dsimp only at hB)
 (try dsimp only at hN)
 refine yJ (N := 75) [(0, pt hb)] ha Try.func58 rfl Try.ntmps58 rfl rfl (zD (zB (zE rfl rfl (zA (zC (zD (zB (zF rfl rfl (qT rfl rfl (zL rfl rfl F.fi72_1 F.ti3 (zR rfl rfl F.one3 ?_)))))))))))
 obtain ⟨v9, hv9, ev9⟩ := zA9 (tk : Int)
 refine zBp rfl rfl Try.underlying3 Try.underlying70 ev9 ?_
 obtain ⟨v10, hv10, ev10⟩ := zA9 ((v9 : Int) + 1)
 refine zI rfl rfl rfl (fun w => jK w ev10) (zE rfl rfl (zA (zC (zD (zD (kD [] F.follows 10 rfl [false, false, false, false, false, false, false, false, false, false] rfl (zG 0 rfl rfl rfl (zP rfl) (zG 1 rfl rfl rfl (kR rfl) (zG 2 rfl rfl rfl (jA rfl F.fi72_1 F.ti3) (zG 3 rfl rfl rfl (kH rfl F.one3) (zG 4 rfl rfl rfl (zP rfl) (zG 5 rfl rfl rfl (kR rfl) (zG 6 rfl rfl rfl (jA rfl F.fi72_0 F.ti22) (zG 7 rfl rfl rfl (kH rfl F.one22) (zG 8 rfl rfl rfl (zA3 rfl Try.underlying22) (zG 9 rfl rfl rfl (kS rfl rfl jR) ?_))))))))))))))))
 refine adn (zC (xK (G := Nat) (fun q => q < 18446744073709551616) (fun q => [(0, pt hb), (2, .int .u64 0), (3, .int .u64 (q : Int))]) (fun _ => .blk hb (.cells [.slice nA nums.length nc, .int .i64 (tk : Int), .int .u64 (st : Int)].toArray 72 (0, 0)) :: T) ?_ ?_))
 ·refine zN rfl (fun hc0 => ?_) (fun hc0 => ?_)
  ·have hk' : tk < nums.length := by omega
   obtain ⟨b, o, hAe, hb', hcell⟩ := hN om
   obtain ⟨x, hx⟩ : ∃ x, nums[tk]? = some x := ⟨_, List.getElem?_eq_getElem hk'⟩
   obtain ⟨v32, hv32, ev32⟩ := zA9 x
   obtain ⟨v33, hv33, ev33⟩ := zA9 ((v32 : Int) * 13787848793156543929)
   refine kD [] F.follows 15 rfl [false, false, false, false, false, false, false, false, false, false, false, false, false, false, false] rfl (zG 0 rfl rfl rfl (zP rfl) (zG 1 rfl rfl rfl (zP rfl) (zG 2 rfl rfl rfl (kR rfl) (zG 3 rfl rfl rfl (jA rfl F.fi72_0 F.ti22) (zG 4 rfl rfl rfl (kH rfl F.one22) (zG 5 rfl rfl rfl (zP rfl) (zG 6 rfl rfl rfl (kR rfl) (zG 7 rfl rfl rfl (jA rfl F.fi72_1 F.ti3) (zG 8 rfl rfl rfl (kH rfl F.one3) (zG 9 rfl rfl rfl (kM (j := tk) (show _ = some (Value.slice (some ⟨b, o, none⟩) nums.length nc) from by rw [<- hAe]; rfl) rfl Try.underlying22 F.ti3 rfl hk') (zG 10 rfl rfl rfl (jP (v := .int .i64 x) rfl F.one3 (fun a w ha => ha.old (hcell tk x hx 0 _ rfl) (Nat.lt_of_lt_of_le hb' (Nat.le_of_eq hB)))) (an1 11 rfl (zBp rfl rfl Try.underlying3 Try.underlying70 ev32 (zA (anb (an1 12 rfl ?_))))))))))))))))
   exact zI rfl rfl rfl (fun w => zGt w ev33) (zA (anb (an1 13 rfl (zI rfl rfl rfl (fun w => zCh w (zCo v10 v33 hv10 hv33)) (zA (anb (zG 14 rfl rfl rfl (jZ rfl) (adn (jS (v10 ^^^ v33) (xor64 hv10 hv33) sbn pkk)))))))))
  ·exact zQ (jS v10 hv10 sbn pkk)
 ·rintro q hq
  (try dsimp only)
  refine zC (zD (zB (zF rfl rfl (qT rfl rfl (zL rfl rfl F.fi72_1 F.ti3 (zR rfl rfl F.one3 (zI rfl rfl rfl (fun w => jK w (show IntKind.i64.wrap ((tk : Int) + 1) = ((tk + 1 : Nat) : Int) from zT _ om om)) (qT rfl rfl (zL rfl rfl F.fi72_1 F.ti3 (zH rfl rfl F.ti3 rfl (zA (zC (zD (zB (zF rfl rfl (zF rfl rfl (qT rfl rfl (zL rfl rfl F.fi72_2 F.ti70 (zR rfl rfl F.one70 (zF rfl rfl (zI rfl rfl rfl (fun w => zCh w (zCo st q hst hq)) ?_)))))))))))))))))))))
  obtain ⟨v49, hv49, ev49⟩ := zA9 (((st ^^^ q : Nat) : Int) * 10723151780598845931)
  refine zI rfl rfl rfl (fun w => zGt w ev49) (qT rfl rfl (zL rfl rfl F.fi72_2 F.ti70 (zH rfl rfl F.ti70 rfl ?_)))
  refine zA (zC (zD (xK (G := Nat) (fun s2 => s2 < 18446744073709551616) (fun s2 => [(0, pt hb), (2, .int .u64 0)]) (fun s2 => .blk hb (.cells [.slice nA nums.length nc, .int .i64 ((tk + 1 : Nat) : Int), .int .u64 (s2 : Int)].toArray 72 (0, 0)) :: T) ?_ ?_)))
  ·refine kD [.b hb] F.follows 14 rfl [false, false, false, false, false, false, false, false, false, false, false, false, false, false] rfl (zG 0 rfl rfl rfl (zP rfl) (zG 1 rfl rfl rfl (zP rfl) (zG 2 rfl rfl rfl (kR rfl) (zG 3 rfl rfl rfl (jA rfl F.fi72_2 F.ti70) (zG 5 rfl rfl rfl (zP rfl) (zG 6 rfl rfl rfl (kR rfl) (zG 7 rfl rfl rfl (jA rfl F.fi72_2 F.ti70) ?_)))))))
   refine qI 4 8 kr rfl rfl rfl rfl ?_ ?_
   ·exact zR rfl rfl F.one70 (zA (anb (an1 8 rfl (zR rfl rfl F.one70 (zA (anb (an1 9 rfl (zCf rfl rfl rfl om (zCv v49 31 _) (zA (anb (an1 10 rfl (zI rfl rfl rfl (fun w => zCh w (zCo v49 (v49 >>> (min 31 64)) hv49 (shr64 _ hv49))) (zA (anb (zG 11 rfl rfl rfl (kR rfl) (zG 12 rfl rfl rfl (jA rfl F.fi72_2 F.ti70) (an1 13 rfl (zH rfl rfl F.ti70 rfl (zA (anb (adn (jS (v49 ^^^ (v49 >>> (min 31 64))) (xor64 hv49 (shr64 _ hv49)) sbn pkk))))))))))))))))))))))
   ·refine zR rfl rfl F.one70 ?_
    refine zA (anb (qI 4 9 kr rfl rfl rfl rfl ?_ ?_))
    ·exact zR rfl rfl F.one70 (zA (anb (an1 9 rfl (zCf rfl rfl rfl om (zCv v49 31 _) (zA (anb (an1 10 rfl (zI rfl rfl rfl (fun w => zCh w (zCo v49 (v49 >>> (min 31 64)) hv49 (shr64 _ hv49))) (zA (anb (zG 11 rfl rfl rfl (kR rfl) (zG 12 rfl rfl rfl (jA rfl F.fi72_2 F.ti70) (an1 13 rfl (zH rfl rfl F.ti70 rfl (zA (anb (adn (jS (v49 ^^^ (v49 >>> (min 31 64))) (xor64 hv49 (shr64 _ hv49)) sbn pkk))))))))))))))))))
    ·exact zCf rfl rfl rfl om (zCv v49 31 _) (zA (anb (an1 4 rfl (zR rfl rfl F.one70 (zA (anb (an1 10 rfl (zI rfl rfl rfl (fun w => zCh w (zCo v49 (v49 >>> (min 31 64)) hv49 (shr64 _ hv49))) (zA (anb (zG 11 rfl rfl rfl (kR rfl) (zG 12 rfl rfl rfl (jA rfl F.fi72_2 F.ti70) (an1 13 rfl (zH rfl rfl F.ti70 rfl (zA (anb (adn (jS (v49 ^^^ (v49 >>> (min 31 64))) (xor64 hv49 (shr64 _ hv49)) sbn pkk))))))))))))))))))
  ·rintro s2 hs2
   (try dsimp only)
   refine zC (zD (zB ?_))
   obtain ⟨v69, hv69, ev69⟩ := zA9 ((s2 : Int) * 15485907386658061715)
   exact zF rfl rfl (qT rfl rfl (zL rfl rfl F.fi72_2 F.ti70 (zR rfl rfl F.one70 (zI rfl rfl rfl (fun w => zGt w ev69) (zE rfl rfl (zA (zC (zD (zB (zF rfl rfl (zF rfl rfl (zCf rfl rfl rfl om (zCv v69 32 _) (zI rfl rfl rfl (fun w => zCh w (zCo v69 (v69 >>> (min 32 64)) hv69 (shr64 _ hv69))) (zCf rfl rfl rfl om (zCv (v69 ^^^ (v69 >>> (min 32 64))) 9 _) (zE rfl rfl (zA (zC (zY (jJ rfl (fun a w ha => jO rfl rfl ha) (fun _ _ ha' => ⟨s2, _, hs2, shr64 _ (xor64 hv69 (shr64 _ hv69)), rfl, ha.back (ha'.pck pkk)⟩))))))))))))))))))))

theorem To_c (hC : C.P = Try.prog) {hb tk st nc : Nat} {nA : Option Addr} {nums : List Int} (hB : C.w0.heap.size = C.B) (hN : RdL icell 1 C.w0 nA nums) (htk : tk <= 1000000) (hst : st < 18446744073709551616) {n : Int} (hn : n <= 1000000)  (ha : At C fr (.blk hb (.cells [.slice nA nums.length nc, .int .i64 (tk : Int), .int .u64 (st : Int)].toArray 72 (0, 0)) :: T) a w) : Calls C.P 26 #[pt hb, .int .i64 n] w fun e w' => ∃ st' x : Nat, st' < 18446744073709551616 ∧ x <= n.toNat ∧ e = .returned (.int .i64 (x : Int)) ∧ At C fr (.blk hb (.cells [.slice nA nums.length nc, .int .i64 ((tk + 1 : Nat) : Int), .int .u64 (st' : Int)].toArray 72 (0, 0)) :: T) a w' := by
 obtain ⟨P, B, w0, N0, ds⟩ := C
 obtain rfl : P = Try.prog := hC
 (try dsimp only at hB)
 (try dsimp only at hN)
 refine yJ (N := 16) [(0, pt hb), (1, .int .i64 n)] ha Try.func26 rfl Try.ntmps26 rfl rfl (zD (zB (zE rfl rfl (zA (zC (zD (zB (zF rfl rfl (xB (X := Nat × Nat) (first := []) (cap := []) (vs := [_]) (p := fun y => y.1 < 18446744073709551616 ∧ y.2 < 18446744073709551616) (val := fun y => .int .u64 (y.2 : Int)) (rs := fun y => .blk hb (.cells [.slice nA nums.length nc, .int .i64 ((tk + 1 : Nat) : Int), .int .u64 (y.1 : Int)].toArray 72 (0, 0)) :: T) rfl rfl rfl F.ent58 (fun a w ha => (zY8 (C := ⟨Try.prog, B, w0, _, _⟩) rfl hB hN htk hst ha).mono (fun e w' h => by obtain ⟨s', x, h1, h2, h3, h4⟩ := h; exact ⟨(s', x), ⟨h1, h2⟩, h3, h4⟩)) ?_)))))))))
 rintro ⟨s1, x⟩ ⟨hs1, hx⟩
 dsimp only at hs1 hx ⊢
 refine zE rfl rfl (zA (zC (zD (zD (zB (zF rfl rfl (zI rfl rfl rfl jR ?_)))))))
 refine zA (zC (zN rfl (fun hc0 => ?_) (fun hc0 => ?_)))
 ·exact zD (zB (zE rfl rfl (zA (zC (zY (jB (jJ rfl (fun a w ha => jO rfl rfl ha) (fun _ _ ha' => ⟨s1, 0, hs1, Nat.zero_le _, rfl, ha.back (ha'.pck pkk)⟩))))))))
 ·obtain ⟨m, rfl⟩ := Int.eq_ofNat_of_zero_le (show 0 <= n by omega)
  refine zQ (zC (zD (zB (zF rfl rfl (zF rfl rfl (zBp rfl rfl Try.underlying3 Try.underlying70 (zHq m om) (zI rfl rfl rfl (fun w => jK w (zK2 om)) (zI rfl rfl rfl (fun w => zWt w om (zTc x (m + 1))) ?_))))))))
  have hmod : x % (m + 1) < m + 1 := Nat.mod_lt _ om
  exact zBp rfl rfl Try.underlying70 Try.underlying3 (zT _ om om) (zE rfl rfl (zA (zC (zY (jJ rfl (fun a w ha => jO rfl rfl ha) (fun _ _ ha' => ⟨s1, x % (m + 1), hs1, by rw [Int.toNat_natCast]; omega, rfl, ha.back (ha'.pck pkk)⟩))))))

theorem yD [hq : Pul hb (hatO nA nums.length nc tk st) hp T]
  (hP : C.P = Try.prog) (hd : Nat.blt d C.N = true) (hargs : args.toList.map (ev fr) = ([pt hb, .int .i64 n] : List Value).map some) (hB : C.w0.heap.size = C.B) (hN : RdL icell 1 C.w0 nA nums) (hst : st < 18446744073709551616) (htk : tk <= 1000000) (hn : n <= 1000000)
  (k : ∀ (s x : Nat), s < 18446744073709551616 -> x <= n.toNat -> Lst C ops Q rest ((d, .int .i64 (x : Int)) :: fr) (.blk hb (hatO nA nums.length nc (tk + 1) s) :: T)) : Lst C ops Q (⟨some d, .call { callee := .value (.func 26), args := args, argTypes := ts }, ty, pos, after, none⟩ :: rest) fr hp := by
 refine wI (X := Nat × Nat) hb (fun y => hatO nA nums.length nc (tk + 1) y.1) (fun y => y.1 < 18446744073709551616 ∧ y.2 <= n.toNat) (fun y => .int .i64 (y.2 : Int)) hd hargs (hP ▸ F.ent26) (fun a w ha => (To_c hP hB hN htk hst hn ha).mono fun e w' h => ?_) fun y hy => k y.1 y.2 hy.1 hy.2
 obtain ⟨s', x, h1, h2, h3, h4⟩ := h
 exact ⟨(s', x), ⟨h1, h2⟩, h3, h4⟩

theorem zXy (hC : C.P = Try.prog) {hb tk st nc : Nat} {nA : Option Addr} {nums : List Int} (hB : C.w0.heap.size = C.B) (hN : RdL icell 1 C.w0 nA nums) (htk : tk <= 1000000) (hst : st < 18446744073709551616) {lo hi : Nat} (hlh : lo <= hi) (hhi : hi <= 1000) (ha : At C fr (.blk hb (hatO nA nums.length nc (tk) (st)) :: T) a w) : Calls C.P 30 #[pt hb, .int .i64 (lo : Int), .int .i64 (hi : Int)] w fun e w' => ∃ st' x : Nat, st' < 18446744073709551616 ∧ lo <= x ∧ x <= hi ∧ e = .returned (.int .i64 (x : Int)) ∧ At C fr (.blk hb (hatO nA nums.length nc (tk + 1) (st')) :: T) a w' := by
 obtain ⟨P, B, w0, N0, ds⟩ := C
 obtain rfl : P = Try.prog := hC
 (try dsimp only at hB)
 (try dsimp only at hN)
 refine yJ (N := 14) [(0, pt hb), (1, .int .i64 (lo : Int)), (2, .int .i64 (hi : Int))] ha Try.func30 rfl Try.ntmps30 rfl rfl (zD (zB (zE rfl rfl (zA (zC (zD (zB (zF rfl rfl (zF rfl rfl (zF rfl rfl (zF rfl rfl (zI rfl rfl rfl (fun w => xZ w (zT ((hi : Int) - (lo : Int)) om om)) (yD rfl rfl rfl hB hN hst om om ?_)))))))))))))
 rintro s1 x1 hs1 hx1
 exact zI rfl rfl rfl (fun w => jK w (show IntKind.i64.wrap ((lo : Int) + (x1 : Int)) = ((lo + x1 : Nat) : Int) from zT _ om om)) (zE rfl rfl (zA (zC (zY (jJ rfl (fun a w ha => jO rfl rfl ha) (fun _ _ ha' => ⟨s1, lo + x1, hs1, by omega, by omega, rfl, ha.back (ha'.pck pkk)⟩))))))

theorem zLz {lo hi : Nat} [hq : Pul hb (hatO nA nums.length nc tk st) hp T]
  (hP : C.P = Try.prog) (hd : Nat.blt d C.N = true) (hargs : args.toList.map (ev fr) = ([pt hb, .int .i64 (lo : Int), .int .i64 (hi : Int)] : List Value).map some) (hB : C.w0.heap.size = C.B) (hN : RdL icell 1 C.w0 nA nums) (hst : st < 18446744073709551616) (htk : tk <= 1000000) (hlh : lo <= hi) (hhi : hi <= 1000)
  (k : ∀ (s x : Nat), s < 18446744073709551616 -> lo <= x -> x <= hi -> Lst C ops Q rest ((d, .int .i64 (x : Int)) :: fr) (.blk hb (hatO nA nums.length nc (tk + 1) s) :: T)) : Lst C ops Q (⟨some d, .call { callee := .value (.func 30), args := args, argTypes := ts }, ty, pos, after, none⟩ :: rest) fr hp := by
 refine wI (X := Nat × Nat) hb (fun y => hatO nA nums.length nc (tk + 1) y.1) (fun y => y.1 < 18446744073709551616 ∧ lo <= y.2 ∧ y.2 <= hi) (fun y => .int .i64 (y.2 : Int)) hd hargs (hP ▸ F.ent30) (fun a w ha => (zXy hP hB hN htk hst hlh hhi ha).mono fun e w' h => ?_) fun y hy => k y.1 y.2 hy.1 hy.2.1 hy.2.2
 obtain ⟨s', x, h1, h2, h3, h4, h5⟩ := h
 exact ⟨(s', x), ⟨h1, h2, h3⟩, h4, h5⟩

theorem zTr (hC : C.P = Try.prog) {hb tk st nc : Nat} {nA : Option Addr} {nums : List Int} (hB : C.w0.heap.size = C.B) (hN : RdL icell 1 C.w0 nA nums) (htk : tk <= 1000000) (hst : st < 18446744073709551616) {n : Int} (hn0 : 0 <= n) (hn : n <= 1000000) (ha : At C fr (.blk hb (hatO nA nums.length nc (tk) (st)) :: T) a w) : Calls C.P 55 #[pt hb, .int .i64 n] w fun e w' => ∃ (st' : Nat) (b : Bool), st' < 18446744073709551616 ∧ e = .returned (.bool b) ∧ At C fr (.blk hb (hatO nA nums.length nc (tk + 1) (st')) :: T) a w' := by
 obtain ⟨P, B, w0, N0, ds⟩ := C
 obtain rfl : P = Try.prog := hC
 (try dsimp only at hB)
 (try dsimp only at hN)
 refine yJ (N := 10) [(0, pt hb), (1, .int .i64 n)] ha Try.func55 rfl Try.ntmps55 rfl rfl (zD (zB (zE rfl rfl (zA (zC (zD (zB (zF rfl rfl (zF rfl rfl (zI rfl rfl rfl (fun w => xZ w (zT (n - 1) om om)) (yD rfl rfl rfl hB hN hst om om ?_)))))))))))
 rintro s1 x1 hs1 hx1
 exact zI rfl rfl rfl jY (zE rfl rfl (zA (zC (zY (jJ rfl (fun a w ha => jO rfl rfl ha) (fun _ _ ha' => ⟨s1, _, hs1, rfl, ha.back (ha'.pck pkk)⟩))))))

theorem zEr [hq : Pul hb (hatO nA nums.length nc tk st) hp T]
  (hP : C.P = Try.prog) (hd : Nat.blt d C.N = true) (hargs : args.toList.map (ev fr) = ([pt hb, .int .i64 n] : List Value).map some) (hB : C.w0.heap.size = C.B) (hN : RdL icell 1 C.w0 nA nums) (hst : st < 18446744073709551616) (htk : tk <= 1000000) (hn0 : 0 <= n) (hn : n <= 1000000)
  (k : ∀ (s : Nat) (b : Bool), s < 18446744073709551616 -> Lst C ops Q rest ((d, .bool b) :: fr) (.blk hb (hatO nA nums.length nc (tk + 1) s) :: T)) : Lst C ops Q (⟨some d, .call { callee := .value (.func 55), args := args, argTypes := ts }, ty, pos, after, none⟩ :: rest) fr hp := by
 refine wI (X := Nat × Bool) hb (fun y => hatO nA nums.length nc (tk + 1) y.1) (fun y => y.1 < 18446744073709551616) (fun y => .bool y.2) hd hargs (hP ▸ F.ent55) (fun a w ha => (zTr hP hB hN htk hst hn0 hn ha).mono fun e w' h => ?_) fun y hy => k y.1 y.2 hy
 obtain ⟨s', x, h1, h2, h3⟩ := h
 exact ⟨(s', x), h1, h2, h3⟩

theorem zZd (hC : C.P = Try.prog) {hb tk st nc : Nat} {nA : Option Addr} {nums : List Int} (hB : C.w0.heap.size = C.B) (hN : RdL icell 1 C.w0 nA nums) (htk : tk <= 1000000) (hst : st < 18446744073709551616) {lb lc : Nat} {l : List Nat} (hl1 : 1 <= l.length) (hl2 : l.length <= 100) (hm : Res.blk lb (.cells (ints l).toArray 3 (0, 0)) ∈ T) (ha : At C fr (.blk hb (hatO nA nums.length nc (tk) (st)) :: T) a w) : Calls C.P 47 #[pt hb, .slice (some ⟨lb, 0, none⟩) l.length lc] w fun e w' => ∃ st' x : Nat, st' < 18446744073709551616 ∧ x ∈ l ∧ e = .returned (.int .i64 (x : Int)) ∧ At C fr (.blk hb (hatO nA nums.length nc (tk + 1) (st')) :: T) a w' := by
 obtain ⟨P, B, w0, N0, ds⟩ := C
 obtain rfl : P = Try.prog := hC
 (try dsimp only at hB)
 (try dsimp only at hN)
 refine yJ (N := 13) [(0, pt hb), (1, .slice (some ⟨lb, 0, none⟩) l.length lc)] ha Try.func47 rfl Try.ntmps47 rfl rfl (zD (zB (zE rfl rfl (zA (zC (zD (zB (zF rfl rfl (zF rfl rfl (zF rfl rfl (jX rfl rfl Try.underlying22 (zI rfl rfl rfl (fun w => xZ w (zT ((l.length : Int) - 1) om om)) (yD rfl rfl rfl hB hN hst om om ?_)))))))))))))
 rintro s1 x1 hs1 hx1
 have hx : x1 < l.length := by omega
 exact qE (j := x1) rfl rfl rfl Try.underlying22 F.ti3 rfl hx (kN (v := .int .i64 ((l.getD x1 0 : Nat) : Int)) rfl rfl F.one3 (fun a w ha => by rw [Nat.zero_add, Nat.mul_one]; exact qH (ha.mem_blk (List.mem_cons_of_mem _ hm)) (zTm hx)) (zE rfl rfl (zA (zC (zY (jJ rfl (fun a w ha => jO rfl rfl ha) (fun _ _ ha' => ⟨s1, l.getD x1 0, hs1, zU5 hx, rfl, ha.back (ha'.pck pkk)⟩)))))))

theorem vU (l : List Nat) {lb lc : Nat} [hq : Pul hb (hatO nA nums.length nc tk st) hp T]
  (hP : C.P = Try.prog) (hd : Nat.blt d C.N = true) (hargs : args.toList.map (ev fr) = ([pt hb, .slice (some ⟨lb, 0, none⟩) l.length lc] : List Value).map some) (hB : C.w0.heap.size = C.B) (hN : RdL icell 1 C.w0 nA nums) (hst : st < 18446744073709551616) (htk : tk <= 1000000) (hl1 : 1 <= l.length) (hl2 : l.length <= 100) (hm : Res.blk lb (.cells (ints l).toArray 3 (0, 0)) ∈ T)
  (k : ∀ (s x : Nat), s < 18446744073709551616 -> x ∈ l -> Lst C ops Q rest ((d, .int .i64 (x : Int)) :: fr) (.blk hb (hatO nA nums.length nc (tk + 1) s) :: T)) : Lst C ops Q (⟨some d, .call { callee := .value (.func 47), args := args, argTypes := ts }, ty, pos, after, none⟩ :: rest) fr hp := by
 refine wI (X := Nat × Nat) hb (fun y => hatO nA nums.length nc (tk + 1) y.1) (fun y => y.1 < 18446744073709551616 ∧ y.2 ∈ l) (fun y => .int .i64 (y.2 : Int)) hd hargs (hP ▸ F.ent47) (fun a w ha => (zZd hP hB hN htk hst hl1 hl2 hm ha).mono fun e w' h => ?_) fun y hy => k y.1 y.2 hy.1 hy.2
 obtain ⟨s', x, h1, h2, h3, h4⟩ := h
 exact ⟨(s', x), ⟨h1, h2⟩, h3, h4⟩

theorem zTk (nA : Option Addr) (n nc : Nat) (w : World) : Calls Try.prog 13 #[.slice nA n nc] w fun e w' => ∃ b, e = .returned (pt b) ∧ Grew w w' [.blk b (hatO nA n nc 0 11400714819323198485)] := by
 refine enter (N := 6) [(0, .slice nA n nc)] Try.func13 rfl Try.ntmps13 rfl rfl (zD (zB (zE rfl rfl (zA (zC (zD (zB (zF rfl rfl (kG (vs := [(0, _), (2, _)]) (l' := [_, _, _]) rfl rfl F.ti72 F.pl72 (.cons rfl rfl (.cons rfl rfl (.nil _))) rfl (kA rfl rfl ?_))))))))))
 intro b5
 exact zE rfl rfl (zA (zC (zY (jJ rfl (fun a w ha => jO rfl rfl ha) (fun a w ha => ⟨b5, rfl, ha.grown sbl⟩)))))

end Go.Proofs.Yteppiphdbondeaa.N
namespace Go.Proofs.Yteppiphdbondeaa.N
open Go Go.RowKit Go.Proofs
set_option linter.unusedSectionVars false
variable [I : Sys]
variable {C : Ctx} {T : List Res} {a : Act} {fr : List (Nat × Value)} {w : World}
theorem F.ent14 : Enters Try.prog 14 := jD Try.func14 rfl (by kernel_rfl)
theorem F.ent27 : Enters Try.prog 27 := jD Try.func27 rfl (by kernel_rfl)
theorem zQf (hC : C.P = Try.prog) {hb tk st nc : Nat} {nA : Option Addr} {nums : List Int} (hB : C.w0.heap.size = C.B) (hN : RdL icell 1 C.w0 nA nums) (htk : tk <= 900000) (hst : st < 18446744073709551616) (ha : At C fr (.blk hb (hatO nA nums.length nc (tk) (st)) :: T) a w) : Calls C.P 27 #[pt hb] w fun e w' => ∃ (tk' st' : Nat) (f : Flt), tk' <= tk + 10 ∧ st' < 18446744073709551616 ∧ FltOk f ∧ e = .returned (.agg [.int .i64 (f.power : Int), .int .i64 (f.gain : Int), .int .i64 (f.now : Int), .bool f.washed].toArray) ∧ At C fr (.blk hb (hatO nA nums.length nc (tk') (st')) :: T) a w' := by
 obtain ⟨P, B, w0, N0, ds⟩ := C
 obtain rfl : P = Try.prog := hC
 (try dsimp only at hB)
 (try dsimp only at hN)
 refine yJ (N := 30) [(0, pt hb)] ha Try.func27 rfl Try.ntmps27 rfl rfl (zD (zB (zX rfl F.ti49 ?_)))
 intro b2
 refine zA (zC (zD (zB (zF rfl rfl (jV (vs := [(0, _), (1, _), (2, _), (3, _), (4, _), (5, _)]) rfl rfl Try.underlying22 F.ti3 rfl rfl rfl ?_)))))
 intro b5
 refine vU [1, 2, 2, 3, 3, 4] rfl rfl rfl hB hN hst om (by simp) (by simp) (InB.mem (b := b5)) ?_
 rintro s1 pw hs1 hpw
 simp only [List.mem_cons, List.not_mem_nil, or_false] at hpw
 refine kG (vs := [(0, _)]) (l' := [_, _, _, _]) rfl rfl F.ti49 F.pl49 (.cons rfl rfl (.nil _)) rfl (zX rfl F.ti49 ?_)
 intro b3
 refine zH rfl rfl F.ti49 rfl ?_
 refine zA (zC (zD (xK (G := Nat × Nat) (fun g => g.1 < 18446744073709551616 ∧ g.2 <= pw) (fun g => [(0, pt hb), (2, pt b2), (3, pt b3)]) (fun g => .blk hb (hatO nA nums.length nc (tk + 1 + 1 + 1) (g.1)) :: .blk b3 (.cells [.int .i64 (pw : Int), .int .i64 (g.2 : Int), .int .i64 (pw : Int), .bool false].toArray 49 (0, 0)) :: .blk b2 (.cells [.int .i64 0, .int .i64 0, .int .i64 0, .bool false].toArray 49 (0, 0)) :: T) ?_ ?_)))
 ·refine kD [.b b3, .b hb] F.follows 13 rfl [false, false, false, false, false, false, false, false, false, false, false, false, false] rfl (zG 0 rfl rfl rfl (zP rfl) (zG 1 rfl rfl rfl (zP rfl) (zG 2 rfl rfl rfl (jA rfl F.fi49_0 F.ti3) (zG 7 rfl rfl rfl (jA rfl F.fi49_0 F.ti3) ?_))))
  refine qI 3 8 kr rfl rfl rfl rfl ?_ ?_
  ·refine zR rfl rfl F.one3 ?_
   refine zA (anb (qI 4 8 kr rfl rfl rfl rfl ?_ ?_))
   ·refine yD rfl rfl rfl hB hN hs1 om om ?_
    rintro s2 g1 hs2 hg1
    refine zA (anb (qI 5 8 kr rfl rfl rfl rfl ?_ ?_))
    ·refine jV (vs := [(0, _), (1, _), (2, _), (3, _)]) rfl rfl Try.underlying22 F.ti3 rfl rfl rfl ?_
     intro b13
     refine zA (anb (qI 6 8 kr rfl rfl rfl rfl ?_ ?_))
     ·refine vU [0, 1, 1, g1] rfl rfl rfl hB hN hs2 om (by simp) (by simp) (InB.mem (b := b13)) ?_
      rintro s3 gn hs3 hgn
      simp only [List.mem_cons, List.not_mem_nil, or_false] at hgn
      exact zA (anb (an1 8 rfl (zR rfl rfl F.one3 (zA (anb (zG 9 rfl rfl rfl (jA rfl F.fi49_1 F.ti3) (an1 10 rfl (zH rfl rfl F.ti3 rfl (zA (anb (zG 11 rfl rfl rfl (jA rfl F.fi49_2 F.ti3) (an1 12 rfl (zH rfl rfl F.ti3 rfl (zA (anb (adn (jS (s3, gn) ⟨hs3, by dsimp only; omega⟩ sbn pkk)))))))))))))))))
     ·refine zR rfl rfl F.one3 (zA (anb (an1 6 rfl (vU [0, 1, 1, g1] rfl rfl rfl hB hN hs2 om (by simp) (by simp) (InB.mem (b := b13)) ?_))))
      rintro s3 gn hs3 hgn
      simp only [List.mem_cons, List.not_mem_nil, or_false] at hgn
      exact zA (anb (zG 9 rfl rfl rfl (jA rfl F.fi49_1 F.ti3) (an1 10 rfl (zH rfl rfl F.ti3 rfl (zA (anb (zG 11 rfl rfl rfl (jA rfl F.fi49_2 F.ti3) (an1 12 rfl (zH rfl rfl F.ti3 rfl (zA (anb (adn (jS (s3, gn) ⟨hs3, by dsimp only; omega⟩ sbn pkk)))))))))))))
    ·refine zR rfl rfl F.one3 (zA (anb (an1 5 rfl (jV (vs := [(0, _), (1, _), (2, _), (3, _)]) rfl rfl Try.underlying22 F.ti3 rfl rfl rfl ?_))))
     intro b13
     refine zA (anb (an1 6 rfl (vU [0, 1, 1, g1] rfl rfl rfl hB hN hs2 om (by simp) (by simp) (InB.mem (b := b13)) ?_)))
     rintro s3 gn hs3 hgn
     simp only [List.mem_cons, List.not_mem_nil, or_false] at hgn
     exact zA (anb (zG 9 rfl rfl rfl (jA rfl F.fi49_1 F.ti3) (an1 10 rfl (zH rfl rfl F.ti3 rfl (zA (anb (zG 11 rfl rfl rfl (jA rfl F.fi49_2 F.ti3) (an1 12 rfl (zH rfl rfl F.ti3 rfl (zA (anb (adn (jS (s3, gn) ⟨hs3, by dsimp only; omega⟩ sbn pkk)))))))))))))
   ·refine zR rfl rfl F.one3 (zA (anb (an1 4 rfl (yD rfl rfl rfl hB hN hs1 om om ?_))))
    rintro s2 g1 hs2 hg1
    refine zA (anb (an1 5 rfl (jV (vs := [(0, _), (1, _), (2, _), (3, _)]) rfl rfl Try.underlying22 F.ti3 rfl rfl rfl ?_)))
    intro b13
    refine zA (anb (an1 6 rfl (vU [0, 1, 1, g1] rfl rfl rfl hB hN hs2 om (by simp) (by simp) (InB.mem (b := b13)) ?_)))
    rintro s3 gn hs3 hgn
    simp only [List.mem_cons, List.not_mem_nil, or_false] at hgn
    exact zA (anb (zG 9 rfl rfl rfl (jA rfl F.fi49_1 F.ti3) (an1 10 rfl (zH rfl rfl F.ti3 rfl (zA (anb (zG 11 rfl rfl rfl (jA rfl F.fi49_2 F.ti3) (an1 12 rfl (zH rfl rfl F.ti3 rfl (zA (anb (adn (jS (s3, gn) ⟨hs3, by dsimp only; omega⟩ sbn pkk)))))))))))))
  ·refine zR rfl rfl F.one3 (zA (anb (an1 3 rfl (zR rfl rfl F.one3 (zA (anb (an1 4 rfl (yD rfl rfl rfl hB hN hs1 om om ?_))))))))
   rintro s2 g1 hs2 hg1
   refine zA (anb (an1 5 rfl (jV (vs := [(0, _), (1, _), (2, _), (3, _)]) rfl rfl Try.underlying22 F.ti3 rfl rfl rfl ?_)))
   intro b13
   refine zA (anb (an1 6 rfl (vU [0, 1, 1, g1] rfl rfl rfl hB hN hs2 om (by simp) (by simp) (InB.mem (b := b13)) ?_)))
   rintro s3 gn hs3 hgn
   simp only [List.mem_cons, List.not_mem_nil, or_false] at hgn
   exact zA (anb (zG 9 rfl rfl rfl (jA rfl F.fi49_1 F.ti3) (an1 10 rfl (zH rfl rfl F.ti3 rfl (zA (anb (zG 11 rfl rfl rfl (jA rfl F.fi49_2 F.ti3) (an1 12 rfl (zH rfl rfl F.ti3 rfl (zA (anb (adn (jS (s3, gn) ⟨hs3, by dsimp only; omega⟩ sbn pkk)))))))))))))
 ·rintro ⟨s3, gn⟩ ⟨hs3, hgn⟩
  dsimp only at hs3 hgn ⊢
  refine zC (zD (zD (zB (zF rfl rfl (zEr rfl rfl rfl hB hN hs3 om om om ?_)))))
  rintro s4 sb hs4
  refine zA (zC (qD rfl (fun hc0 => ?_) (fun hc0 => ?_)))
  ·refine zB (zF rfl rfl (zL rfl rfl F.fi49_0 F.ti3 (zR rfl rfl F.one3 (yD rfl rfl rfl hB hN hs4 om om ?_))))
   rintro s5 nw hs5 hnw
   refine zL rfl rfl F.fi49_2 F.ti3 (zH rfl rfl F.ti3 rfl (zA (zC (zD (zB (zF rfl rfl (zEr rfl rfl rfl hB hN hs5 om om om ?_)))))))
   rintro s6 wb hs6
   exact zL rfl rfl F.fi49_3 F.ti4 (zH rfl rfl F.ti4 rfl (zA (zC (zD (zB (jE rfl rfl F.agg49 F.ti49 (zH rfl rfl F.ti49 rfl (zA (zC (zY (jJ rfl (fun a w ha => by exact xC (ha := ha) rfl rfl F.agg49 F.ti49 rfl) (fun _ _ ha' => ⟨tk + 1 + 1 + 1 + 1 + 1 + 1, s6, ⟨pw, gn, nw, wb⟩, by omega, hs6, ⟨by show 1 <= pw; omega, by show pw <= 4; omega, by show gn <= pw; omega, by show nw <= pw; omega⟩, rfl, ha.back (ha'.pck pkk)⟩))))))))))))
  ·refine zQ (zC (zD (zB (zF rfl rfl (zEr rfl rfl rfl hB hN hs4 om om om ?_)))))
   rintro s6 wb hs6
   exact zL rfl rfl F.fi49_3 F.ti4 (zH rfl rfl F.ti4 rfl (zA (zC (zD (zB (jE rfl rfl F.agg49 F.ti49 (zH rfl rfl F.ti49 rfl (zA (zC (zY (jJ rfl (fun a w ha => by exact xC (ha := ha) rfl rfl F.agg49 F.ti49 rfl) (fun _ _ ha' => ⟨tk + 1 + 1 + 1 + 1 + 1, s6, ⟨pw, gn, pw, wb⟩, by omega, hs6, ⟨by show 1 <= pw; omega, by show pw <= 4; omega, by show gn <= pw; omega, by show pw <= pw; omega⟩, rfl, ha.back (ha'.pck pkk)⟩))))))))))))

theorem zUm (hC : C.P = Try.prog) {hb tk st nc : Nat} {nA : Option Addr} {nums : List Int} (hB : C.w0.heap.size = C.B) (hN : RdL icell 1 C.w0 nA nums) (htk : tk <= 800000) (hst : st < 18446744073709551616) {nf ny : Nat} (hf1 : 1 <= nf) (hf3 : nf <= 3) (hy1 : 1 <= ny) (hy4 : ny <= 4) (ha : At C fr (.blk hb (hatO nA nums.length nc (tk) (st)) :: T) a w) : Calls C.P 14 #[pt hb, .int .i64 (nf : Int), .int .i64 (ny : Int)] w fun e w' => ∃ (tk' st' kiln : Nat) (fs : List Flt) (days : List Nat) (A D : Option Addr) (c dc : Nat), tk' <= tk + 100 ∧ st' < 18446744073709551616 ∧ fs.length <= nf ∧ days.length <= ny ∧ ChV fs kiln days ∧ e = .returned (.agg [.slice A fs.length c, .int .i64 (kiln : Int), .slice D days.length dc].toArray) ∧ At C fr (.row 49 4 A fs.length c (fs.flatMap Flt.cells) :: .row 3 1 D days.length dc (ints days) :: .blk hb (hatO nA nums.length nc (tk') (st')) :: T) a w' := by
 obtain ⟨P, B, w0, N0, ds⟩ := C
 obtain rfl : P = Try.prog := hC
 (try dsimp only at hB)
 (try dsimp only at hN)
 refine yJ (N := 59) [(0, pt hb), (1, .int .i64 (nf : Int)), (2, .int .i64 (ny : Int))] ha Try.func14 rfl Try.ntmps14 rfl rfl (zD (zB (zX rfl F.ti27 ?_)))
 intro b6
 refine zA (zC (zD (zB (zF rfl rfl (jV (vs := [(0, _), (1, _), (2, _), (3, _)]) rfl rfl Try.underlying22 F.ti3 rfl rfl rfl ?_)))))
 intro b13
 refine vU [0, 1, 1, 2] rfl rfl rfl hB hN hst om (by simp) (by simp) (InB.mem (b := b13)) ?_
 rintro s0 kiln hs0 hkiln
 simp only [List.mem_cons, List.not_mem_nil, or_false] at hkiln
 refine kG (vs := [(1, _)]) (l' := [_, _, _]) rfl rfl F.ti27 F.pl27 (.cons rfl rfl (.nil _)) rfl (zX rfl F.ti27 ?_)
 intro b7
 refine zH rfl rfl F.ti27 rfl (zA (zC (zD (zB (zE rfl rfl (zA (zC (zD (zD (zB (zF rfl rfl (zF rfl rfl (zLz (lo := 1) (hi := nf) rfl rfl rfl hB hN hs0 om om om ?_)))))))))))))
 rintro s1 n0 hs1 hn0a hn0b
 refine zE rfl rfl (zA (zC (zS (zA5 49 4 (qW (G := Nat × Nat × Nat × Option Addr × Nat × List Flt × Nat) (fun g => g.1 + g.2.2.2.2.2.1.length = n0 ∧ (∀ x ∈ g.2.2.2.2.2.1, FltOk x) ∧ g.2.1 <= tk + 2 + 10 * g.2.2.2.2.2.1.length ∧ g.2.2.1 < 18446744073709551616 ∧ g.2.2.2.2.2.2 <= 4 * g.2.2.2.2.2.1.length) (fun g => g.1) (fun g => [(0, pt hb), (1, .int .i64 (nf : Int)), (2, .int .i64 (ny : Int)), (6, pt b6), (7, pt b7), (8, .int .i64 (g.2.2.2.2.2.2 : Int)), (9, .int .i64 (g.1 : Int))]) (fun g => .row 49 4 g.2.2.2.1 g.2.2.2.2.2.1.length g.2.2.2.2.1 (g.2.2.2.2.2.1.flatMap Flt.cells) :: .blk b7 (.cells [.slice g.2.2.2.1 g.2.2.2.2.2.1.length g.2.2.2.2.1, .int .i64 (kiln : Int), .slice none 0 0].toArray 27 (0, 0)) :: .blk b6 (.cells [.slice none 0 0, .int .i64 0, .slice none 0 0].toArray 27 (0, 0)) :: .blk hb (hatO nA nums.length nc (g.2.1) (g.2.2.1)) :: T) (n0, tk + 1 + 1, s1, none, 0, [], 0) ⟨by simp, by simp, by simp, hs1, by simp⟩ sbn pkk ?_)))))
 rintro ⟨i, t1, s2, A1, c1, fs, sm⟩ ⟨hil, hlo, ht1, hs2, hsm⟩
 (try dsimp only at hil hlo ht1 hs2 hsm ⊢)
 refine zD (zD (zB (zF rfl rfl (zI rfl rfl rfl zCi ?_))))
 refine zA (zC (zN rfl (fun hc0 => ?_) (fun hc0 => ?_)))
 ·obtain ⟨i, rfl⟩ : ∃ i', i = i' + 1 := ⟨i - 1, by omega⟩
  refine zQ (zC (zD (zS (zD (zB (zF rfl rfl (wI (X := Nat × Nat × Flt) (vs := [_]) hb (fun y => hatO nA nums.length nc (y.1) (y.2.1)) (fun y => y.1 <= t1 + 10 ∧ y.2.1 < 18446744073709551616 ∧ FltOk y.2.2) (fun y => .agg [.int .i64 (y.2.2.power : Int), .int .i64 (y.2.2.gain : Int), .int .i64 (y.2.2.now : Int), .bool y.2.2.washed].toArray) rfl rfl F.ent27 (fun a w ha => (zQf (C := ⟨Try.prog, B, w0, _, _⟩) rfl hB hN (tk := t1) (st := s2) om hs2 ha).mono (fun e w' h => by obtain ⟨t', s', x, h1, h2, h3, h4, h5⟩ := h; exact ⟨(t', s', x), ⟨h1, h2, h3⟩, h4, h5⟩)) ?_)))))))
  rintro ⟨t2, s3, ⟨pw, gn, nw, wd⟩⟩ ⟨ht2, hs3, hfo⟩
  dsimp only at ht2 hs3 hfo ⊢
  refine zX rfl F.ti49 ?_
  intro b10
  refine zH rfl rfl F.ti49 rfl ?_
  refine zA (zC (xK (G := Option Addr × Nat) (fun _ => True) (fun x => [(0, pt hb), (1, .int .i64 (nf : Int)), (2, .int .i64 (ny : Int)), (6, pt b6), (7, pt b7), (8, .int .i64 ((sm + pw : Nat) : Int)), (9, .int .i64 ((i + 1 : Nat) : Int))]) (fun x => .row 49 4 x.1 (fs.length + 1) x.2 (fs.flatMap Flt.cells ++ [.int .i64 (pw : Int), .int .i64 (gn : Int), .int .i64 (nw : Int), .bool wd]) :: .blk b7 (.cells [.slice x.1 (fs.length + 1) x.2, .int .i64 (kiln : Int), .slice none 0 0].toArray 27 (0, 0)) :: .blk b6 (.cells [.slice none 0 0, .int .i64 0, .slice none 0 0].toArray 27 (0, 0)) :: .blk hb (hatO nA nums.length nc (t2) (s3)) :: T) ?_ ?_))
  ·refine kD [.b b7, .r A1] F.follows 12 rfl [false, false, false, false, false, false, false, false, false, false, false, false] rfl ?_
   have hpw4 : pw <= 4 := hfo.2.1
   refine zG 0 rfl rfl rfl (jA rfl F.fi27_0 F.ti25) (zG 2 rfl rfl rfl (qL rfl F.agg49 F.ti49) (zG 5 rfl rfl rfl (zP rfl) (zG 6 rfl rfl rfl (jA rfl F.fi49_0 F.ti3) (zG 7 rfl rfl rfl (kH rfl F.one3) (zG 8 rfl rfl rfl (kS (v := .int .i64 ((sm + pw : Nat) : Int)) rfl rfl (fun w => jK w (zT _ om om))) ?_)))))
   refine qI 1 3 kr rfl rfl rfl rfl ?_ ?_
   ·refine zR rfl rfl F.one25 (zA (anb (an1 3 rfl (yV (vs := [(0, .agg ([.int .i64 (pw : Int), .int .i64 (gn : Int), .int .i64 (nw : Int), .bool wd] : List Value).toArray)]) [.int .i64 (pw : Int), .int .i64 (gn : Int), .int .i64 (nw : Int), .bool wd] rfl rfl Try.underlying25 F.ti49 rfl rfl rfl (Lit.agg (l1 := [.int .i64 (pw : Int), .int .i64 (gn : Int), .int .i64 (nw : Int), .bool wd]) (l := []) rfl rfl) ?_))))
    intro b28
    refine zA (anb (an1 4 rfl (kL rfl rfl rfl Try.underlying25 F.ti49 rfl rfl rfl (by unfold maxLen; omega) om ?_)))
    intro A2 c2
    exact zA (anb (zG 9 rfl rfl rfl (jA rfl F.fi27_0 F.ti25) (an1 10 rfl (zH rfl rfl F.ti25 rfl (zA (anb (zG 11 rfl rfl rfl (jZ rfl) (adn (jS (A2, c2) trivial sbn pkk)))))))))
   ·refine yV (vs := [(0, .agg ([.int .i64 (pw : Int), .int .i64 (gn : Int), .int .i64 (nw : Int), .bool wd] : List Value).toArray)]) [.int .i64 (pw : Int), .int .i64 (gn : Int), .int .i64 (nw : Int), .bool wd] rfl rfl Try.underlying25 F.ti49 rfl rfl rfl (Lit.agg (l1 := [.int .i64 (pw : Int), .int .i64 (gn : Int), .int .i64 (nw : Int), .bool wd]) (l := []) rfl rfl) ?_
    intro b28
    refine zA (anb (an1 1 rfl (zR rfl rfl F.one25 (zA (anb (an1 4 rfl (kL rfl rfl rfl Try.underlying25 F.ti49 rfl rfl rfl (by unfold maxLen; omega) om ?_)))))))
    intro A2 c2
    exact zA (anb (zG 9 rfl rfl rfl (jA rfl F.fi27_0 F.ti25) (an1 10 rfl (zH rfl rfl F.ti25 rfl (zA (anb (zG 11 rfl rfl rfl (jZ rfl) (adn (jS (A2, c2) trivial sbn pkk)))))))))
  ·rintro ⟨A2, c2⟩ -
   have hpw4 : pw <= 4 := hfo.2.1
   (try dsimp only)
   refine zJ (zC (zB (zF rfl rfl (zI rfl rfl rfl (fun w => xZ w (show IntKind.i64.wrap (((i + 1 : Nat) : Int) - 1) = (i : Int) from by rw [zT _ om om]; omega)) (zE rfl rfl (zA (kP (i, t2, s3, A2, c2, fs ++ [⟨pw, gn, nw, wd⟩], sm + pw) ⟨by simp; omega, fun y hy => ?_, by simp; omega, hs3, by simp; omega⟩ tdo (by dsimp only; (try rw [List.length_append, List.length_singleton]); repeat (first | exact Sub.nil _ | refine Sub.cons rfl ?_)) (by dsimp only; rw [List.length_append, List.length_singleton]; rw [List.flatMap_append, List.flatMap_singleton]; repeat (first | exact Pck.nil _ | exact Pck.refl _ | (apply Pck.cons; focus ((repeat (first | exact Rem.here _ | apply Rem.there)); done)) | refine Pck.skip _ ?_)))))))))
   rcases List.mem_append.1 hy with h | h
   ·exact hlo y h
   ·simp at h; subst h; exact hfo
 ·obtain rfl : i = 0 := by omega
  have hn0 : fs.length = n0 := by omega
  have hfl1 : 1 <= fs.length := by omega
  have hfl2 : fs.length <= nf := by omega
  refine jU (zO (zO (jF (zC (zD (zD (zB (zF rfl rfl (zF rfl rfl (zLz (lo := 1) (hi := ny) rfl rfl rfl hB hN hs2 om om om ?_))))))))))
  rintro s4 m0 hs4 hm0a hm0b
  refine zE rfl rfl (zA (zC (zS (zA5 3 1 (qW (G := Nat × Nat × Nat × Option Addr × Nat × List Nat) (fun g => g.1 + g.2.2.2.2.2.length = m0 ∧ (∀ x ∈ g.2.2.2.2.2, x <= 12) ∧ g.2.1 <= t1 + 1 + 3 * g.2.2.2.2.2.length ∧ g.2.2.1 < 18446744073709551616) (fun g => g.1) (fun g => [(0, pt hb), (1, .int .i64 (nf : Int)), (2, .int .i64 (ny : Int)), (6, pt b6), (7, pt b7), (8, .int .i64 (sm : Int)), (11, .int .i64 (g.1 : Int))]) (fun g => .row 3 1 g.2.2.2.1 g.2.2.2.2.2.length g.2.2.2.2.1 (ints g.2.2.2.2.2) :: .row 49 4 A1 fs.length c1 (fs.flatMap Flt.cells) :: .blk b7 (.cells [.slice A1 fs.length c1, .int .i64 (kiln : Int), .slice g.2.2.2.1 g.2.2.2.2.2.length g.2.2.2.2.1].toArray 27 (0, 0)) :: .blk b6 (.cells [.slice none 0 0, .int .i64 0, .slice none 0 0].toArray 27 (0, 0)) :: .blk hb (hatO nA nums.length nc (g.2.1) (g.2.2.1)) :: T) (m0, t1 + 1, s4, none, 0, []) ⟨by simp, by simp, by simp, hs4⟩ sbn pkk ?_)))))
  rintro ⟨i, t3, s5, A3, c3, ds⟩ ⟨hjl, hdo, ht3, hs5⟩
  (try dsimp only at hjl hdo ht3 hs5 ⊢)
  refine zD (zD (zB (zF rfl rfl (zI rfl rfl rfl zCi ?_))))
  refine zA (zC (zN rfl (fun hc1 => ?_) (fun hc1 => ?_)))
  ·obtain ⟨i, rfl⟩ : ∃ i', i = i' + 1 := ⟨i - 1, by omega⟩
   refine zQ (zC (zD (zS (xK (G := Option Addr × Nat × Nat × Nat) (fun x => x.2.2.1 < 18446744073709551616 ∧ x.2.2.2 <= 12) (fun x => [(0, pt hb), (1, .int .i64 (nf : Int)), (2, .int .i64 (ny : Int)), (6, pt b6), (7, pt b7), (8, .int .i64 (sm : Int)), (11, .int .i64 ((i + 1 : Nat) : Int))]) (fun x => .row 3 1 x.1 (ds.length + 1) x.2.1 (ints ds ++ [.int .i64 (x.2.2.2 : Int)]) :: .row 49 4 A1 fs.length c1 (fs.flatMap Flt.cells) :: .blk b7 (.cells [.slice A1 fs.length c1, .int .i64 (kiln : Int), .slice x.1 (ds.length + 1) x.2.1].toArray 27 (0, 0)) :: .blk b6 (.cells [.slice none 0 0, .int .i64 0, .slice none 0 0].toArray 27 (0, 0)) :: .blk hb (hatO nA nums.length nc (t3 + 1 + 1 + 1) (x.2.2.1)) :: T) ?_ ?_))))
   ·refine kD [.b b7, .b hb, .r A3] F.follows 17 rfl [false, false, false, false, false, false, false, false, false, false, false, false, false, false, false, false, false] rfl (zG 0 rfl rfl rfl (jA rfl F.fi27_2 F.ti22) (zG 2 rfl rfl rfl (zP rfl) (zG 3 rfl rfl rfl (zP rfl) (zG 4 rfl rfl rfl (zP rfl) (zG 5 rfl rfl rfl (kS (v := .int .i64 ((sm / 2 : Nat) : Int)) rfl rfl (fun w => zJs w om (by rw [show ((sm : Int).tdiv 2) = ((sm / 2 : Nat) : Int) from (Int.ofNat_tdiv sm 2).symm]; exact zT _ om om))) (zG 8 rfl rfl rfl (zP rfl) (zG 9 rfl rfl rfl (zP rfl) ?_)))))))
    refine qI 1 6 kr rfl rfl rfl rfl ?_ ?_
    ·refine zR rfl rfl F.one22 (zA (anb (an1 6 rfl (zOk rfl rfl rfl ?_))))
     rw [show (if (1 : Int) < ((sm / 2 : Nat) : Int) then ((sm / 2 : Nat) : Int) else 1) = ((max 1 (sm / 2) : Nat) : Int) from by split <;> omega]
     refine zA (anb (an1 7 rfl (yD rfl rfl rfl hB hN hs5 om om ?_)))
     rintro s6 y1 hs6 hy1
     refine zA (anb (an1 10 rfl (yD rfl rfl rfl hB hN hs6 om om ?_)))
     rintro s7 y2 hs7 hy2
     refine zA (anb (an1 11 rfl (jV (vs := [(0, _), (1, _), (2, _), (3, _), (4, _)]) rfl rfl Try.underlying22 F.ti3 rfl rfl rfl ?_)))
     intro b53
     refine zA (anb (an1 12 rfl (vU [0, 1, 2, y1, y2] rfl rfl rfl hB hN hs7 om (by simp) (by simp) (InB.mem (b := b53)) ?_)))
     rintro s8 d1 hs8 hd1
     simp only [List.mem_cons, List.not_mem_nil, or_false] at hd1
     have hd12 : d1 <= 12 := by omega
     refine zA (anb (an1 13 rfl (jV (vs := [(0, _)]) rfl rfl Try.underlying22 F.ti3 rfl rfl rfl ?_)))
     intro b55
     refine zA (anb (an1 14 rfl (kL rfl rfl rfl Try.underlying22 F.ti3 rfl rfl rfl (by unfold maxLen; omega) om ?_)))
     intro A4 c4
     exact zA (anb (zG 15 rfl rfl rfl (jA rfl F.fi27_2 F.ti22) (an1 16 rfl (zH rfl rfl F.ti22 rfl (zA (anb (adn (jS (A4, c4, s8, d1) ⟨hs8, hd12⟩ sbn pkk))))))))
    ·refine zOk rfl rfl rfl ?_
     rw [show (if (1 : Int) < ((sm / 2 : Nat) : Int) then ((sm / 2 : Nat) : Int) else 1) = ((max 1 (sm / 2) : Nat) : Int) from by split <;> omega]
     refine zA (anb (qI 1 7 kr rfl rfl rfl rfl ?_ ?_))
     ·refine zR rfl rfl F.one22 (zA (anb (an1 7 rfl (yD rfl rfl rfl hB hN hs5 om om ?_))))
      rintro s6 y1 hs6 hy1
      refine zA (anb (an1 10 rfl (yD rfl rfl rfl hB hN hs6 om om ?_)))
      rintro s7 y2 hs7 hy2
      refine zA (anb (an1 11 rfl (jV (vs := [(0, _), (1, _), (2, _), (3, _), (4, _)]) rfl rfl Try.underlying22 F.ti3 rfl rfl rfl ?_)))
      intro b53
      refine zA (anb (an1 12 rfl (vU [0, 1, 2, y1, y2] rfl rfl rfl hB hN hs7 om (by simp) (by simp) (InB.mem (b := b53)) ?_)))
      rintro s8 d1 hs8 hd1
      simp only [List.mem_cons, List.not_mem_nil, or_false] at hd1
      have hd12 : d1 <= 12 := by omega
      refine zA (anb (an1 13 rfl (jV (vs := [(0, _)]) rfl rfl Try.underlying22 F.ti3 rfl rfl rfl ?_)))
      intro b55
      refine zA (anb (an1 14 rfl (kL rfl rfl rfl Try.underlying22 F.ti3 rfl rfl rfl (by unfold maxLen; omega) om ?_)))
      intro A4 c4
      exact zA (anb (zG 15 rfl rfl rfl (jA rfl F.fi27_2 F.ti22) (an1 16 rfl (zH rfl rfl F.ti22 rfl (zA (anb (adn (jS (A4, c4, s8, d1) ⟨hs8, hd12⟩ sbn pkk))))))))
     ·refine yD rfl rfl rfl hB hN hs5 om om ?_
      rintro s6 y1 hs6 hy1
      refine zA (anb (qI 1 10 kr rfl rfl rfl rfl ?_ ?_))
      ·refine zR rfl rfl F.one22 (zA (anb (an1 10 rfl (yD rfl rfl rfl hB hN hs6 om om ?_))))
       rintro s7 y2 hs7 hy2
       refine zA (anb (an1 11 rfl (jV (vs := [(0, _), (1, _), (2, _), (3, _), (4, _)]) rfl rfl Try.underlying22 F.ti3 rfl rfl rfl ?_)))
       intro b53
       refine zA (anb (an1 12 rfl (vU [0, 1, 2, y1, y2] rfl rfl rfl hB hN hs7 om (by simp) (by simp) (InB.mem (b := b53)) ?_)))
       rintro s8 d1 hs8 hd1
       simp only [List.mem_cons, List.not_mem_nil, or_false] at hd1
       have hd12 : d1 <= 12 := by omega
       refine zA (anb (an1 13 rfl (jV (vs := [(0, _)]) rfl rfl Try.underlying22 F.ti3 rfl rfl rfl ?_)))
       intro b55
       refine zA (anb (an1 14 rfl (kL rfl rfl rfl Try.underlying22 F.ti3 rfl rfl rfl (by unfold maxLen; omega) om ?_)))
       intro A4 c4
       exact zA (anb (zG 15 rfl rfl rfl (jA rfl F.fi27_2 F.ti22) (an1 16 rfl (zH rfl rfl F.ti22 rfl (zA (anb (adn (jS (A4, c4, s8, d1) ⟨hs8, hd12⟩ sbn pkk))))))))
      ·refine yD rfl rfl rfl hB hN hs6 om om ?_
       rintro s7 y2 hs7 hy2
       refine zA (anb (qI 1 11 kr rfl rfl rfl rfl ?_ ?_))
       ·refine zR rfl rfl F.one22 (zA (anb (an1 11 rfl (jV (vs := [(0, _), (1, _), (2, _), (3, _), (4, _)]) rfl rfl Try.underlying22 F.ti3 rfl rfl rfl ?_))))
        intro b53
        refine zA (anb (an1 12 rfl (vU [0, 1, 2, y1, y2] rfl rfl rfl hB hN hs7 om (by simp) (by simp) (InB.mem (b := b53)) ?_)))
        rintro s8 d1 hs8 hd1
        simp only [List.mem_cons, List.not_mem_nil, or_false] at hd1
        have hd12 : d1 <= 12 := by omega
        refine zA (anb (an1 13 rfl (jV (vs := [(0, _)]) rfl rfl Try.underlying22 F.ti3 rfl rfl rfl ?_)))
        intro b55
        refine zA (anb (an1 14 rfl (kL rfl rfl rfl Try.underlying22 F.ti3 rfl rfl rfl (by unfold maxLen; omega) om ?_)))
        intro A4 c4
        exact zA (anb (zG 15 rfl rfl rfl (jA rfl F.fi27_2 F.ti22) (an1 16 rfl (zH rfl rfl F.ti22 rfl (zA (anb (adn (jS (A4, c4, s8, d1) ⟨hs8, hd12⟩ sbn pkk))))))))
       ·refine jV (vs := [(0, _), (1, _), (2, _), (3, _), (4, _)]) rfl rfl Try.underlying22 F.ti3 rfl rfl rfl ?_
        intro b53
        refine zA (anb (qI 1 12 kr rfl rfl rfl rfl ?_ ?_))
        ·refine zR rfl rfl F.one22 (zA (anb (an1 12 rfl (vU [0, 1, 2, y1, y2] rfl rfl rfl hB hN hs7 om (by simp) (by simp) (InB.mem (b := b53)) ?_))))
         rintro s8 d1 hs8 hd1
         simp only [List.mem_cons, List.not_mem_nil, or_false] at hd1
         have hd12 : d1 <= 12 := by omega
         refine zA (anb (an1 13 rfl (jV (vs := [(0, _)]) rfl rfl Try.underlying22 F.ti3 rfl rfl rfl ?_)))
         intro b55
         refine zA (anb (an1 14 rfl (kL rfl rfl rfl Try.underlying22 F.ti3 rfl rfl rfl (by unfold maxLen; omega) om ?_)))
         intro A4 c4
         exact zA (anb (zG 15 rfl rfl rfl (jA rfl F.fi27_2 F.ti22) (an1 16 rfl (zH rfl rfl F.ti22 rfl (zA (anb (adn (jS (A4, c4, s8, d1) ⟨hs8, hd12⟩ sbn pkk))))))))
        ·refine vU [0, 1, 2, y1, y2] rfl rfl rfl hB hN hs7 om (by simp) (by simp) (InB.mem (b := b53)) ?_
         rintro s8 d1 hs8 hd1
         simp only [List.mem_cons, List.not_mem_nil, or_false] at hd1
         have hd12 : d1 <= 12 := by omega
         refine zA (anb (qI 1 13 kr rfl rfl rfl rfl ?_ ?_))
         ·refine zR rfl rfl F.one22 (zA (anb (an1 13 rfl (jV (vs := [(0, _)]) rfl rfl Try.underlying22 F.ti3 rfl rfl rfl ?_))))
          intro b55
          refine zA (anb (an1 14 rfl (kL rfl rfl rfl Try.underlying22 F.ti3 rfl rfl rfl (by unfold maxLen; omega) om ?_)))
          intro A4 c4
          exact zA (anb (zG 15 rfl rfl rfl (jA rfl F.fi27_2 F.ti22) (an1 16 rfl (zH rfl rfl F.ti22 rfl (zA (anb (adn (jS (A4, c4, s8, d1) ⟨hs8, hd12⟩ sbn pkk))))))))
         ·refine jV (vs := [(0, _)]) rfl rfl Try.underlying22 F.ti3 rfl rfl rfl ?_
          intro b55
          refine zA (anb (an1 1 rfl (zR rfl rfl F.one22 (zA (anb (an1 14 rfl (kL rfl rfl rfl Try.underlying22 F.ti3 rfl rfl rfl (by unfold maxLen; omega) om ?_)))))))
          intro A4 c4
          exact zA (anb (zG 15 rfl rfl rfl (jA rfl F.fi27_2 F.ti22) (an1 16 rfl (zH rfl rfl F.ti22 rfl (zA (anb (adn (jS (A4, c4, s8, d1) ⟨hs8, hd12⟩ sbn pkk))))))))
   ·rintro ⟨A4, c4, s8, d1⟩ ⟨hs8, hd12⟩
    dsimp only at hs8 hd12 ⊢
    refine zJ (zC (zB (zF rfl rfl (zI rfl rfl rfl (fun w => xZ w (show IntKind.i64.wrap (((i + 1 : Nat) : Int) - 1) = (i : Int) from by rw [zT _ om om]; omega)) (zE rfl rfl (zA (kP (i, t3 + 1 + 1 + 1, s8, A4, c4, ds ++ [d1]) ⟨by simp; omega, fun y hy => ?_, by simp; omega, hs8⟩ tdo (by dsimp only; (try rw [List.length_append, List.length_singleton]); repeat (first | exact Sub.nil _ | refine Sub.cons rfl ?_)) (by dsimp only; rw [List.length_append, List.length_singleton]; rw [zDa]; repeat (first | exact Pck.nil _ | exact Pck.refl _ | (apply Pck.cons; focus ((repeat (first | exact Rem.here _ | apply Rem.there)); done)) | refine Pck.skip _ ?_)))))))))
    rcases List.mem_append.1 hy with h | h
    ·exact hdo y h
    ·simp at h; subst h; exact hd12
  ·obtain rfl : i = 0 := by omega
   exact jU (zO (zO (jF (zC (zD (zB (jE rfl rfl F.agg27 F.ti27 (zH rfl rfl F.ti27 rfl (zA (zC (zY (jJ rfl (fun a w ha => by exact xC (ha := ha) rfl rfl F.agg27 F.ti27 rfl) (fun _ _ ha' => ⟨t3, s5, kiln, fs, ds, A1, A3, c1, c3, by omega, hs5, hfl2, by omega, ⟨hfl1, by omega, hlo, by omega, by omega, by omega, hdo⟩, rfl, ha.back (ha'.pck pkk)⟩)))))))))))))

end Go.Proofs.Yteppiphdbondeaa.N
namespace Go.Proofs.Yteppiphdbondeaa.N
open Go Go.RowKit Go.Proofs
set_option linter.unusedSectionVars false
variable [I : Sys]
variable {C : Ctx} {fr : List (Nat × Value)} {hp : List Res} {ops : Array Oper} {Q : Exit -> Act -> World -> Prop} {rest : List Oper} {d : Nat} {ty : TypeId} {pos : String} {after : Array Edge}
variable {size : Nat} {α : Type}
theorem zDj {cells : α -> List Value} (hs : ∀ x, (cells x).length = size) (l : List α) : (l.flatMap cells).length = l.length * size := by
 induction l with
 | nil => simp
 | cons x l ih => rw [List.flatMap_cons, List.length_append, hs, ih, List.length_cons, Nat.succ_mul]; omega
theorem RdL.cells_at {cells : α -> List Value} (hs : ∀ x, (cells x).length = size) (h0 : 0 < size) {w : World} {p : Addr} {l : List α} (h : RdL cells size w (some p) l) {j : Nat} {u : Value} (hu : (l.flatMap cells)[j]? = some u) : w.cell? (p.add j) = some u := by
 have hj : j < l.length * size := by
  rw [<- zDj hs]
  rcases Nat.lt_or_ge j (l.flatMap cells).length with h1 | h1
  ·exact h1
  ·rw [List.getElem?_eq_none h1] at hu; cases hu
 have hk : j / size < l.length := Nat.div_lt_of_lt_mul (by rw [Nat.mul_comm]; exact hj)
 obtain ⟨b, o, h1, _, h3⟩ := h (Nat.lt_of_le_of_lt (Nat.zero_le _) hk)
 cases h1
 have hd := Nat.div_add_mod j size
 rw [Nat.mul_comm] at hd
 have hm : j % size < size := Nat.mod_lt _ h0
 have hx : l[j / size]? = some l[j / size] := List.getElem?_eq_getElem hk
 have hjs : j % size < (cells l[j / size]).length := by rw [hs]; exact hm
 have hc : (cells l[j / size])[j % size]? = some (cells l[j / size])[j % size] := List.getElem?_eq_getElem hjs
 have h4 := zDk hs l _ _ hx _ _ hc
 rw [hd, hu] at h4
 have h5 := h3 _ _ hx _ _ hc
 rw [xE]
 rw [Nat.add_assoc, hd] at h5
 rw [h5]
 exact h4.symm
theorem zH6 {cells : α -> List Value} {x y : Operand} {t e : TypeId} {A : Option Addr} {p : Addr} {n c m cb bytes : Nat} {xs : List Value} {l : List α} {z : Value} {hp' : Option Addr -> Nat -> List Res} (hd : Nat.blt d C.N = true)
  (hx : ev fr x = some (.slice A n c)) (hy : ev fr y = some (.slice (some p) m cb)) (ht : C.P.underlying t = some (.slice e)) (hi : TI C.P e z size bytes) (hzs : z.cells.size = size) (hs0 : Nat.blt 0 size = true) (hs : ∀ x, (cells x).length = size) (ho1 : ∀ x, ∀ u ∈ cells x, u.oneCell' = true)
  (hnews : ∀ a w, At C fr hp a w -> RdL cells size w (some p) l) (hl : l.length = m) [hr : InR A e size n c xs hp] [hu : ∀ A' c', UpR A e size n c xs (.row e size A' (n + m) c' (xs ++ l.flatMap cells)) hp (hp' A' c')]
  (h63 : n + m <= maxLen) (hbytes : (n + m) * bytes <= 140737488355328)
  (k : ∀ A' c', Lst C ops Q rest ((d, .slice A' (n + m) c') :: fr) (hp' A' c')) :
  Lst C ops Q (⟨some d, .call { callee := .builtin .append, args := #[x, y], argTypes := #[t, t] }, ty, pos, after, none⟩ :: rest) fr hp := by
 have ho : ∀ u ∈ l.flatMap cells, u.oneCell' = true := by
  intro u hu'
  obtain ⟨x, _, hx⟩ := List.mem_flatMap.1 hu'
  exact ho1 x u hx
 have hi' := hi
 obtain ⟨i, hi1, hi2, hi3, hi4⟩ := hi'
 have h0 := kC hs0
 subst hi4
 refine zFi hd hx hy ht hi hzs hs0 (fun a w ha j u hu => (hnews a w ha).cells_at hs h0 hu) (by rw [zDj hs, hl]) ho (fun w v' w' hown hn hrun => ?_) h63 hbytes k
 exact zCx ht hi1 hi2 (hi3 ▸ hown) (by rw [zDj hs, hi3, hl]) hn ho h63 hbytes hrun
end Go.Proofs.Yteppiphdbondeaa.N
namespace Go.Proofs.Yteppiphdbondeaa.N
open Go Go.RowKit Go.Proofs
set_option linter.unusedSectionVars false
variable {a b c d f : Nat} {l : List Nat} {m : Mor} {o x : Oc} {rec : Mor -> Oc}
theorem zGi {e : Nat} (h1 : cless a b c d = false) (h2 : cless c d e f = false) : cless a b e f = false := by
 unfold cless at *
 simp only [decide_eq_false_iff_not, not_or, not_and] at *
 omega
theorem zE1 (a b : Nat) : cless a b a b = false := by
 unfold cless
 simp
theorem zYl (h : cless a b c d = true) : cless c d a b = false := by
 unfold cless at *
 simp only [decide_eq_true_eq, decide_eq_false_iff_not, not_or, not_and] at *
 omega
theorem zOo {x y : Nat} : cless (a + x) (b + y) (c + x) (d + y) = cless a b c d := by
 unfold cless
 rw [decide_eq_decide]
 omega
theorem zJg (o x : Oc) : (lst2 o x).is = (o.is || x.is) := by
 unfold lst2 oless
 cases ho : o.is <;> cases hx : x.is <;> simp [ho, hx] <;> split <;> simp_all
theorem zPv (o x : Oc) : lst2 o x = o ∨ lst2 o x = x ∧ x.is = true := by
 unfold lst2
 split
 ·rename_i h
  unfold oless at h
  exact .inr ⟨rfl, by simp at h; exact h.1⟩
 ·exact .inl rfl
theorem zUj (h : o.is = true) : cless o.f o.w (lst2 o x).f (lst2 o x).w = false := by
 unfold lst2
 split
 ·rename_i h2
  unfold oless at h2
  simp [h] at h2
  exact zYl h2.2
 ·exact zE1 ..
theorem zUb (h : x.is = true) : cless x.f x.w (lst2 o x).f (lst2 o x).w = false := by
 unfold lst2
 split
 ·exact zE1 ..
 ·rename_i h2
  unfold oless at h2
  simp [h] at h2
  exact h2.2
theorem zO7 (g : List Nat -> Oc) : ∀ (ls : List (List Nat)) (o : Oc), (ls.foldl (fun o l => lst2 o (g l)) o).is = (o.is || ls.any fun l => (g l).is)
 | [], o => by simp
 | l :: ls, o => by rw [List.foldl_cons, zO7 g ls, zJg, List.any_cons, Bool.or_assoc]
theorem zKx (g : List Nat -> Oc) : ∀ (ls : List (List Nat)) (o : Oc), ls.foldl (fun o l => lst2 o (g l)) o = o ∨ ∃ l ∈ ls, (g l).is = true ∧ ls.foldl (fun o l => lst2 o (g l)) o = g l
 | [], o => .inl rfl
 | l :: ls, o => by
  rw [List.foldl_cons]
  rcases zKx g ls (lst2 o (g l)) with h | ⟨x, hx, h1, h2⟩
  ·rw [h]
   rcases zPv o (g l) with h | ⟨h, h3⟩
   ·exact .inl h
   ·exact .inr ⟨l, by simp, h3, h⟩
  ·exact .inr ⟨x, by simp [hx], h1, h2⟩
theorem zMm (g : List Nat -> Oc) : ∀ (ls : List (List Nat)) (o : Oc), o.is = true -> cless o.f o.w (ls.foldl (fun o l => lst2 o (g l)) o).f (ls.foldl (fun o l => lst2 o (g l)) o).w = false
 | [], o, _ => zE1 ..
 | l :: ls, o, h => zGi (zUj h) (zMm g ls (lst2 o (g l)) (by rw [zJg, h]; rfl))
theorem zHs (g : List Nat -> Oc) : ∀ (ls : List (List Nat)) (o : Oc) (l : List Nat), l ∈ ls -> (g l).is = true -> cless (g l).f (g l).w (ls.foldl (fun o l => lst2 o (g l)) o).f (ls.foldl (fun o l => lst2 o (g l)) o).w = false
 | l :: ls, o, x, hx, h => by
  rw [List.foldl_cons]
  rcases List.mem_cons.1 hx with rfl | hx
  ·exact zGi (zUb h) (zMm g ls _ (by rw [zJg, h]; simp))
  ·exact zHs g ls _ x hx h
section
variable (alw : Nat -> List Nat -> Bool) (las : Mor -> Bool) (fs : List Flt) (kiln : Nat) (days : List Nat)
inductive Pth : Nat -> Mor -> List (List Nat) -> Nat -> Nat -> Prop
 | last {m : Mor} : las m = true -> Pth 0 m [] 0 0
 | day {n : Nat} {m m1 : Mor} {acts : List Nat} {p : List (List Nat)} {f w : Nat} : acts ∈ exts [] fs.length -> alw (days.length - (n + 1)) acts = true -> dayE fs kiln m acts (days.getD (days.length - (n + 1)) 0) = (0, m1) -> Pth n m1 p f w -> Pth (n + 1) m (acts :: p) (f + spF acts) (w + spW acts)
end
section
variable {alw : Nat -> List Nat -> Bool} {las : Mor -> Bool} {fs : List Flt} {kiln : Nat} {days : List Nat}
theorem zWh (h : (stpO alw fs kiln days rec d m l).is = true) :
  alw d l = true ∧ ∃ m1, dayE fs kiln m l (days.getD d 0) = (0, m1) ∧ (rec m1).is = true ∧ stpO alw fs kiln days rec d m l = ⟨(rec m1).f + spF l, (rec m1).w + spW l, true⟩ := by
 unfold stpO at h ⊢
 split at h
 ·cases h
 ·rename_i h1
  split at h
  ·cases h
  ·rename_i h2
   rw [if_neg h1, if_neg h2]
   refine ⟨by simpa using h1, _, Prod.ext (by simpa using h2) rfl, h, ?_⟩
   dsimp only at h
   rw [h]
theorem zGp {m1 : Mor} (h1 : alw d l = true) (h2 : dayE fs kiln m l (days.getD d 0) = (0, m1)) : stpO alw fs kiln days rec d m l = ⟨(rec m1).f + spF l, (rec m1).w + spW l, (rec m1).is⟩ := by
 unfold stpO
 rw [if_neg (by simp [h1]), if_neg (by rw [h2]; simp), h2]
theorem zA2 : ∀ (n : Nat) (m : Mor), (bstO alw las fs kiln days n m).is = true -> ∃ p, Pth alw las fs kiln days n m p (bstO alw las fs kiln days n m).f (bstO alw las fs kiln days n m).w
 | 0, m, h => ⟨[], .last h⟩
 | n + 1, m, h => by
  rcases zKx (fun l => stpO alw fs kiln days (bstO alw las fs kiln days n) (days.length - (n + 1)) m l) (exts [] fs.length) noOc with e | ⟨l, hl, h1, e⟩
  ·have e' : bstO alw las fs kiln days (n + 1) m = noOc := e
   rw [e'] at h
   cases h
  ·have e' : bstO alw las fs kiln days (n + 1) m = stpO alw fs kiln days (bstO alw las fs kiln days n) (days.length - (n + 1)) m l := e
   obtain ⟨h2, m1, h3, h4, h5⟩ := zWh h1
   rw [e', h5]
   obtain ⟨p, hp⟩ := zA2 n m1 h4
   exact ⟨l :: p, .day hl h2 h3 hp⟩
theorem zBu {n : Nat} {p : List (List Nat)} {w : Nat} (h : Pth alw las fs kiln days n m p f w) : (bstO alw las fs kiln days n m).is = true ∧ cless f w (bstO alw las fs kiln days n m).f (bstO alw las fs kiln days n m).w = false := by
 induction h with
 | last h => exact ⟨h, zE1 ..⟩
 | @day n m m1 acts p f w h1 h2 h3 h4 ih =>
  obtain ⟨i1, i2⟩ := ih
  have e := zGp (rec := bstO alw las fs kiln days n) h2 h3
  have his : (stpO alw fs kiln days (bstO alw las fs kiln days n) (days.length - (n + 1)) m acts).is = true := by rw [e]; exact i1
  constructor
  ·show ((exts [] fs.length).foldl (fun o l => lst2 o (stpO alw fs kiln days (bstO alw las fs kiln days n) (days.length - (n + 1)) m l)) noOc).is = true
   rw [zO7, List.any_eq_true.2 ⟨acts, h1, his⟩, Bool.or_true]
  ·refine zGi ?_ (zHs (fun l => stpO alw fs kiln days (bstO alw las fs kiln days n) (days.length - (n + 1)) m l) (exts [] fs.length) noOc acts h1 his)
   rw [e]
   dsimp only
   rw [zOo]
   exact i2
end
end Go.Proofs.Yteppiphdbondeaa.N
namespace Go.Proofs.Yteppiphdbondeaa.N
open Go Go.RowKit Go.Proofs
set_option linter.unusedSectionVars false
theorem zZ9 (x : Nat) : ∀ u ∈ ncell x, u.oneCell' = true := by
 intro u hu
 simp [ncell] at hu
 subst hu
 simp [Value.oneCell']
def oF (o : Oc) : Nat := if o.is then o.f else 0
def oE (o : Oc) : Nat := if o.is then 0 else 11
section
variable [I : Sys] {C : Ctx} {fr : List (Nat × Value)} {hp : List Res} {a : Act} {w : World}
theorem zAy (ha : At C fr hp a w) {A : Option Addr} {c n : Nat} {l : List Nat} [hr : InR A 3 1 n c (ints l) hp] (hn : n = l.length) : RdL ncell 1 w A l :=
 qV ha (cells := ncell) (size := 1) (e := 3) (c := c) (n := n) (l := l) (fun _ => rfl) (by rw [<- zKi]; exact hr.mem) hn
theorem zA8 (ha : At C fr hp a w) {A : Option Addr} {c n : Nat} {l : List Flt} [hr : InR A 49 4 n c (l.flatMap Flt.cells) hp] (hn : n = l.length) : RdL Flt.cells 4 w A l :=
 qV ha (cells := Flt.cells) (size := 4) (e := 49) (c := c) (n := n) (l := l) (fun _ => rfl) hr.mem hn
end
end Go.Proofs.Yteppiphdbondeaa.N
namespace Go.Proofs.Yteppiphdbondeaa.N
open Go Go.RowKit Go.Proofs
set_option linter.unusedSectionVars false
variable [I : Sys]
theorem F.ent57 : Enters Try.prog 57 := jD Try.func57 rfl (by kernel_rfl)
theorem F.ent13 : Enters Try.prog 13 := jD Try.func13 rfl (by kernel_rfl)
theorem F.ent20 : Enters Try.prog 20 := jD Try.func20 rfl (by kernel_rfl)
end Go.Proofs.Yteppiphdbondeaa.N
namespace Go.Proofs.Yteppiphdbondeaa.N
open Go Go.RowKit Go.Proofs
set_option linter.unusedSectionVars false
section
variable [I : Sys] {C : Ctx} {fr : List (Nat × Value)} {hp hp' : List Res} {a : Act} {w : World} {ops : Array Oper} {Q : Exit -> Act -> World -> Prop} {rest : List Oper} {d : Nat} {ty : TypeId} {pos : String} {after : Array Edge}
theorem zLe {x y : Operand} {t e : TypeId} {A : Option Addr} {g o size n c m : Nat} {xs : List Value} (xs' : List Value) {v z : Value} (hx : ev fr x = some (.pointer (some ⟨g, o, none⟩))) (hy : ev fr y = some v) (hi : TI C.P t z 1 m) [hc : Cells v [v]]
  (hA : A = some ⟨g, 0, none⟩) (ho : o < xs.length) (hxs : xs.set o v = xs') [hr : InR A e size n c xs hp] [hu : UpR A e size n c xs (.row e size A n c xs') hp hp']
  (k : Lst C ops Q rest fr hp') : Lst C ops Q (⟨none, .store t x y, ty, pos, after, none⟩ :: rest) fr hp := by
 obtain ⟨i, hi, _, hsz, _⟩ := hi
 refine zEj (fun _ _ _ => zCu ..) (fun a w ha => ?_) k
 have hown := ha.own _ hr.mem
 obtain ⟨hlen, hcase⟩ := hown
 rcases hcase with ⟨h1, _⟩ | ⟨g', cap, cur, hv, hB, hheap, hle, hmax, hcs, htake⟩
 ·injection h1 with e1
  rw [hA] at e1
  cases e1
 ·injection hv with e1 e2 e3
  rw [hA] at e1
  injection e1 with e1
  injection e1 with e1
  subst e1; subst e3
  have hlen' : o < cur.toList.length := by
   have h9 : n * size <= c * size := Nat.mul_le_mul_right _ hle
   simp only [Array.length_toList]
   omega
  have hs : Splice cur.toList o [v] (cur.toList.set o v) := ⟨by rw [List.set_eq_take_append_cons_drop, if_pos hlen', List.append_assoc]; rfl, by simp at hlen' ⊢; omega⟩
  obtain ⟨w', h1, h2, h3⟩ := zE2 hs (by simpa using hheap) hc.one C.P
  refine ⟨w', ?_, ha.turn hu.upd (by rw [hA]; exact h3) ⟨by rw [<- hxs, List.length_set]; exact hlen, .inr ⟨g, c, (cur.toList.set o v).toArray, by rw [hA], hB, h2, hle, hmax, by simp [hcs], ?_⟩⟩ (fun k hk => .inl hk)⟩
  ·simp [execOp, ha.eval hx, ha.eval hy, Instr.storeAt, Instr.sureAddr, storeVar, sizeOf, typeInfo, hi, hc.eq, hsz, h1]
  ·rw [<- hxs, <- htake, List.take_set]
theorem zD8 {l : List Oper} (A : Option Addr) {e size n c : Nat} {xs : List Value} [hr : InR A e size n c xs hp] (hn : 0 < n) (k : ∀ g, A = some ⟨g, 0, none⟩ -> Lst C ops Q l fr hp) : Lst C ops Q l fr hp := fun a w ha => by
 obtain ⟨g, hg⟩ := yX (ha.own _ hr.mem) hn
 exact k g hg a w ha
end
theorem zUv (l : List Nat) (i j v : Nat) : (l.set i v).getD j 0 = if i = j ∧ i < l.length then v else l.getD j 0 := by
 rw [List.getD_eq_getElem?_getD, List.getD_eq_getElem?_getD, List.getElem?_set]
 by_cases h : i = j
 ·subst h
  by_cases h2 : i < l.length
  ·simp [h2]
  ·simp [h2]
 ·simp [h]
theorem jAc {fs : List Flt} {kiln : Nat} {m m1 : Mor} {acts : List Nat} {s : Nat} : dayE fs kiln m acts s = (0, m1) ↔ barred m acts acts.length = false ∧ firesN acts acts.length <= kiln ∧ (dRun fs m acts s acts.length).1 = 0 ∧ m1 = (dRun fs m acts s acts.length).2 := by
 unfold dayE
 by_cases h1 : barred m acts acts.length = true
 ·rw [if_pos h1]; simp [h1]
 ·rw [if_neg h1]
  by_cases h2 : kiln < firesN acts acts.length
  ·rw [if_pos h2]; simp; omega
  ·rw [if_neg h2]
   by_cases h3 : 0 < (dRun fs m acts s acts.length).1
   ·rw [if_pos h3]; simp; omega
   ·rw [if_neg h3]
    simp only [Prod.mk.injEq, true_and]
    constructor
    ·rintro rfl; exact ⟨by simpa using h1, by omega, by omega, rfl⟩
    ·rintro ⟨_, _, _, rfl⟩; rfl
theorem zT2 (fs : List Flt) (i : Nat) : (start fs).s.getD i 0 = (fs.getD i default).now := by
 unfold start startN
 dsimp only
 rw [List.take_length, List.getD_eq_getElem?_getD, List.getElem?_append, List.length_map, List.getD_eq_getElem?_getD]
 split
 ·rename_i h
  rw [List.getElem?_map, List.getElem?_eq_getElem h]
  rfl
 ·rename_i h
  rw [List.getElem?_eq_none (l := fs) om]
  cases e : (List.replicate (3 - fs.length) 0)[i - fs.length]? with
  | none => rfl
  | some v =>
   have := List.mem_of_getElem? e
   rw [List.mem_replicate] at this
   exact this.2
end Go.Proofs.Yteppiphdbondeaa.N
namespace Go.Proofs.Yteppiphdbondeaa.N
open Go Go.RowKit Go.Proofs
set_option linter.unusedSectionVars false
variable [I : Sys]
theorem zAz {l : List Nat} {k x : Nat} (h : l[k]? = some x) : (ints l)[k]? = some (.int .i64 (x : Int)) := by
 unfold ints
 rw [List.getElem?_map, h]
 rfl

end Go.Proofs.Yteppiphdbondeaa.N
namespace Go.Proofs.Yteppiphdbondeaa.N
open Go Go.RowKit Go.Proofs
set_option linter.unusedSectionVars false
variable {acts : List Nat} {fs : List Flt} {i j kind s : Nat} {m : Mor}
theorem zF8 {s : Srch} : ∀ (n : Nat) (m : Mor), (s.bst n m).is = true -> Pth s.alw s.las s.fs s.kiln s.days n m (s.planL n m) (s.bst n m).f (s.bst n m).w
 | 0, m, h => .last h
 | n + 1, m, h => by
  obtain ⟨l, hl, hs⟩ := Srch.has h
  cases hf : (exts [] s.fs.length).find? (fun l => decide (s.stp n m l = s.bst (n + 1) m)) with
  | none => exact absurd hs (by simpa using List.find?_eq_none.1 hf l hl)
  | some l' =>
   have h1 : s.stp n m l' = s.bst (n + 1) m := by simpa using List.find?_some hf
   have h2 := List.mem_of_find?_eq_some hf
   obtain ⟨h3, h4, h5⟩ := Srch.stp_is (l := l') (by rw [h1]; exact h)
   have h6 : dayE s.fs s.kiln m l' (s.days.getD (s.days.length - (n + 1)) 0) = (0, (s.nxt n m l').2) := Prod.ext h3 rfl
   have h7 : s.stp n m l' = ⟨(s.bst n (s.nxt n m l').2).f + spF l', (s.bst n (s.nxt n m l').2).w + spW l', (s.bst n (s.nxt n m l').2).is⟩ := zGp h5 h6
   unfold Srch.planL
   rw [Srch.pick_of hf, <- h1, h7]
   exact .day h2 h5 h6 (zF8 n _ h4)
def wsh (i : Nat) (b : Bool) (l : List Nat) : Bool := (b || l.getD i 0 == 2) && l.getD i 0 != 3
theorem zVq {a : Nat × Mor} (hi : i < 3) (hj : j < 3) : (dStep fs m a i kind).2.w.testBit j = if i = j then ((a.2.w.testBit j || kind == 2) && kind != 3) else a.2.w.testBit j := by
 unfold dStep
 dsimp only
 split
 ·rename_i h; subst h; simp
 ·split
  ·rename_i h; subst h
   dsimp only
   unfold wWith
   rw [Nat.testBit_or, Nat.testBit_two_pow]
   by_cases e : i = j <;> simp [e]
  ·split
   ·rename_i h; subst h
    dsimp only
    unfold wOut
    rw [Nat.testBit_and]
    have h7 : ∀ i : Fin 3, ∀ j : Fin 3, (7 - 2 ^ i.1).testBit j.1 = decide (i.1 ≠ j.1) := by decide
    rw [h7 ⟨i, hi⟩ ⟨j, hj⟩]
    by_cases e : i = j <;> simp [e]
   ·rename_i h1 h2 h3
    dsimp only
    have e2 : (kind == 2) = false := by simpa using h2
    have e3 : (kind != 3) = true := by simpa using h3
    rw [e2, e3]
    simp
theorem zRg (hj : j < 3) : ∀ k, k <= 3 -> (dRun fs m acts s k).2.w.testBit j = if j < k then wsh j (m.w.testBit j) acts else m.w.testBit j
 | 0, _ => by simp [dRun]
 | k + 1, hk => by
  rw [zC0, zVq om hj, zRg hj k om]
  by_cases e : k = j
  ·subst e
   rw [if_pos rfl, if_neg (Nat.lt_irrefl _), if_pos (Nat.lt_succ_self _)]
   rfl
  ·rw [if_neg e]
   by_cases h : j < k
   ·rw [if_pos h, if_pos om]
   ·rw [if_neg h, if_neg om]
theorem zIe : ∀ (d : Nat) (l : List Nat), (∀ x ∈ l, x <= 3) -> ∀ m ∈ exts l d, ∀ x ∈ m, x <= 3
 | 0, l, h, m, hm => by
  simp only [exts, List.mem_singleton] at hm
  rw [hm]; exact h
 | d + 1, l, h, m, hm => by
  simp only [exts, List.mem_flatMap] at hm
  obtain ⟨k, hk, hm⟩ := hm
  have hk := List.mem_range.1 hk
  exact zIe d (l ++ [k]) (fun x hx => by
   rcases List.mem_append.1 hx with h1 | h1
   ·exact h x h1
   ·simp at h1; omega) m hm
def zl (l : List Nat) : List Int := l.map fun (n : Nat) => (n : Int)
theorem zJr (l : List Nat) : natL (zl l) = l := by
 unfold natL zl
 rw [List.map_map]
 exact (List.map_congr_left fun x _ => Int.toNat_natCast x).trans (List.map_id l)
theorem zBs (l : List Nat) : (zl l).length = l.length := List.length_map ..
theorem zH7 (n : Nat) : szd (n : Int) n n = 0 := by
 unfold szd
 rw [if_neg om, if_neg om]
theorem zV9 {l : List Nat} (h : ∀ x ∈ l, x <= 3) : badK (zl l) = false := by
 unfold badK
 rw [List.any_eq_false]
 intro x hx
 obtain ⟨n, hn, rfl⟩ := List.mem_map.1 hx
 have := h n hn
 unfold btw
 simp
 omega
def Cap (fs : List Flt) (m : Mor) : Prop := ∀ i, m.s.getD i 0 <= (fs.getD i default).power
theorem zXr {f : Flt} {now : Nat} (h : now <= f.power) : aftOf f now i kind s m <= f.power := by
 unfold aftOf
 split
 ·omega
 ·split
  ·exact Nat.min_le_left ..
  ·split
   ·exact Nat.le_refl _
   ·exact h
theorem zLy (h : Cap fs m) : ∀ k, Cap fs (dRun fs m acts s k).2
 | 0 => h
 | k + 1 => by
  intro j
  rw [zC0, zGa]
  dsimp only
  rw [zUv]
  split
  ·rename_i e
   rw [<- e.1]
   exact zXr (h k)
  ·exact zLy h k j
theorem zSq (hf : ∀ f ∈ fs, FltOk f) : Cap fs (start fs) := by
 intro i
 rw [zT2]
 rcases Nat.lt_or_ge i fs.length with hi | hi
 ·rw [List.getD_eq_getElem?_getD, List.getElem?_eq_getElem hi]
  exact (hf _ (List.getElem_mem hi)).2.2.2
 ·rw [List.getD_eq_getElem?_getD, List.getElem?_eq_none hi]
  exact Nat.le_refl _
theorem zYw [I : Sys] {alw : Nat -> List Nat -> Bool} {las : Mor -> Bool} {kiln : Nat} {days : List Nat} {n : Nat} {p : List (List Nat)} {f w : Nat} (h3 : fs.length <= 3) (hf : ∀ f ∈ fs, FltOk f) (h : Pth alw las fs kiln days n m p f w) : n <= days.length -> MOk m -> Cap fs m ->
  ∃ outs mE, wk fs kiln days (p.map zl) (days.length - n) m = (0, outs, f) ∧ outs.length = n ∧ (strs fs m :: outs).getLast? = some (strs fs mE) ∧ las mE = true ∧ MOk mE ∧ (∀ i, i < fs.length -> mE.w.testBit i = p.foldl (wsh i) (m.w.testBit i)) ∧ p.length = n ∧ (∀ l ∈ p, l.length = fs.length ∧ ∀ x ∈ l, x <= 3) ∧ Cap fs mE := by
 induction h with
 | last h => exact fun _ hm hcap => ⟨[], _, rfl, rfl, rfl, h, hm, fun _ _ => rfl, rfl, fun l hl => (by cases hl), hcap⟩
 | @day n m m1 acts p f w h1 h2 h4 h5 ih =>
  intro hn hm hcap
  have hlen : acts.length = fs.length := by have := yH _ _ acts h1; simpa using this
  have hsm := zIe _ _ (by simp) acts h1
  have hm1 : MOk m1 := by have := (wC (kiln := kiln) (acts := acts) (sugar := days.getD (days.length - (n + 1)) 0) hf hm om h3).1; rw [h4] at this; exact this
  obtain ⟨outs, mE, a1, a2, a3, a4, a5, a6, a7, a8, a9⟩ := ih om hm1 (by obtain ⟨_, _, _, rfl⟩ := jAc.1 h4; exact zLy hcap _)
  have hd : days.length - (n + 1) + 1 = days.length - n := by omega
  refine ⟨strs fs m1 :: outs, mE, ?_, by rw [List.length_cons, a2], ?_, a4, a5, fun i hi => ?_, by rw [List.length_cons, a7], fun l hl => ?_, a9⟩
  ·rw [List.map_cons]
   unfold wk
   rw [zBs, hlen, zH7, zJr, h4, hd, a1, zV9 hsm]
   simp only [ne_eq, not_true_eq_false, if_false, Bool.false_eq_true]
   rw [Nat.add_comm]
  ·rw [List.getLast?_cons_cons]; exact a3
  ·rw [a6 i hi, List.foldl_cons]
   obtain ⟨_, _, _, rfl⟩ := jAc.1 h4
   rw [zRg om _ om, if_pos om]
  ·rcases List.mem_cons.1 hl with rfl | hl
   ·exact ⟨hlen, hsm⟩
   ·exact a8 l hl
end Go.Proofs.Yteppiphdbondeaa.N
namespace Go.Proofs.Yteppiphdbondeaa.N
open Go Go.RowKit Go.Proofs
set_option linter.unusedSectionVars false
def zmeta (m : Meta) : MetaZ := (m.1, m.2.1, zl m.2.2)
theorem zIp (m : Meta) : zmcell (zmeta m) = mcell m := by
 unfold zmcell zmeta mcell
 dsimp only
 rw [zBs]
section
variable [I : Sys] {C : Ctx} {fr : List (Nat × Value)} {hp hp' : List Res} {a : Act} {w : World} {ops : Array Oper} {Q : Exit -> Act -> World -> Prop}
theorem zE6 {l : List Oper} (p : hp.Perm hp') (h : Lst C ops Q l fr hp') : Lst C ops Q l fr hp := fun a w ha => h a w (ha.permed p)
theorem zRe {A : Option Addr} {l : List Nat} (h : RdL ncell 1 w A l) : RdL zcell 1 w A (zl l) := fun hl => by
 rw [zBs] at hl
 obtain ⟨b, o, h1, h2, h3⟩ := h hl
 refine ⟨b, o, h1, h2, fun k x hk j u hu => ?_⟩
 unfold zl at hk
 rw [List.getElem?_map] at hk
 obtain ⟨n, hn, rfl⟩ := Option.map_eq_some_iff.1 hk
 exact h3 k n hn j u hu
theorem zYa (ha : At C fr hp a w) {A : Option Addr} {c : Nat} {mr : List Meta} (h1 : Res.row 22 1 A mr.length c (mr.reverse.map mcell) ∈ hp) (h2 : ∀ m ∈ mr, mrow m ∈ hp) : RdZ w A (mr.reverse.map zmeta) where
 outer := by
  refine qV ha (cells := fun m => [zmcell m]) (size := 1) (e := 22) (c := c) (n := mr.length) (fun _ => rfl) ?_ (by simp)
  rw [show (mr.reverse.map zmeta).flatMap (fun m => [zmcell m]) = mr.reverse.map mcell from ?_]
  ·exact h1
  ·rw [List.flatMap_map]
   induction mr.reverse with
   | nil => rfl
   | cons m l ih => rw [List.flatMap_cons, ih, List.map_cons, zIp]; rfl
 inner := fun m hm => by
  obtain ⟨x, hx, rfl⟩ := List.mem_map.1 hm
  exact zRe (zGq ha (fun _ => rfl) (h2 x (List.mem_reverse.1 hx)))
theorem zW0 (ha : At C fr hp a w) {m : Meta} (hm : mrow m ∈ hp) (hl : 0 < m.2.2.length) : ∃ g, m.1 = some ⟨g, 0, none⟩ := yX (ha.own _ hm) hl
theorem zKj {mr : List Meta} {k : Nat} {m : Meta} (h : mr.reverse[k]? = some m) : (mr.reverse.map mcell)[k]? = some (mcell m) := by rw [List.getElem?_map, h]; rfl
end
variable {days : List Nat} {fs : List Flt} {kiln : Nat}
inductive Cours (fs : List Flt) (kiln : Nat) (days : List Nat) : List (List Nat) -> Nat -> Mor -> List (List Nat) -> Nat -> Prop
 | nil (d : Nat) (m : Mor) : Cours fs kiln days [] d m [] 0
 | cons {l : List Nat} {ls outs : List (List Nat)} {d f : Nat} {m m1 : Mor} : l.length = fs.length -> dayE fs kiln m l (days.getD d 0) = (0, m1) -> Cours fs kiln days ls (d + 1) m1 outs f -> Cours fs kiln days (l :: ls) d m (strs fs m1 :: outs) (spF l + f)
theorem zQ4 {n k : Nat} (h : szd (n : Int) k k = 0) : n = k := by
 unfold szd at h
 split at h
 ·cases h
 ·split at h
  ·cases h
  ·omega
theorem zHr : ∀ (P : List (List Nat)) (d : Nat) (m : Mor), (wk fs kiln days (P.map zl) d m).1 = 0 -> Cours fs kiln days P d m (wk fs kiln days (P.map zl) d m).2.1 (wk fs kiln days (P.map zl) d m).2.2
 | [], d, m, _ => .nil d m
 | l :: ls, d, m, h => by
  rw [List.map_cons] at h ⊢
  unfold wk at h ⊢
  rw [zJr, zBs] at h ⊢
  by_cases h1 : szd (l.length : Int) fs.length fs.length ≠ 0
  ·rw [if_pos h1] at h; exact absurd h h1
  ·rw [if_neg h1] at h ⊢
   by_cases h2 : badK (zl l) = true
   ·rw [if_pos h2] at h; cases h
   ·rw [if_neg h2] at h ⊢
    by_cases h3 : (dayE fs kiln m l (days.getD d 0)).1 ≠ 0
    ·rw [if_pos h3] at h; exact absurd h h3
    ·rw [if_neg h3] at h ⊢
     by_cases h4 : (wk fs kiln days (ls.map zl) (d + 1) (dayE fs kiln m l (days.getD d 0)).2).1 ≠ 0
     ·rw [if_pos h4] at h; exact absurd h h4
     ·rw [if_neg h4]
      exact .cons (zQ4 (by simpa using h1)) (Prod.ext (by simpa using h3) rfl) (zHr ls (d + 1) _ (by simpa using h4))
theorem Cours.fires {P outs : List (List Nat)} {d f : Nat} {m : Mor} (h : Cours fs kiln days P d m outs f) : f = (P.map spF).sum := by
 induction h with
 | nil => rfl
 | cons _ _ _ ih => rw [List.map_cons, List.sum_cons, ih]
end Go.Proofs.Yteppiphdbondeaa.N
namespace Go.Proofs.Yteppiphdbondeaa.N
open Go Go.RowKit Go.Proofs
set_option linter.unusedSectionVars false
variable [I : Sys]
variable {days : List Nat} {fs : List Flt} {kiln : Nat}
theorem zTq [I : Sys] {mr : List Meta} (hc : ChV fs kiln days) (h : (bstA fs kiln days).is = true) (hm : mr.reverse.map (·.2.2) = planA fs kiln days) : mr.length <= 4 ∧ ∀ m ∈ mr, m.2.2.length = fs.length := by
  have hp : Pth (fun _ _ => true) (fun _ => true) fs kiln days days.length (start fs) (planA fs kiln days) (bstA fs kiln days).f (bstA fs kiln days).w := zF8 (s := anyS none none 0 0 kiln fs days) _ _ h
  obtain ⟨outs, mE, a1, a2, a3, a4, a5, a6, a7, a8, a9⟩ := zYw hc.f3 hc.ff hp (Nat.le_refl _) (yG hc.f3 hc.ff _ (Nat.le_refl _)) (zSq hc.ff)
  have hl : mr.length = days.length := by rw [<- a7, <- hm]; simp
  exact ⟨by have := hc.d4; omega, fun m hx => (a8 m.2.2 (by rw [<- hm]; exact List.mem_map_of_mem (List.mem_reverse.2 hx))).1⟩

theorem zUd (a b : List Res) : Pck a (a ++ b) := by
  refine Pck.perm List.perm_append_comm ?_
  induction b with
  | nil => exact Pck.refl _
  | cons x b ih => exact Pck.skip _ ih
theorem zOf {P : List (List Nat)} (h : (workE fs kiln days (P.map zl)).1 = 0) :
    P.length = days.length ∧ ∃ outs, (workE fs kiln days (P.map zl)).2.1 = strs fs (start fs) :: outs ∧ Cours fs kiln days P 0 (start fs) outs (workE fs kiln days (P.map zl)).2.2 := by
  unfold workE at h ⊢
  rw [List.length_map] at h ⊢
  by_cases h1 : szd (P.length : Int) days.length days.length ≠ 0
  · rw [if_pos h1] at h; exact absurd h h1
  · rw [if_neg h1] at h ⊢
    by_cases h2 : (wk fs kiln days (P.map zl) 0 (start fs)).1 ≠ 0
    · rw [if_pos h2] at h; exact absurd h h2
    · rw [if_neg h2]
      exact ⟨zQ4 (by simpa using h1), _, rfl, zHr P 0 _ (by simpa using h2)⟩

theorem zO2 : ∀ P : List (List Nat), (P.map spF).sum <= P.length
  | [] => Nat.le_refl _
  | l :: P => by rw [List.map_cons, List.sum_cons, List.length_cons]; have := zO2 P; have := zCp l; omega
end Go.Proofs.Yteppiphdbondeaa.N
namespace Go.Proofs.Yteppiphdbondeaa.N
open Go Go.RowKit Go.Proofs
set_option linter.unusedSectionVars false
variable {P outs : List (List Nat)} {alw : Nat -> List Nat -> Bool} {f n : Nat} {m : Mor} {α : Type}
section
variable [I : Sys] {C : Ctx} {fr : List (Nat × Value)} {hp hp' : List Res} {ops : Array Oper} {Q : Exit -> Act -> World -> Prop} {rest : List Oper} {d : Nat} {dst : Option Nat} {ty : TypeId} {pos : String} {after : Array Edge}
theorem wP {cells : α -> List Value} {x y : Operand} {t e : TypeId} {A B : Option Addr} {c m cb size bytes : Nat} {xs : List Value} {l : List α} {z : Value} {hp' : Option Addr -> Nat -> List Res} (hd : Nat.blt d C.N = true)
  (hx : ev fr x = some (.slice A n c)) (hy : ev fr y = some (.slice B m cb)) (ht : C.P.underlying t = some (.slice e)) (hi : TI C.P e z size bytes) (hzs : z.cells.size = size) (hs0 : Nat.blt 0 size = true) (hs : ∀ x, (cells x).length = size) (ho1 : ∀ x, ∀ u ∈ cells x, u.oneCell' = true)
  (hnews : ∀ a w, At C fr hp a w -> RdL cells size w B l) (hB : B = none -> l = [] ∧ cb = 0) (hl : l.length = m) [hr : InR A e size n c xs hp] [hu : ∀ A' c', UpR A e size n c xs (.row e size A' (n + m) c' (xs ++ l.flatMap cells)) hp (hp' A' c')]
  (h63 : n + m <= maxLen) (hbytes : (n + m) * bytes <= 140737488355328)
  (k : ∀ A' c', Lst C ops Q rest ((d, .slice A' (n + m) c') :: fr) (hp' A' c')) :
  Lst C ops Q (⟨some d, .call { callee := .builtin .append, args := #[x, y], argTypes := #[t, t] }, ty, pos, after, none⟩ :: rest) fr hp := by
 cases B with
 | some p => exact zH6 hd hx hy ht hi hzs hs0 hs ho1 hnews hl h63 hbytes k
 | none =>
  obtain ⟨rfl, rfl⟩ := hB rfl
  obtain rfl : m = 0 := hl.symm
  refine xH rfl fun a w ha => ?_
  obtain ⟨i, hi1, hi2, hi3, hi4⟩ := hi
  have hown := ha.own _ hr.mem
  have hle : n <= c := by
   rcases hown.2 with ⟨h1, h2⟩ | ⟨g, cap, cur, hv, _, _, h3, _⟩
   ·omega
   ·injection hv with _ _ h5
    omega
  have hrun := run_append_nothing (P := C.P) w t t ty e i ht hi1 A n c hle (.slice none 0 0) (Src.ofNil w ht 0)
  refine ⟨vM fun cs => by simp only [List.map_toArray, List.map_cons, List.map_nil, ha.eval hx, ha.eval hy]; exact zBk ht, ?_⟩
  have hr' : (execOp a.eval ⟨some d, .call { callee := .builtin .append, args := #[x, y], argTypes := #[t, t] }, ty, pos, after, none⟩).run C.P w = .ok (.value (.slice A n c)) w := by
   simp only [execOp, resolve, invoke, builtin, Sem.run_bind, Sem.run_pure, Result.andThen_ok, List.map_toArray, List.map_cons, List.map_nil, ha.eval hx, ha.eval hy, hrun]
  rw [hr']
  refine k A c _ _ ((ha.turn (hu A c).upd ⟨rfl, rfl, rfl, Nat.le_refl _, fun _ _ _ => rfl⟩ ?_ (fun j hj => .inl hj)).put (kC hd) _)
  simp only [List.flatMap_nil, List.append_nil]
  exact hown
end
theorem zEu : ∀ (n : Nat) (l : List Nat), exts l (n + 1) = (exts l n).flatMap fun x => (List.range 4).map fun k => x ++ [k]
 | 0, l => by
  show (List.range 4).flatMap (fun k => [l ++ [k]]) = [l].flatMap _
  rw [List.flatMap_singleton, <- List.map_eq_flatMap]
 | n + 1, l => by
  show (List.range 4).flatMap (fun k => exts (l ++ [k]) (n + 1)) = ((List.range 4).flatMap fun k => exts (l ++ [k]) n).flatMap _
  rw [List.flatMap_assoc]
  congr 1
  funext k
  exact zEu n (l ++ [k])
theorem zFn (c : Nat) : ∀ l : List α, (l.map fun _ => c).sum = l.length * c
 | [] => by simp
 | _ :: l => by rw [List.map_cons, List.sum_cons, zFn c l, List.length_cons, Nat.succ_mul]; omega
theorem wS : ∀ (n : Nat) (l : List Nat), (exts l n).length = 4 ^ n
 | 0, _ => rfl
 | n + 1, l => by
  rw [zEu, List.length_flatMap]
  simp only [List.length_map, List.length_range]
  rw [zFn, wS n l, Nat.pow_succ]
theorem vV : ∀ (n : Nat) (l x : List Nat), x ∈ exts l n ↔ ∃ y, x = l ++ y ∧ y.length = n ∧ ∀ k ∈ y, k <= 3
 | 0, l, x => by
  show x ∈ [l] ↔ _
  rw [List.mem_singleton]
  constructor
  ·rintro rfl; exact ⟨[], by simp⟩
  ·rintro ⟨y, rfl, h, _⟩
   obtain rfl := List.eq_nil_of_length_eq_zero h
   simp
 | n + 1, l, x => by
  show x ∈ (List.range 4).flatMap (fun k => exts (l ++ [k]) n) ↔ _
  rw [List.mem_flatMap]
  constructor
  ·rintro ⟨k, hk, h⟩
   obtain ⟨y, rfl, h1, h2⟩ := (vV n _ x).1 h
   have := List.mem_range.1 hk
   exact ⟨k :: y, by simp, by simp [h1], fun j hj => by
    rcases List.mem_cons.1 hj with rfl | hj
    ·omega
    ·exact h2 j hj⟩
  ·rintro ⟨y, rfl, h1, h2⟩
   cases y with
   | nil => cases h1
   | cons k y =>
    have := h2 k (by simp)
    exact ⟨k, List.mem_range.2 om, (vV n _ _).2 ⟨y, by simp, by simpa using h1, fun j hj => h2 j (by simp [hj])⟩⟩
def allP (n : Nat) : Nat -> List (List (List Nat))
 | 0 => [[]]
 | d + 1 => (allP n d).flatMap fun p => (exts [] n).map fun l => p ++ [l]
theorem zEl (n : Nat) : ∀ d, allP n (d + 1) = (exts [] n).flatMap fun l => (allP n d).map (l :: ·)
 | 0 => by
  show [([] : List (List Nat))].flatMap _ = (exts [] n).flatMap fun l => [[l]]
  rw [List.flatMap_singleton, <- List.map_eq_flatMap]
  rfl
 | d + 1 => by
  show (allP n (d + 1)).flatMap _ = _
  conv => lhs; rw [zEl n d]
  rw [List.flatMap_assoc]
  congr 1
  funext l
  rw [List.flatMap_map]
  show _ = ((allP n d).flatMap fun p => (exts [] n).map fun l => p ++ [l]).map (l :: ·)
  rw [List.map_flatMap]
  congr 1
  funext p
  rw [List.map_map]
  rfl
theorem zAr (n : Nat) : ∀ d, (allP n d).length = (4 ^ n) ^ d
 | 0 => rfl
 | d + 1 => by
  show ((allP n d).flatMap _).length = _
  rw [List.length_flatMap]
  simp only [List.length_map, wS]
  rw [zFn, zAr n d, Nat.pow_succ]
theorem vF (n : Nat) : ∀ (d : Nat) (p : List (List Nat)), p ∈ allP n d ↔ p.length = d ∧ ∀ l ∈ p, l ∈ exts [] n
 | 0, p => by
  show p ∈ [[]] ↔ _
  rw [List.mem_singleton]
  constructor
  ·rintro rfl; simp
  ·rintro ⟨h, _⟩; exact List.eq_nil_of_length_eq_zero h
 | d + 1, p => by
  rw [zEl, List.mem_flatMap]
  constructor
  ·rintro ⟨l, hl, h⟩
   obtain ⟨q, hq, rfl⟩ := List.mem_map.1 h
   obtain ⟨h1, h2⟩ := (vF n d q).1 hq
   exact ⟨by simp [h1], fun x hx => by
    rcases List.mem_cons.1 hx with rfl | hx
    ·exact hl
    ·exact h2 x hx⟩
  ·rintro ⟨h1, h2⟩
   cases p with
   | nil => cases h1
   | cons l p => exact ⟨l, h2 l (by simp), List.mem_map.2 ⟨p, (vF n d p).2 ⟨by simpa using h1, fun x hx => h2 x (by simp [hx])⟩, rfl⟩⟩
theorem zVs {d : Nat} (hn : n <= 2) (hd : d <= 2) : (allP n d).length <= 256 := by
 rw [zAr]
 have hn' : n = 0 ∨ n = 1 ∨ n = 2 := by omega
 have hd' : d = 0 ∨ d = 1 ∨ d = 2 := by omega
 rcases hn' with rfl | rfl | rfl <;> rcases hd' with rfl | rfl | rfl <;> decide
section
variable {fs : List Flt} {kiln : Nat} {days : List Nat}
theorem zR8 {d : Nat} (h : Cours fs kiln days P d m outs f) : (∀ l ∈ P, ∀ x ∈ l, x <= 3) -> (∀ k l, P[k]? = some l -> alw (d + k) l = true) -> d + P.length = days.length -> Pth alw (fun _ => true) fs kiln days P.length m P f (P.map spW).sum := by
 induction h with
 | nil d m => intro _ _ _; exact .last rfl
 | @cons l ls outs d f m m1 hl hd _ ih =>
  intro h1 h2 h3
  have e := ih (fun x hx => h1 x (by simp [hx])) (fun k x hk => by rw [show d + 1 + k = d + (k + 1) from by omega]; exact h2 (k + 1) x (by simpa using hk)) (by simp at h3; omega)
  have hlen : days.length - (ls.length + 1) = d := by simp at h3; omega
  rw [List.map_cons, List.sum_cons, Nat.add_comm (spF l), Nat.add_comm (spW l), List.length_cons]
  refine .day ((vV _ _ _).2 ⟨l, rfl, hl, h1 l (by simp)⟩) ?_ ?_ e
  ·rw [hlen]; exact h2 0 l rfl
  ·rw [hlen]; exact hd
theorem zKf {p : List (List Nat)} {w : Nat} {las : Mor -> Bool} (h : Pth alw las fs kiln days n m p f w) : n <= days.length -> (∃ outs, Cours fs kiln days p (days.length - n) m outs f) ∧ w = (p.map spW).sum ∧ p.length = n ∧ (∀ l ∈ p, l ∈ exts [] fs.length) ∧ (∀ k l, p[k]? = some l -> alw (days.length - n + k) l = true) := by
 induction h with
 | last h => intro _; exact ⟨⟨_, .nil _ _⟩, rfl, rfl, (fun _ h => by cases h), (fun _ _ h => by simp at h)⟩
 | @day n m m1 acts p f w h1 h2 h3 _ ih =>
  intro hn
  obtain ⟨⟨outs, i1⟩, i2, i3, i4, i5⟩ := ih om
  rw [show days.length - n = days.length - (n + 1) + 1 from by omega] at i1 i5
  obtain ⟨y, rfl, hy, _⟩ := (vV _ _ _).1 h1
  refine ⟨⟨_, by rw [Nat.add_comm f]; exact .cons (by simpa using hy) h3 i1⟩, by rw [List.map_cons, List.sum_cons, i2]; omega, by rw [List.length_cons, i3], fun l hl => ?_, fun k l hk => ?_⟩
  ·rcases List.mem_cons.1 hl with rfl | hl
   ·exact h1
   ·exact i4 l hl
  ·cases k with
   | zero => simp at hk; subst hk; exact h2
   | succ k => rw [show days.length - (n + 1) + (k + 1) = days.length - (n + 1) + 1 + k from by omega]; exact i5 k l (by simpa using hk)
theorem zUz {d : Nat} (h : Cours fs kiln days P d m outs f) : (∀ l ∈ P, ∀ x ∈ l, x <= 3) -> (wk fs kiln days (P.map zl) d m).1 = 0 ∧ (wk fs kiln days (P.map zl) d m).2.2 = f := by
 induction h with
 | nil => intro _; exact ⟨rfl, rfl⟩
 | @cons l ls outs d f m m1 hl hd _ ih =>
  intro hk
  obtain ⟨i1, i2⟩ := ih (fun x hx => hk x (by simp [hx]))
  rw [List.map_cons]
  unfold wk
  rw [zJr, zBs, hl, zH7, hd]
  have hb : badK (zl l) = false := by
   unfold badK
   rw [List.any_eq_false]
   intro x hx
   obtain ⟨y, hy, rfl⟩ := List.mem_map.1 hx
   have := hk l (by simp) y hy
   unfold btw
   simp
   omega
  simp only [hb]
  simp [i1, i2]
end
end Go.Proofs.Yteppiphdbondeaa.N
namespace Go.Proofs.Yteppiphdbondeaa.N
open Go Go.RowKit Go.Proofs
set_option linter.unusedSectionVars false
variable {alw : Nat -> List Nat -> Bool} {d f : Nat}
theorem zTa {a b c : Nat} (h1 : cless a b c d = false) (h2 : cless c d a b = false) : a = c ∧ b = d := by
 unfold cless at *
 simp only [decide_eq_false_iff_not, not_or, not_and] at *
 omega
theorem zY3 {x y : Oc} (h1 : x.f = y.f) (h2 : x.w = y.w) (h3 : x.is = y.is) : x = y := by
 cases x; cases y; simp_all
theorem zHb {s : Srch} : ∀ (n : Nat) (m : Mor), (s.bst n m).is = true -> ∃ A B, allP s.fs.length n = A ++ s.planL n m :: B ∧ ∀ p ∈ A, ∀ f w, Pth s.alw s.las s.fs s.kiln s.days n m p f w -> ¬ (f = (s.bst n m).f ∧ w = (s.bst n m).w)
 | 0, m, _ => ⟨[], [], rfl, fun p hp => by cases hp⟩
 | n + 1, m, h => by
  obtain ⟨l, hl, hs⟩ := Srch.has h
  cases hf : (exts [] s.fs.length).find? (fun l => decide (s.stp n m l = s.bst (n + 1) m)) with
  | none => exact absurd hs (by simpa using List.find?_eq_none.1 hf l hl)
  | some l' =>
   obtain ⟨h1, E1, E2, hE, hE1⟩ := List.find?_eq_some_iff_append.1 hf
   have h1 : s.stp n m l' = s.bst (n + 1) m := by simpa using h1
   obtain ⟨h3, h4, h5⟩ := Srch.stp_is (l := l') (by rw [h1]; exact h)
   have h6 : dayE s.fs s.kiln m l' (s.days.getD (s.days.length - (n + 1)) 0) = (0, (s.nxt n m l').2) := Prod.ext h3 rfl
   have h7 : s.stp n m l' = ⟨(s.bst n (s.nxt n m l').2).f + spF l', (s.bst n (s.nxt n m l').2).w + spW l', (s.bst n (s.nxt n m l').2).is⟩ := zGp h5 h6
   obtain ⟨A, B, hA, hno⟩ := zHb n _ h4
   refine ⟨E1.flatMap (fun x => (allP s.fs.length n).map (x :: ·)) ++ A.map (l' :: ·), B.map (l' :: ·) ++ E2.flatMap (fun x => (allP s.fs.length n).map (x :: ·)), ?_, fun p hp f w hpt => ?_⟩
   ·rw [zEl, hE, List.flatMap_append, List.flatMap_cons, hA]
    rw [show s.planL (n + 1) m = s.pick n m :: s.planL n (s.nxt n m (s.pick n m)).2 from rfl, Srch.pick_of hf]
    simp
   ·rw [<- h1, h7]
    rcases List.mem_append.1 hp with hp | hp
    ·obtain ⟨x, hx, hp⟩ := List.mem_flatMap.1 hp
     obtain ⟨q, _, rfl⟩ := List.mem_map.1 hp
     have hxE : x ∈ exts [] s.fs.length := by rw [hE]; simp [hx]
     rintro ⟨e1, e2⟩
     cases hpt with
     | @day _ _ m1 _ _ f0 w0 g1 g2 g3 g4 =>
      obtain ⟨b1, b2⟩ := zBu g4
      have e := zGp (rec := bstO s.alw s.las s.fs s.kiln s.days n) g2 g3
      have c1 := zHs (fun l => stpO s.alw s.fs s.kiln s.days (bstO s.alw s.las s.fs s.kiln s.days n) (s.days.length - (n + 1)) m l) (exts [] s.fs.length) noOc x hxE (by rw [e]; exact b1)
      (try dsimp only at c1)
      rw [e] at c1
      have hb : s.bst (n + 1) m = (exts [] s.fs.length).foldl (fun o l => lst2 o (stpO s.alw s.fs s.kiln s.days (bstO s.alw s.las s.fs s.kiln s.days n) (s.days.length - (n + 1)) m l)) noOc := rfl
      rw [<- hb, <- h1, h7, <- e1, <- e2] at c1
      (try dsimp only at c1)
      rw [zOo] at c1
      obtain ⟨a1, a2⟩ := zTa c1 b2
      refine absurd (show s.stp n m x = s.bst (n + 1) m from ?_) (by simpa using hE1 x hx)
      rw [<- h1, h7]
      refine e.trans (zY3 ?_ ?_ ?_)
      ·show _ + _ = _ + _
       rw [a1]; exact e1
      ·show _ + _ = _ + _
       rw [a2]; exact e2
      ·show _ = _
       rw [b1]; exact h4.symm
    ·obtain ⟨q, hq, rfl⟩ := List.mem_map.1 hp
     rintro ⟨e1, e2⟩
     cases hpt with
     | @day _ _ m1 _ _ f0 w0 g1 g2 g3 g4 =>
      have hm1 : m1 = (s.nxt n m l').2 := by
       have := g3.symm.trans h6
       exact (Prod.ext_iff.1 this).2
      subst hm1
      refine hno q hq f0 w0 g4 ⟨?_, ?_⟩
      ·dsimp only at e1; omega
      ·dsimp only at e2; omega
def cst (fs : List Flt) (kiln : Nat) (days : List Nat) (p : List (List Nat)) : Nat := if (workE fs kiln days (p.map zl)).1 ≠ 0 then 9999 else 100 * (workE fs kiln days (p.map zl)).2.2 + (p.map spW).sum
def bstI (c : Nat -> Nat) : Nat -> Option Nat
 | 0 => none
 | k + 1 => if c k < 9999 ∧ (∀ b, bstI c k = some b -> c k < c b) then some k else bstI c k
theorem zFy (c : Nat -> Nat) : ∀ k, (bstI c k = none ∧ ∀ j, j < k -> 9999 <= c j) ∨ ∃ b, bstI c k = some b ∧ b < k ∧ c b < 9999 ∧ (∀ j, j < k -> c b <= c j) ∧ ∀ j, j < b -> c b < c j
 | 0 => .inl ⟨rfl, fun _ h => absurd h (Nat.not_lt_zero _)⟩
 | k + 1 => by
  rcases zFy c k with ⟨h1, h2⟩ | ⟨b, h1, h2, h3, h4, h5⟩
  ·by_cases hk : c k < 9999
   ·refine .inr ⟨k, ?_, by omega, hk, fun j hj => ?_, fun j hj => ?_⟩
    ·unfold bstI
     rw [if_pos ⟨hk, fun b hb => by rw [h1] at hb; cases hb⟩]
    ·rcases Nat.lt_or_ge j k with h | h
     ·have := h2 j h; omega
     ·obtain rfl : j = k := by omega
      exact Nat.le_refl _
    ·have := h2 j hj; omega
   ·refine .inl ⟨?_, fun j hj => ?_⟩
    ·unfold bstI
     rw [if_neg (fun h => hk h.1), h1]
    ·rcases Nat.lt_or_ge j k with h | h
     ·exact h2 j h
     ·obtain rfl : j = k := by omega
      omega
  ·by_cases hk : c k < c b
   ·refine .inr ⟨k, ?_, by omega, by omega, fun j hj => ?_, fun j hj => ?_⟩
    ·unfold bstI
     rw [if_pos ⟨by omega, fun b' hb => by rw [h1] at hb; cases hb; exact hk⟩]
    ·rcases Nat.lt_or_ge j k with h | h
     ·have := h4 j h; omega
     ·obtain rfl : j = k := by omega
      exact Nat.le_refl _
    ·have := h4 j hj; omega
   ·refine .inr ⟨b, ?_, by omega, h3, fun j hj => ?_, h5⟩
    ·unfold bstI
     rw [if_neg (fun h => hk (h.2 b h1)), h1]
    ·rcases Nat.lt_or_ge j k with h | h
     ·exact h4 j h
     ·obtain rfl : j = k := by omega
      omega
section
variable {fs : List Flt} {kiln : Nat} {days : List Nat}
theorem zM4 (P : List (List Nat)) (h : P.length = days.length) : (workE fs kiln days (P.map zl)).1 = (wk fs kiln days (P.map zl) 0 (start fs)).1 ∧ ((workE fs kiln days (P.map zl)).1 = 0 -> (workE fs kiln days (P.map zl)).2.2 = (wk fs kiln days (P.map zl) 0 (start fs)).2.2) := by
 unfold workE
 rw [List.length_map, h, zH7]
 by_cases h2 : (wk fs kiln days (P.map zl) 0 (start fs)).1 ≠ 0
 ·rw [if_neg (by simp), if_pos h2]
  exact ⟨rfl, fun h => absurd h h2⟩
 ·rw [if_neg (by simp), if_neg h2]
  exact ⟨(Classical.not_not.1 h2).symm, fun _ => rfl⟩
theorem zD4 {P : List (List Nat)} (hP : P ∈ allP fs.length days.length) (h : (workE fs kiln days (P.map zl)).1 = 0) (ha : ∀ k l, P[k]? = some l -> alw k l = true) : Pth alw (fun _ => true) fs kiln days days.length (start fs) P (workE fs kiln days (P.map zl)).2.2 (P.map spW).sum := by
 obtain ⟨h1, h2⟩ := (vF _ _ _).1 hP
 obtain ⟨e1, e2⟩ := zM4 (fs := fs) (kiln := kiln) P h1
 have h0 : (wk fs kiln days (P.map zl) 0 (start fs)).1 = 0 := e1.symm.trans h
 have hc := zR8 (alw := alw) (zHr P 0 (start fs) h0) (fun l hl => by
  obtain ⟨y, rfl, _, h⟩ := (vV _ _ _).1 (h2 l hl)
  exact h) (fun k l hk => by rw [Nat.zero_add]; exact ha k l hk) om
 rw [h1, <- e2 h] at hc
 exact hc
theorem zDx {las : Mor -> Bool} {p : List (List Nat)} {w : Nat} (h : Pth alw las fs kiln days days.length (start fs) p f w) : p ∈ allP fs.length days.length ∧ (workE fs kiln days (p.map zl)).1 = 0 ∧ (workE fs kiln days (p.map zl)).2.2 = f ∧ w = (p.map spW).sum ∧ ∀ k l, p[k]? = some l -> alw k l = true := by
 obtain ⟨⟨outs, h1⟩, h2, h3, h4, h5⟩ := zKf h (Nat.le_refl _)
 rw [Nat.sub_self] at h1 h5
 obtain ⟨w1, w2⟩ := zUz h1 (fun l hl => by
  obtain ⟨y, rfl, _, h⟩ := (vV _ _ _).1 (h4 l hl)
  exact h)
 obtain ⟨e1, e2⟩ := zM4 (fs := fs) (kiln := kiln) p h3
 have e0 := e1.trans w1
 exact ⟨(vF _ _ _).2 ⟨h3, h4⟩, e0, (e2 e0).trans w2, h2, fun k l hk => by have := h5 k l hk; rwa [Nat.zero_add] at this⟩
theorem zGy {n : Nat} (hn : n <= 3) : ∀ P : List (List Nat), (∀ l ∈ P, l ∈ exts [] n) -> (P.map spW).sum <= 3 * P.length
 | [], _ => by simp
 | l :: P, h => by
  rw [List.map_cons, List.sum_cons, List.length_cons]
  have := zGy hn P (fun x hx => h x (by simp [hx]))
  have := zCy l
  obtain ⟨y, rfl, hy, _⟩ := (vV _ _ _).1 (h l (by simp))
  simp at this ⊢
  omega
theorem zPw (h3 : fs.length <= 3) (hd4 : days.length <= 4) :
  (bstI (fun i => cst fs kiln days ((allP fs.length days.length).getD i [])) (allP fs.length days.length).length = none ∧ (bstA fs kiln days).is = false) ∨
  ∃ b, bstI (fun i => cst fs kiln days ((allP fs.length days.length).getD i [])) (allP fs.length days.length).length = some b ∧ b < (allP fs.length days.length).length ∧ (bstA fs kiln days).is = true ∧ (allP fs.length days.length)[b]? = some (planA fs kiln days) ∧ cst fs kiln days (planA fs kiln days) / 100 = (bstA fs kiln days).f := by
 have hlt : ∀ P, P ∈ allP fs.length days.length -> (P.map spW).sum < 100 := fun P hP => by
  obtain ⟨h1, h2⟩ := (vF _ _ _).1 hP
  have := zGy h3 P h2
  omega
 have hpl : (bstA fs kiln days).is = true -> _ := zHb (s := anyS none none 0 0 kiln fs days) days.length (start fs)
 have hpp : (bstA fs kiln days).is = true -> Pth (fun _ _ => true) (fun _ => true) fs kiln days days.length (start fs) (planA fs kiln days) (bstA fs kiln days).f (bstA fs kiln days).w := zF8 (s := anyS none none 0 0 kiln fs days) days.length (start fs)
 have hcp : (bstA fs kiln days).is = true -> cst fs kiln days (planA fs kiln days) = 100 * (bstA fs kiln days).f + (bstA fs kiln days).w ∧ (bstA fs kiln days).w < 100 ∧ (bstA fs kiln days).f <= 4 := fun h => by
  obtain ⟨p1, p2, p3, p4, _⟩ := zDx (hpp h)
  have hf := (zGk (alw := fun _ _ => true) (las := fun _ => true) (fs := fs) (kiln := kiln) (days := days) h3 days.length (start fs)).1
  refine ⟨?_, p4 ▸ hlt _ p1, Nat.le_trans hf hd4⟩
  unfold cst
  rw [if_neg (by simpa using p2), p3, <- p4]
 rcases zFy (fun i => cst fs kiln days ((allP fs.length days.length).getD i [])) (allP fs.length days.length).length with ⟨h1, h2⟩ | ⟨b, h1, h2, h3', h4, h5⟩
 ·refine .inl ⟨h1, ?_⟩
  cases his : (bstA fs kiln days).is with
  | false => rfl
  | true =>
   obtain ⟨A, B, hA, _⟩ := hpl his
   have hA : allP fs.length days.length = A ++ planA fs kiln days :: B := hA
   obtain ⟨c1, c2, c3⟩ := hcp his
   have := h2 A.length (by rw [hA]; simp)
   rw [hA, List.getD_eq_getElem?_getD, List.getElem?_append_right (Nat.le_refl _), Nat.sub_self] at this
   simp only [List.getElem?_cons_zero, Option.getD_some] at this
   omega
 ·right
  obtain ⟨P, hP⟩ : ∃ P, (allP fs.length days.length)[b]? = some P := ⟨_, List.getElem?_eq_getElem h2⟩
  have hPm : P ∈ allP fs.length days.length := List.mem_of_getElem? hP
  rw [List.getD_eq_getElem?_getD, hP] at h3' h4 h5
  simp only [Option.getD_some] at h3' h4 h5
  have hP0 : (workE fs kiln days (P.map zl)).1 = 0 := by
   rcases Nat.eq_zero_or_pos (workE fs kiln days (P.map zl)).1 with h | h
   ·exact h
   ·unfold cst at h3'
    rw [if_pos om] at h3'
    exact absurd h3' (by decide)
  have hpth := zD4 (alw := fun _ _ => true) hPm hP0 (fun _ _ _ => rfl)
  obtain ⟨his, hle⟩ := zBu hpth
  have his : (bstA fs kiln days).is = true := his
  have hle : cless (workE fs kiln days (P.map zl)).2.2 (P.map spW).sum (bstA fs kiln days).f (bstA fs kiln days).w = false := hle
  obtain ⟨A, B, hA, hno⟩ := hpl his
  have hA : allP fs.length days.length = A ++ planA fs kiln days :: B := hA
  obtain ⟨c1, c2, c3⟩ := hcp his
  have hAb : (allP fs.length days.length).getD A.length [] = planA fs kiln days := by
   rw [hA, List.getD_eq_getElem?_getD, List.getElem?_append_right (Nat.le_refl _), Nat.sub_self]
   rfl
  have k1 := h4 A.length (by rw [hA]; simp)
  rw [hAb, c1] at k1
  have hPc : cst fs kiln days P = 100 * (workE fs kiln days (P.map zl)).2.2 + (P.map spW).sum := by
   unfold cst
   rw [if_neg om]
  have hw := hlt P hPm
  rw [hPc] at k1
  have heq : (workE fs kiln days (P.map zl)).2.2 = (bstA fs kiln days).f ∧ (P.map spW).sum = (bstA fs kiln days).w := by
   unfold cless at hle
   simp only [decide_eq_false_iff_not, not_or, not_and] at hle
   omega
  have hbA : b = A.length := by
   rcases Nat.lt_trichotomy b A.length with h | h | h
   ·rw [hA, List.getElem?_append_left h] at hP
    exact absurd heq (hno P (List.mem_of_getElem? hP) _ _ hpth)
   ·exact h
   ·have := h5 A.length h
    rw [hAb, c1, hPc] at this
    omega
  refine ⟨b, h1, h2, his, ?_, ?_⟩
  ·rw [hbA, hA, List.getElem?_append_right (Nat.le_refl _), Nat.sub_self]
   rfl
  ·rw [c1]; omega
def smB (fs : List Flt) (kiln : Nat) (days : List Nat) (n f d : Nat) (L : List (List (List Nat))) : Bool := L.any fun p => decide (cst fs kiln days p / 100 = n) && decide ((p.getD d []).getD f 0 = 3)
def evB (fs : List Flt) (kiln : Nat) (days : List Nat) (n f d : Nat) (L : List (List (List Nat))) : Bool := L.all fun p => !decide (cst fs kiln days p / 100 = n) || decide ((p.getD d []).getD f 0 = 3)
theorem zHl (h3 : fs.length <= 3) (hd4 : days.length <= 4) (hd : d < days.length) (h : (bstA fs kiln days).is = true) :
  verdO (bstF fs kiln days f d true) (bstF fs kiln days f d false) = (if evB fs kiln days (bstA fs kiln days).f f d (allP fs.length days.length) = true then 1 else if smB fs kiln days (bstA fs kiln days).f f d (allP fs.length days.length) = true then 3 else 2, 0) := by
 have hlt : ∀ P, P ∈ allP fs.length days.length -> (P.map spW).sum < 100 := fun P hP => by
  obtain ⟨h1, h2⟩ := (vF _ _ _).1 hP
  have := zGy h3 P h2
  omega
 have hF := (zGk (alw := fun _ _ => true) (las := fun _ => true) (fs := fs) (kiln := kiln) (days := days) h3 days.length (start fs)).1
 have hF : (bstA fs kiln days).f <= days.length := hF
 -- plans of the least fires
 have hleast : ∀ {alw : Nat -> List Nat -> Bool} {p : List (List Nat)} {g w : Nat}, Pth alw (fun _ => true) fs kiln days days.length (start fs) p g w -> (bstA fs kiln days).f <= g := fun hp => by
  obtain ⟨p1, p2, p3, p4, _⟩ := zDx hp
  have := (zBu (zD4 (alw := fun _ _ => true) p1 p2 (fun _ _ _ => rfl))).2
  have e : cless (workE fs kiln days _).2.2 _ (bstA fs kiln days).f (bstA fs kiln days).w = false := this
  unfold cless at e
  simp only [decide_eq_false_iff_not, not_or, not_and] at e
  rw [p3] at e
  omega
 have hcf : ∀ p, p ∈ allP fs.length days.length -> (cst fs kiln days p / 100 = (bstA fs kiln days).f ↔ (workE fs kiln days (p.map zl)).1 = 0 ∧ (workE fs kiln days (p.map zl)).2.2 = (bstA fs kiln days).f) := fun p hp => by
  have := hlt p hp
  unfold cst
  by_cases h0 : (workE fs kiln days (p.map zl)).1 = 0
  ·rw [if_neg om]
   omega
  ·rw [if_pos h0]
   omega
 have hat : ∀ (p : List (List Nat)) (b : Bool), (∀ k l, p[k]? = some l -> alwF f d b k l = true) -> d < p.length -> decide ((p.getD d []).getD f 0 = 3) = b := fun p b hp hl => by
  have := hp d (p.getD d []) (by rw [List.getD_eq_getElem?_getD, List.getElem?_eq_getElem hl]; rfl)
  unfold alwF at this
  simpa using this
 have hof : ∀ (p : List (List Nat)) (b : Bool), decide ((p.getD d []).getD f 0 = 3) = b -> ∀ k l, p[k]? = some l -> alwF f d b k l = true := fun p b hp k l hk => by
  unfold alwF
  by_cases hkd : k = d
  ·subst hkd
   have e : p.getD k [] = l := by rw [List.getD_eq_getElem?_getD, hk]; rfl
   rw [e] at hp
   rw [hp]
   simp
  ·simp [hkd]
 -- with, and without
 have key : ∀ b : Bool, ((bstF fs kiln days f d b).is = true -> (bstA fs kiln days).f <= (bstF fs kiln days f d b).f) ∧ ((∃ p ∈ allP fs.length days.length, cst fs kiln days p / 100 = (bstA fs kiln days).f ∧ decide ((p.getD d []).getD f 0 = 3) = b) ↔ (bstF fs kiln days f d b).is = true ∧ (bstF fs kiln days f d b).f = (bstA fs kiln days).f) := fun b => by
  refine ⟨fun h1 => ?_, ⟨?_, ?_⟩⟩
  ·obtain ⟨p, hp⟩ := zA2 days.length (start fs) h1
   exact hleast hp
  ·rintro ⟨p, hp, h1, h2⟩
   obtain ⟨h1, h4⟩ := (hcf p hp).1 h1
   have hq := zD4 (alw := alwF f d b) hp h1 (hof p b h2)
   obtain ⟨k1, k2⟩ := zBu hq
   refine ⟨k1, ?_⟩
   obtain ⟨q, hq2⟩ := zA2 days.length (start fs) k1
   have := hleast hq2
   unfold cless at k2
   simp only [decide_eq_false_iff_not, not_or, not_and] at k2
   show (bstO _ _ _ _ _ _ _).f = _
   omega
  ·rintro ⟨h1, h2⟩
   obtain ⟨p, hp⟩ := zA2 days.length (start fs) h1
   obtain ⟨p1, p2, p3, p4, p5⟩ := zDx hp
   refine ⟨p, p1, (hcf p p1).2 ⟨p2, p3.trans h2⟩, hat p b p5 ?_⟩
   rw [((vF _ _ _).1 p1).1]
   exact hd
 have hsm : smB fs kiln days (bstA fs kiln days).f f d (allP fs.length days.length) = true ↔ (bstF fs kiln days f d true).is = true ∧ (bstF fs kiln days f d true).f = (bstA fs kiln days).f := by
  rw [<- (key true).2]
  unfold smB
  rw [List.any_eq_true]
  simp
 have hev : evB fs kiln days (bstA fs kiln days).f f d (allP fs.length days.length) = false ↔ (bstF fs kiln days f d false).is = true ∧ (bstF fs kiln days f d false).f = (bstA fs kiln days).f := by
  rw [<- (key false).2]
  unfold evB
  rw [List.all_eq_false]
  simp
 have hor : ((bstF fs kiln days f d true).is = true ∧ (bstF fs kiln days f d true).f = (bstA fs kiln days).f) ∨ ((bstF fs kiln days f d false).is = true ∧ (bstF fs kiln days f d false).f = (bstA fs kiln days).f) := by
  obtain ⟨p, hp⟩ := zA2 days.length (start fs) h
  obtain ⟨p1, p2, p3, _⟩ := zDx hp
  cases hb : decide ((p.getD d []).getD f 0 = 3) with
  | true => exact .inl ((key true).2.1 ⟨p, p1, (hcf p p1).2 ⟨p2, p3⟩, hb⟩)
  | false => exact .inr ((key false).2.1 ⟨p, p1, (hcf p p1).2 ⟨p2, p3⟩, hb⟩)
 have kt := (key true).1
 have kf := (key false).1
 generalize bstF fs kiln days f d true = x at *
 generalize bstF fs kiln days f d false = y at *
 generalize (bstA fs kiln days).f = n at *
 have h1 : ¬ (x.is = false ∧ y.is = false) := by
  rintro ⟨a, b⟩
  rcases hor with ⟨c, _⟩ | ⟨c, _⟩
  ·rw [a] at c; cases c
  ·rw [b] at c; cases c
 unfold verdO
 rw [if_neg h1]
 cases he : evB fs kiln days n f d (allP fs.length days.length) with
 | true =>
  have hy : ¬ (y.is = true ∧ y.f = n) := fun h => by rw [hev.2 h] at he; cases he
  have hx := hor.resolve_right hy
  rw [if_neg, if_pos, if_pos rfl]
  ·cases hyi : y.is with
   | false => exact .inl rfl
   | true => have := kf hyi; exact .inr ⟨hx.1, by have : y.f ≠ n := fun e => hy ⟨hyi, e⟩; omega⟩
  ·rintro (h | ⟨h, h'⟩)
   ·rw [hx.1] at h; cases h
   ·have := kf h; omega
 | false =>
  have hy := hev.1 he
  rw [if_neg (show ¬ (false = true) by simp)]
  cases hs : smB fs kiln days n f d (allP fs.length days.length) with
  | true =>
   have hx := hsm.1 hs
   rw [if_neg, if_neg, if_pos rfl]
   ·rintro (h | ⟨_, h⟩)
    ·rw [hy.1] at h; cases h
    ·omega
   ·rintro (h | ⟨_, h⟩)
    ·rw [hx.1] at h; cases h
    ·omega
  | false =>
   have hx : ¬ (x.is = true ∧ x.f = n) := fun h => by rw [hsm.2 h] at hs; cases hs
   rw [if_pos, if_neg (show ¬ (false = true) by simp)]
   cases hxi : x.is with
   | false => exact .inl rfl
   | true => have := kt hxi; exact .inr ⟨hy.1, by have : x.f ≠ n := fun e => hx ⟨hxi, e⟩; omega⟩
end
end Go.Proofs.Yteppiphdbondeaa.N
namespace Go.Proofs.Yteppiphdbondeaa.N
open Go Go.RowKit Go.Proofs
set_option linter.unusedSectionVars false
variable {j k n : Nat} {p : List Meta} {α β : Type}
section
variable [I : Sys] {C : Ctx} {fr : List (Nat × Value)} {hp hp' : List Res} {a : Act} {w : World} {ops : Array Oper} {Q : Exit -> Act -> World -> Prop}
theorem At.blk_row (ha : At C fr hp a w) {b e n size : Nat} {xs : List Value} (hl : xs.length = n * size) (hn : n <= maxLen) (hu : Upd (.blk b (.cells xs.toArray e (0, 0))) (.row e size (some ⟨b, 0, none⟩) n n xs) hp hp') : At C fr hp' a w := by
 have hb := ha.own _ hu.mem
 refine ha.turn hu (⟨rfl, rfl, rfl, Nat.le_refl _, fun _ _ _ => rfl⟩ : w.grownBy w _) ⟨hl, .inr ⟨b, n, xs.toArray, rfl, hb.1, hb.2, Nat.le_refl _, hn, by simpa using hl, ?_⟩⟩ (fun k hk => .inl ?_)
 ·rw [<- hl]; simp
 ·exact hk
theorem zG9 {l : List Oper} {b e : Nat} (size : Nat) {xs : List Value} (hl : xs.length = n * size) (hn : n <= maxLen) (hu : Upd (.blk b (.cells xs.toArray e (0, 0))) (.row e size (some ⟨b, 0, none⟩) n n xs) hp hp') (h : Lst C ops Q l fr hp') : Lst C ops Q l fr hp := fun a w ha => h a w (ha.blk_row hl hn hu)
theorem zOm (ha : At C fr hp a w) {e size n c : Nat} {A : Option Addr} {xs : List Value} (hm : Res.row e size A n c xs ∈ hp) (h : A = none) : n = 0 ∧ c = 0 := by
 subst h
 rcases (ha.own _ hm).2 with ⟨h1, h2⟩ | ⟨g, cap, cur, hv, _⟩
 ·injection h1 with _ h4 h5
  exact ⟨h4, h5⟩
 ·injection hv with h1
  cases h1
theorem zTx (ha : At C fr hp a w) {m : Meta} (hm : mrow m ∈ hp) (h : m.1 = none) : m.2.2 = [] ∧ m.2.1 = 0 := by
 obtain ⟨h1, h2⟩ := zOm ha hm h
 exact ⟨List.eq_nil_of_length_eq_zero h1, h2⟩
theorem zOq (ha : At C fr hp a w) {m : Meta} (hm : mrow m ∈ hp) : RdL ncell 1 w m.1 m.2.2 := zGq ha (fun _ => rfl) hm
end
abbrev PMeta : Type := Option Addr × Nat × List Meta
def pcell (p : PMeta) : Value := .slice p.1 p.2.2.length p.2.1
def prow (p : PMeta) : Res := .row 22 1 p.1 p.2.2.length p.2.1 (p.2.2.map mcell)
def plist (p : PMeta) : List (List Nat) := p.2.2.map (·.2.2)
def mcell1 (m : Meta) : List Value := [mcell m]
theorem zBf (l : List Meta) : l.flatMap mcell1 = l.map mcell := by
 induction l with
 | nil => rfl
 | cons m l ih => rw [List.flatMap_cons, ih]; rfl
theorem zEx (m : Meta) : ∀ u ∈ mcell1 m, u.oneCell' = true := by
 intro u hu
 simp only [mcell1, List.mem_singleton] at hu
 subst hu
 rfl
structure RdP (w : World) (A : Option Addr) (p : List Meta) : Prop where
 outer : RdL mcell1 1 w A p
 inner : ∀ m ∈ p, RdL ncell 1 w m.1 m.2.2
theorem RdP.z [I : Sys] {w : World} {A : Option Addr} (h : RdP w A p) : RdZ w A (p.map zmeta) where
 outer := fun hl => by
  obtain ⟨b, o, h1, h2, h3⟩ := h.outer (by simpa using hl)
  refine ⟨b, o, h1, h2, fun k x hk j u hu => ?_⟩
  rw [List.getElem?_map] at hk
  obtain ⟨m, hm, rfl⟩ := Option.map_eq_some_iff.1 hk
  dsimp only at hu
  rw [zIp] at hu
  exact h3 k m hm j u hu
 inner := fun m hm => by
  obtain ⟨x, hx, rfl⟩ := List.mem_map.1 hm
  exact zRe (h.inner x hx)
section
variable [I : Sys] {C : Ctx} {fr : List (Nat × Value)} {hp hp' : List Res} {a : Act} {w : World}
theorem zE3 (ha : At C fr hp a w) {A : Option Addr} {c : Nat} {p : List Meta} (h1 : Res.row 22 1 A p.length c (p.map mcell) ∈ hp) : RdL mcell1 1 w A p :=
 qV ha (cells := mcell1) (size := 1) (e := 22) (c := c) (n := p.length) (fun _ => rfl) (by rw [zBf]; exact h1) rfl
theorem zJk (ha : At C fr hp a w) {p : PMeta} (h1 : prow p ∈ hp) (h2 : ∀ m ∈ p.2.2, mrow m ∈ hp) : RdP w p.1 p.2.2 := ⟨zE3 ha h1, fun m hm => zOq ha (h2 m hm)⟩
theorem zTb (ha : At C fr hp a w) {p : PMeta} (hm : prow p ∈ hp) (h : p.1 = none) : p.2.2 = [] ∧ p.2.1 = 0 := by
 obtain ⟨h1, h2⟩ := zOm ha hm h
 exact ⟨List.eq_nil_of_length_eq_zero h1, h2⟩
theorem wK {mr : List PMeta} {m : PMeta} (h : mr.reverse[k]? = some m) : (mr.reverse.map pcell)[k]? = some (pcell m) := by rw [List.getElem?_map, h]; rfl
end
theorem zUk {l : List Nat} {x : Nat} (h : l[j]? = some x) : (l.take (j + 1)).countP (· == 2) = (l.take j).countP (· == 2) + if x = 2 then 1 else 0 := by
 rw [List.take_add_one, h, List.countP_append]
 by_cases hx : x = 2 <;> simp [hx]
theorem zSw {i : Nat} {m : Meta} (h : p[i]? = some m) : ((p.take (i + 1)).map fun m => spW m.2.2).sum = ((p.take i).map fun m => spW m.2.2).sum + spW m.2.2 := by
 rw [List.take_add_one, h, List.map_append, List.sum_append]
 simp
theorem zOi (h : ∀ m ∈ p, m.2.2.length <= n) : (p.map fun m => spW m.2.2).sum <= p.length * n := by
 induction p with
 | nil => simp
 | cons m p ih =>
  rw [List.map_cons, List.sum_cons, List.length_cons, Nat.succ_mul]
  have := zCy m.2.2
  have := h m (by simp)
  have := ih fun x hx => h x (by simp [hx])
  omega
theorem zAt (f : α -> β) (m : α) (mr : List α) : (m :: mr).reverse.map f = mr.reverse.map f ++ [f m] := by simp
theorem zKn {l : List α} {f : α -> List β} {x : α} (h : l[j]? = some x) : (l.take (j + 1)).flatMap f = (l.take j).flatMap f ++ f x := by
 rw [List.take_add_one, h, List.flatMap_append]
 simp
theorem zJp {f : Nat -> α} : (List.range (k + 1)).map f = (List.range k).map f ++ [f k] := by rw [List.range_succ, List.map_append]; rfl
theorem zBg {l : List α} {f : α -> β} {x : α} (h : l[k]? = some x) : (l.take (k + 1)).map f = (l.take k).map f ++ [f x] := by rw [List.take_add_one, h, List.map_append]; rfl
theorem vN {l : List α} {L : List β} {f : α -> β} (h : l.map f = L) {k : Nat} {x : α} (hx : l[k]? = some x) : L[k]? = some (f x) := by rw [<- h, List.getElem?_map, hx]; rfl
end Go.Proofs.Yteppiphdbondeaa.N
namespace Go.Proofs.Yteppiphdbondeaa.N
open Go Go.RowKit Go.Proofs
set_option linter.unusedSectionVars false
variable [I : Sys]

theorem zXz (B : Option Addr) (c : Nat) (l : List Nat) (hl : l.length <= 400000) (hB : B = none -> l = [] ∧ c = 0) (w : World) (hA : RdL ncell 1 w B l) : Calls Try.prog 57 #[.slice B l.length c] w fun e w' => ∃ A' c', e = .returned (.slice A' l.length c') ∧ Grew w w' [.row 3 1 A' l.length c' (ints l)] := by
  refine enter (N := 6) [(0, .slice B l.length c)] Try.func57 rfl Try.ntmps57 rfl rfl (zD (zB (zE rfl rfl (zA (zC (zD (zB (zEz rfl Try.underlying22 F.ti3 ?_))))))))
  intro b3
  refine zCa 1 (.head _) (zF rfl rfl (wP (cells := ncell) rfl rfl rfl Try.underlying22 F.ti3 rfl rfl (fun _ => rfl) zZ9 (fun a w ha => hA.later ha.below) hB rfl (by unfold maxLen; omega) om ?_))
  intro A1 c1
  rw [<- zKi]
  refine zE rfl rfl (zA (zC (zY ?_)))
  simp only [Nat.zero_add, List.nil_append]
  exact jJ rfl (fun a w ha => jO rfl rfl ha) (fun a w ha => ⟨A1, c1, rfl, ha.grown sbl⟩)

theorem zRu {n : Nat} (hn : n <= 3) (w : World) : Calls Try.prog 50 #[.int .i64 4, .int .i64 (n : Int)] w fun e w' => ∃ (A : Option Addr) (c : Nat) (S : List Meta), S.reverse.map (·.2.2) = exts [] n ∧ e = .returned (.slice A S.length c) ∧ Grew w w' (.row 22 1 A S.length c (S.reverse.map mcell) :: S.map mrow) := by
  refine enter (N := 40) [(0, .int .i64 4), (1, .int .i64 (n : Int))] Try.func50 rfl Try.ntmps50 rfl rfl (zD (zB (zE rfl rfl (zA (zC (zD (zB (jV (vs := [(0, _)]) rfl rfl Try.underlying29 F.ti22 rfl rfl rfl ?_))))))))
  intro b10
  refine zG9 (n := 1) 1 rfl (by unfold maxLen; omega) (.head _) (zE rfl rfl (zA (zC (zD (zD (zB (zE rfl rfl (zA (zC (zS (zA5 3 1 (qW (G := Nat × Option Addr × Nat × List Meta) (fun g => g.1 <= n ∧ g.2.2.2.reverse.map (·.2.2) = exts [] g.1) (fun g => n - g.1) (fun g => [(0, .int .i64 4), (1, .int .i64 (n : Int)), (5, .slice g.2.1 g.2.2.2.length g.2.2.1), (6, .int .i64 (g.1 : Int))]) (fun g => .row 22 1 g.2.1 g.2.2.2.length g.2.2.1 (g.2.2.2.reverse.map mcell) :: g.2.2.2.map mrow) (0, some ⟨b10, 0, none⟩, 1, [(none, 0, [])]) ⟨Nat.zero_le _, rfl⟩ sbn pkk ?_))))))))))))
  rintro ⟨i, A5, c5, S⟩ ⟨hi0, hS⟩
  dsimp only at hi0 hS ⊢
  have hSl : S.length = 4 ^ i := by have h := congrArg List.length hS; rw [wS] at h; simpa using h
  refine zD (zD (zB (zF rfl rfl (zF rfl rfl (zI rfl rfl rfl jR ?_)))))
  refine zA (zC (zN rfl (fun hc0 => ?_) (fun hc0 => ?_)))
  · skip
    have hi : i < n := by omega
    have hpow : 4 ^ i <= 16 := by
      have h : i = 0 ∨ i = 1 ∨ i = 2 := by omega
      rcases h with rfl | rfl | rfl <;> decide
    have hpos : 0 < 4 ^ i := Nat.pow_pos (by decide)
    refine zQ (zC (zD (zS (zD (zB (zD8 A5 om ?_))))))
    intro g5 hg5
    refine zE rfl rfl (zA (zC (zD (zD (zB (zE rfl rfl (zA (zC (zS (zA5 22 1 (qW (G := Nat × Option Addr × Nat × List Meta) (fun g => g.1 <= S.length ∧ g.2.2.2.reverse.map (·.2.2) = ((exts [] i).take g.1).flatMap (fun l => (List.range 4).map fun k => l ++ [k]) ∧ g.2.2.2.length = 4 * g.1) (fun g => S.length - g.1) (fun g => [(0, .int .i64 4), (1, .int .i64 (n : Int)), (5, .slice A5 S.length c5), (6, .int .i64 (i : Int)), (7, .slice g.2.1 g.2.2.2.length g.2.2.1), (8, .int .i64 (g.1 : Int))]) (fun g => .row 22 1 g.2.1 g.2.2.2.length g.2.2.1 (g.2.2.2.reverse.map mcell) :: .row 22 1 A5 S.length c5 (S.reverse.map mcell) :: (g.2.2.2.map mrow ++ S.map mrow)) (0, none, 0, []) ⟨Nat.zero_le _, by simp, rfl⟩ sbn pkk ?_)))))))))))
    rintro ⟨j, A7, c7, R⟩ ⟨hj0, hR, hRl⟩
    dsimp only at hj0 hR hRl ⊢
    refine zD (zD (zB (zF rfl rfl (zF rfl rfl (jX rfl rfl Try.underlying29 (zI rfl rfl rfl jR ?_))))))
    refine zA (zC (zN rfl (fun hc1 => ?_) (fun hc1 => ?_)))
    · skip
      have hj : j < S.length := by omega
      obtain ⟨m, hm⟩ : ∃ x, S.reverse[j]? = some x := ⟨_, List.getElem?_eq_getElem (by simp; omega)⟩
      have hmS : m ∈ S := List.mem_reverse.1 (List.mem_of_getElem? hm)
      have hml : (exts [] i)[j]? = some m.2.2 := vN hS hm
      have hmlen : m.2.2.length <= 3 := by
        obtain ⟨y, h1, h2, _⟩ := (vV _ _ _).1 (List.mem_of_getElem? hml)
        rw [h1]; simp; omega
      refine zQ (zC (zD (zS (zD (zB (zE rfl rfl (zA (zC (zS (qW (G := Nat × Option Addr × Nat × List Meta) (fun g => g.1 <= 4 ∧ g.2.2.2.reverse.map (·.2.2) = ((exts [] i).take j).flatMap (fun l => (List.range 4).map fun k => l ++ [k]) ++ (List.range g.1).map (fun k => m.2.2 ++ [k]) ∧ g.2.2.2.length = 4 * j + g.1) (fun g => 4 - g.1) (fun g => [(0, .int .i64 4), (1, .int .i64 (n : Int)), (5, .slice A5 S.length c5), (6, .int .i64 (i : Int)), (7, .slice g.2.1 g.2.2.2.length g.2.2.1), (8, .int .i64 (j : Int)), (9, .int .i64 (g.1 : Int))]) (fun g => .row 22 1 g.2.1 g.2.2.2.length g.2.2.1 (g.2.2.2.reverse.map mcell) :: .row 22 1 A5 S.length c5 (S.reverse.map mcell) :: (g.2.2.2.map mrow ++ S.map mrow)) (0, A7, c7, R) ⟨Nat.zero_le _, by simp [hR], by simp [hRl]⟩ sbn pkk ?_))))))))))
      rintro ⟨k, A8, c8, R⟩ ⟨hk0, hR, hRl⟩
      dsimp only at hk0 hR hRl ⊢
      refine zD (zD (zB (zF rfl rfl (zF rfl rfl (zI rfl rfl rfl jR ?_)))))
      refine zA (zC (zN rfl (fun hc2 => ?_) (fun hc2 => ?_)))
      · skip
        refine zQ (zC (zD (zS (zB (zF rfl rfl (zF rfl rfl (zF rfl rfl (qE (j := j) rfl (show _ = some (Value.slice (some ⟨g5, 0, none⟩) S.length c5) from by rw [<- hg5]; rfl) rfl Try.underlying29 F.ti22 rfl hj (kN (v := .slice m.1 m.2.2.length m.2.1) rfl rfl F.one22 (fun a w ha => kU ha (InR.mem (A := A5)) hg5 (by rw [show 0 + j * 1 = j from by omega]; exact zKj hm)) (qK (X := Option Addr × Nat) (vs := [_]) (p := fun _ => True) (val := fun y => .slice y.1 m.2.2.length y.2) (rs := fun y => [.row 3 1 y.1 m.2.2.length y.2 (ints m.2.2)]) rfl rfl F.ent57 (fun a w ha => (zXz m.1 m.2.1 m.2.2 om (zTx ha (by repeat (first | exact List.mem_append_right _ (List.mem_map_of_mem hmS) | exact List.mem_append_left _ (List.mem_map_of_mem hmS) | exact List.mem_map_of_mem hmS | apply List.Mem.tail))) w (zOq ha (by repeat (first | exact List.mem_append_right _ (List.mem_map_of_mem hmS) | exact List.mem_append_left _ (List.mem_map_of_mem hmS) | exact List.mem_map_of_mem hmS | apply List.Mem.tail)))).mono (fun e w' h => by obtain ⟨A', c', h1, h2⟩ := h; exact ⟨(A', c'), trivial, h1, h2⟩)) ?_))))))))))
        rintro ⟨A3, c3⟩ -
        dsimp only [List.cons_append, List.nil_append]
        refine zF rfl rfl (jV (vs := [(0, _)]) rfl rfl Try.underlying22 F.ti3 rfl rfl rfl ?_)
        intro b34
        refine kL rfl rfl rfl Try.underlying22 F.ti3 rfl rfl rfl (by unfold maxLen; omega) om ?_
        intro A9 c9
        refine jV (vs := [(0, _)]) rfl rfl Try.underlying29 F.ti22 rfl rfl rfl ?_
        intro b36
        refine kL rfl rfl rfl Try.underlying29 F.ti22 rfl rfl rfl (by unfold maxLen; omega) om ?_
        intro A10 c10
        refine zE rfl rfl (zA (zJ (zC (zB (zF rfl rfl (zI rfl rfl rfl (fun w => jK w (zT _ om om)) (zE rfl rfl (zA (kP (k + 1, A10, c10, (A9, c9, m.2.2 ++ [k]) :: R) ⟨by omega, ?_, by simp; omega⟩ tdo (by dsimp only; rw [List.length_cons]; repeat (first | exact Sub.nil _ | refine Sub.cons rfl ?_)) (by dsimp only; rw [List.length_cons, zAt]; simp only [List.map_cons, mrow, mcell, List.length_append, List.length_cons, List.length_nil, zDa, Nat.zero_add, List.cons_append]; repeat (first | exact Pck.nil _ | exact Pck.refl _ | (apply Pck.cons; focus ((repeat (first | exact Rem.here _ | apply Rem.there)); done)) | refine Pck.skip _ ?_)))))))))))
        dsimp only
        rw [zAt, hR, zJp, List.append_assoc]
      · skip
        obtain rfl : k = 4 := by omega
        refine jU (zO (zO (jF (zJ (zC (zB (zF rfl rfl (zI rfl rfl rfl (fun w => jK w (zT _ om om)) (zE rfl rfl (zA (kP (j + 1, A8, c8, R) ⟨by omega, by dsimp only; rw [hR, zKn hml], by dsimp only; omega⟩ tdo sbn pkk)))))))))))
    · skip
      obtain rfl : j = S.length := by omega
      rw [List.take_of_length_le (by rw [wS, hSl]; exact Nat.le_refl _), <- zEu] at hR
      refine jU (zO (zO (jF (zC (zB (zF rfl rfl (zE rfl rfl (zA (zJ (zC (zB (zF rfl rfl (zI rfl rfl rfl (fun w => jK w (zT _ om om)) (zE rfl rfl (zA (kP (i + 1, A7, c7, R) ⟨by omega, hR⟩ tdo sbn (by dsimp only; exact .cons (.here _) (.skip _ (zUd _ _)))))))))))))))))))
  · skip
    obtain rfl : i = n := by omega
    exact jU (zO (zO (jF (zC (zD (zB (zF rfl rfl (zE rfl rfl (zA (zC (zY (jJ rfl (fun a w ha => jO rfl rfl ha) (fun a w ha => ⟨A5, c5, S, hS, rfl, ha.grown (List.Sublist.refl _)⟩)))))))))))))

theorem zQq {pA : Option Addr} {pc : Nat} {p : List Meta} (hpl : p.length <= 4) (hps : ∀ m ∈ p, m.2.2.length <= 4) (w : World) (hP : RdP w pA p) : Calls Try.prog 18 #[.slice pA p.length pc] w fun e w' => e = .returned (.int .i64 (((p.map fun m => spW m.2.2).sum : Nat) : Int)) ∧ Grew w w' [] := by
  refine enter (N := 32) [(0, .slice pA p.length pc)] Try.func18 rfl Try.ntmps18 rfl rfl (zD (zB (zE rfl rfl (zA (zC (zD (zB (zE rfl rfl (zA (zC (zD (zD (zB (zE rfl rfl (zA (zC (zS (qW (G := Nat) (fun i => i <= p.length) (fun i => p.length - i) (fun i => [(0, .slice pA p.length pc), (3, .int .i64 ((((p.take i).map fun m => spW m.2.2).sum : Nat) : Int)), (4, .int .i64 (i : Int))]) (fun _ => []) 0 (Nat.zero_le _) sbn pkk ?_))))))))))))))))))
  intro i hi0
  (try dsimp only at hi0 ⊢)
  refine zD (zD (zB (zF rfl rfl (zF rfl rfl (jX rfl rfl Try.underlying29 (zI rfl rfl rfl jR ?_))))))
  refine zA (zC (zN rfl (fun hc0 => ?_) (fun hc0 => ?_)))
  · skip
    have hi : i < p.length := by omega
    obtain ⟨b, o, hAe, hb, hcell⟩ := hP.outer om
    obtain ⟨m, hm⟩ : ∃ x, p[i]? = some x := ⟨_, List.getElem?_eq_getElem hi⟩
    have hmp : m ∈ p := List.mem_of_getElem? hm
    have hml := hps m hmp
    have hc0 := hcell i m hm 0 (mcell m) rfl
    rw [Nat.add_zero] at hc0
    have hs9 := zOi (p := p.take i) (n := 4) (fun x hx => hps x (List.mem_of_mem_take hx))
    rw [List.length_take] at hs9
    have hs8 := zCy m.2.2
    refine zQ (zC (zD (zS (zD (zB (zE rfl rfl (zA (zC (zS (qW (G := Nat) (fun j => j <= m.2.2.length) (fun j => m.2.2.length - j) (fun j => [(0, .slice pA p.length pc), (3, .int .i64 ((((p.take i).map fun m => spW m.2.2).sum + (m.2.2.take j).countP (· == 2) : Nat) : Int)), (4, .int .i64 (i : Int)), (5, .int .i64 (j : Int))]) (fun _ => []) 0 (Nat.zero_le _) sbn pkk ?_))))))))))
    intro j hj0
    (try dsimp only at hj0 ⊢)
    have hs7 : (m.2.2.take j).countP (· == 2) <= j := Nat.le_trans List.countP_le_length (by rw [List.length_take]; omega)
    refine zD (zD (zB (zF rfl rfl (zF rfl rfl (zF rfl rfl (qE (j := i) rfl (show _ = some (Value.slice (some ⟨b, o, none⟩) p.length pc) from by rw [<- hAe]; rfl) rfl Try.underlying29 F.ti22 rfl hi (kN (v := .slice m.1 m.2.2.length m.2.1) rfl rfl F.one22 (fun a w ha => ha.old hc0 hb) (jX rfl rfl Try.underlying22 (zI rfl rfl rfl jR ?_)))))))))
    refine zA (zC (zN rfl (fun hc1 => ?_) (fun hc1 => ?_)))
    · skip
      have hj : j < m.2.2.length := by omega
      obtain ⟨b2, o2, hAe2, hb2, hcell2⟩ := hP.inner m hmp om
      obtain ⟨x, hx⟩ : ∃ x, m.2.2[j]? = some x := ⟨_, List.getElem?_eq_getElem hj⟩
      have hc2 := hcell2 j x hx 0 _ rfl
      rw [Nat.add_zero] at hc2
      have hst := zUk hx
      refine zQ (zC (zD (zS (zD (zB (zF rfl rfl (zF rfl rfl (qE (j := i) rfl (show _ = some (Value.slice (some ⟨b, o, none⟩) p.length pc) from by rw [<- hAe]; rfl) rfl Try.underlying29 F.ti22 rfl hi (kN (v := .slice m.1 m.2.2.length m.2.1) rfl rfl F.one22 (fun a w ha => ha.old hc0 hb) (zF rfl rfl (qE (j := j) rfl (show _ = some (Value.slice (some ⟨b2, o2, none⟩) m.2.2.length m.2.1) from by rw [<- hAe2]; rfl) rfl Try.underlying22 F.ti3 rfl hj (kN (v := .int .i64 (x : Int)) rfl rfl F.one3 (fun a w ha => ha.old hc2 hb2) (zI rfl rfl rfl jY ?_)))))))))))))
      refine zA (zC (zN rfl (fun hc2 => ?_) (fun hc2 => ?_)))
      · skip
        rw [if_pos om] at hst
        refine zB (zF rfl rfl (zI (v := .int .i64 ((((p.take i).map fun m => spW m.2.2).sum + (m.2.2.take (j + 1)).countP (· == 2) : Nat) : Int)) rfl rfl rfl (fun w => jK w (by rw [zT _ om om]; omega)) (zE rfl rfl (zA (zJ (zC (zB (zF rfl rfl (zI rfl rfl rfl (fun w => jK w (zT _ om om)) (zE rfl rfl (zA (kP (j + 1) om tdo sbn pkk))))))))))))
      · skip
        rw [if_neg om] at hst
        refine zQ (zJ (zC (zB (zF rfl rfl (zI rfl rfl rfl (fun w => jK w (zT _ om om)) (zE rfl rfl (zA (kP (j + 1) om tdo (by (try dsimp only); rw [hst, Nat.add_zero]; repeat (first | exact Sub.nil _ | refine Sub.cons rfl ?_)) pkk))))))))
    · skip
      obtain rfl : j = m.2.2.length := by omega
      refine jU (zO (zO (jF (zJ (zC (zB (zF rfl rfl (zI rfl rfl rfl (fun w => jK w (zT _ om om)) (zE rfl rfl (zA (kP (i + 1) om tdo (by (try dsimp only); rw [zSw hm, show spW m.2.2 = (m.2.2.take m.2.2.length).countP (· == 2) from by rw [List.take_length]; rfl]; repeat (first | exact Sub.nil _ | refine Sub.cons rfl ?_)) pkk)))))))))))
  · skip
    obtain rfl : i = p.length := by omega
    rw [List.take_length]
    exact jU (zO (zO (jF (zC (zD (zB (zF rfl rfl (zE rfl rfl (zA (zC (zY (jJ rfl (fun a w ha => jO rfl rfl ha) (fun a w ha => ⟨rfl, ha.grown nsl⟩)))))))))))))

theorem F.ent50 : Enters Try.prog 50 := jD Try.func50 rfl (by kernel_rfl)
theorem zV8 (a b c : List Res) : Pck (a ++ c) (a ++ (b ++ c)) := by
 refine Pck.perm (l' := b ++ (a ++ c)) ?_ ?_
 ·rw [<- List.append_assoc, <- List.append_assoc]
  exact List.Perm.append_right _ List.perm_append_comm
 ·induction b with
  | nil => exact Pck.refl _
  | cons x b ih => exact Pck.skip _ ih

theorem zZz {A D : Option Addr} {ca dc kiln : Nat} {fs : List Flt} {days : List Nat} (hf2 : fs.length <= 2) (hd2 : days.length <= 2) (w : World) : Calls Try.prog 16 #[.agg [.slice A fs.length ca, .int .i64 (kiln : Int), .slice D days.length dc].toArray] w fun e w' => ∃ (A8 : Option Addr) (c8 : Nat) (L : List PMeta) (S : List Meta), L.reverse.map plist = allP fs.length days.length ∧ (∀ p ∈ L, ∀ m ∈ p.2.2, m ∈ S) ∧ e = .returned (.slice A8 L.length c8) ∧ Grew w w' (.row 29 1 A8 L.length c8 (L.reverse.map pcell) :: (L.map prow ++ S.map mrow)) := by
 refine enter (N := 50) [(0, .agg [.slice A fs.length ca, .int .i64 (kiln : Int), .slice D days.length dc].toArray)] Try.func16 rfl Try.ntmps16 rfl rfl (zD (zB (kA rfl rfl ?_)))
 intro b1
 refine zE rfl rfl (zA (zC (zD (zB (zL rfl rfl F.fi27_0 F.ti25 (zR rfl rfl F.one25 (jX rfl rfl Try.underlying25 (qK (X := Option Addr × Nat × List Meta) (vs := [_, _]) (p := fun y => y.2.2.reverse.map (·.2.2) = exts [] fs.length) (val := fun y => .slice y.1 y.2.2.length y.2.1) (rs := fun y => .row 22 1 y.1 y.2.2.length y.2.1 (y.2.2.reverse.map mcell) :: y.2.2.map mrow) rfl rfl F.ent50 (fun a w ha => (zRu om w).mono (fun e w' h => by obtain ⟨A', c', S', h1, h2, h3⟩ := h; exact ⟨(A', c', S'), h1, h2, h3⟩)) ?_))))))))
 rintro ⟨A3, c3, S⟩ hS
 dsimp only at hS ⊢
 have hSl : S.length = 4 ^ fs.length := by have h := congrArg List.length hS; rw [wS] at h; simpa using h
 have hS16 : 4 ^ fs.length <= 16 := by
  have h : fs.length = 0 ∨ fs.length = 1 ∨ fs.length = 2 := by omega
  rcases h with h | h | h <;> rw [h] <;> decide
 have hSp : 0 < 4 ^ fs.length := Nat.pow_pos (by decide)
 refine zE6 (List.Perm.cons _ List.perm_append_comm) ?_
 simp only [List.cons_append, List.nil_append]
 refine zE rfl rfl (zA (zC (zD (zB (jV (vs := [(0, _)]) rfl rfl Try.underlying33 F.ti29 rfl rfl rfl ?_)))))
 intro b13
 refine zG9 (n := 1) 1 rfl (by unfold maxLen; omega) (.head _) (zE rfl rfl (zA (zC (zD (zD (zB (zE rfl rfl (zA (zC (zS (zA5 22 1 (qW (G := Nat × Option Addr × Nat × List PMeta) (fun g => g.1 <= days.length ∧ g.2.2.2.reverse.map plist = allP fs.length g.1 ∧ ∀ p ∈ g.2.2.2, ∀ m ∈ p.2.2, m ∈ S) (fun g => days.length - g.1) (fun g => [(1, pt b1), (3, .slice A3 S.length c3), (4, .slice g.2.1 g.2.2.2.length g.2.2.1), (5, .int .i64 (g.1 : Int))]) (fun g => .row 29 1 g.2.1 g.2.2.2.length g.2.2.1 (g.2.2.2.reverse.map pcell) :: .blk b1 (.cells [.slice A fs.length ca, .int .i64 (kiln : Int), .slice D days.length dc].toArray 27 (0, 0)) :: .row 22 1 A3 S.length c3 (S.reverse.map mcell) :: (g.2.2.2.map prow ++ S.map mrow)) (0, some ⟨b13, 0, none⟩, 1, [(none, 0, [])]) ⟨Nat.zero_le _, rfl, by simp⟩ sbn (by dsimp only [List.map_cons, List.map_nil, List.cons_append, List.nil_append, prow]; exact .cons (.there _ (.here _)) (.cons (.there _ (.there _ (.here _))) (.cons (.there _ (.here _)) (.refl _)))) ?_))))))))))))
 rintro ⟨d, A4, c4, L⟩ ⟨hd0, hL, hLS⟩
 dsimp only at hd0 hL hLS ⊢
 have hLl : L.length = (allP fs.length d).length := by have h := congrArg List.length hL; simpa using h
 refine zD (zD (zB (zF rfl rfl (zL rfl rfl F.fi27_2 F.ti22 (zR rfl rfl F.one22 (jX rfl rfl Try.underlying22 (zI rfl rfl rfl jR ?_)))))))
 refine zA (zC (zN rfl (fun hc0 => ?_) (fun hc0 => ?_)))
 ·have hd : d < days.length := by omega
  have hA1 : (allP fs.length d).length <= 16 := by
   have h : d = 0 ∨ d = 1 := by omega
   rw [zAr]
   rcases h with rfl | rfl
   ·show 1 <= 16; decide
   ·rw [Nat.pow_one]; exact hS16
  have hLp : 0 < (allP fs.length d).length := by rw [zAr]; exact Nat.pow_pos hSp
  refine zQ (zC (zD (zS (zD (zB (zD8 A4 om ?_))))))
  intro g4 hg4
  refine zD8 A3 om ?_
  intro g3 hg3
  refine zE rfl rfl (zA (zC (zD (zD (zB (zE rfl rfl (zA (zC (zS (zA5 29 1 (qW (G := Nat × Option Addr × Nat × List PMeta) (fun g => g.1 <= L.length ∧ g.2.2.2.reverse.map plist = ((allP fs.length d).take g.1).flatMap (fun p => (exts [] fs.length).map fun l => p ++ [l]) ∧ g.2.2.2.length = S.length * g.1 ∧ ∀ p ∈ g.2.2.2, ∀ m ∈ p.2.2, m ∈ S) (fun g => L.length - g.1) (fun g => [(1, pt b1), (3, .slice A3 S.length c3), (4, .slice A4 L.length c4), (5, .int .i64 (d : Int)), (6, .slice g.2.1 g.2.2.2.length g.2.2.1), (7, .int .i64 (g.1 : Int))]) (fun g => .row 29 1 g.2.1 g.2.2.2.length g.2.2.1 (g.2.2.2.reverse.map pcell) :: .row 29 1 A4 L.length c4 (L.reverse.map pcell) :: .blk b1 (.cells [.slice A fs.length ca, .int .i64 (kiln : Int), .slice D days.length dc].toArray 27 (0, 0)) :: .row 22 1 A3 S.length c3 (S.reverse.map mcell) :: (g.2.2.2.map prow ++ (L.map prow ++ S.map mrow))) (0, none, 0, []) ⟨Nat.zero_le _, by simp, rfl, by simp⟩ sbn pkk ?_)))))))))))
  rintro ⟨i, A6, c6, R⟩ ⟨hi0, hR, hRl, hRS⟩
  dsimp only at hi0 hR hRl hRS ⊢
  refine zD (zD (zB (zF rfl rfl (zF rfl rfl (jX rfl rfl Try.underlying33 (zI rfl rfl rfl jR ?_))))))
  refine zA (zC (zN rfl (fun hc1 => ?_) (fun hc1 => ?_)))
  ·have hi : i < L.length := by omega
   obtain ⟨p, hp⟩ : ∃ x, L.reverse[i]? = some x := ⟨_, List.getElem?_eq_getElem (by simp; omega)⟩
   have hpL : p ∈ L := List.mem_reverse.1 (List.mem_of_getElem? hp)
   have hpl : (allP fs.length d)[i]? = some (plist p) := vN hL hp
   have hplen : p.2.2.length = d := by have h := ((vF _ _ _).1 (List.mem_of_getElem? hpl)).1; unfold plist at h; simpa using h
   have hmi : S.length * i <= 16 * 16 := Nat.mul_le_mul om om
   refine zQ (zC (zD (zS (zD (zB (zH4 (fun a w ha => zTb ha (p := p) (by repeat (first | exact List.mem_append_right _ (List.mem_append_left _ (List.mem_map_of_mem hpL)) | exact List.mem_append_left _ (List.mem_map_of_mem hpL) | apply List.Mem.tail))) ?_))))))
   intro hB
   refine zE rfl rfl (zA (zC (zS (qW (G := Nat × Option Addr × Nat × List PMeta) (fun g => g.1 <= S.length ∧ g.2.2.2.reverse.map plist = ((allP fs.length d).take i).flatMap (fun p => (exts [] fs.length).map fun l => p ++ [l]) ++ ((exts [] fs.length).take g.1).map (fun l => plist p ++ [l]) ∧ g.2.2.2.length = S.length * i + g.1 ∧ ∀ p ∈ g.2.2.2, ∀ m ∈ p.2.2, m ∈ S) (fun g => S.length - g.1) (fun g => [(1, pt b1), (3, .slice A3 S.length c3), (4, .slice A4 L.length c4), (5, .int .i64 (d : Int)), (6, .slice g.2.1 g.2.2.2.length g.2.2.1), (7, .int .i64 (i : Int)), (8, .int .i64 (g.1 : Int))]) (fun g => .row 29 1 g.2.1 g.2.2.2.length g.2.2.1 (g.2.2.2.reverse.map pcell) :: .row 29 1 A4 L.length c4 (L.reverse.map pcell) :: .blk b1 (.cells [.slice A fs.length ca, .int .i64 (kiln : Int), .slice D days.length dc].toArray 27 (0, 0)) :: .row 22 1 A3 S.length c3 (S.reverse.map mcell) :: (g.2.2.2.map prow ++ (L.map prow ++ S.map mrow))) (0, A6, c6, R) ⟨Nat.zero_le _, by simp [hR], by simp [hRl], hRS⟩ sbn pkk ?_))))
   rintro ⟨k, A6, c6, R⟩ ⟨hk0, hR, hRl, hRS⟩
   dsimp only at hk0 hR hRl hRS ⊢
   refine zD (zD (zB (zF rfl rfl (zF rfl rfl (jX rfl rfl Try.underlying29 (zI rfl rfl rfl jR ?_))))))
   refine zA (zC (zN rfl (fun hc2 => ?_) (fun hc2 => ?_)))
   ·have hk : k < S.length := by omega
    obtain ⟨m, hm⟩ : ∃ x, S.reverse[k]? = some x := ⟨_, List.getElem?_eq_getElem (by simp; omega)⟩
    have hmS : m ∈ S := List.mem_reverse.1 (List.mem_of_getElem? hm)
    have hml : (exts [] fs.length)[k]? = some m.2.2 := vN hS hm
    refine zQ (zC (zD (zS (xK (G := (Option Addr × Nat) × Option Addr × Nat) (fun _ => True) (fun g => [(1, pt b1), (3, .slice A3 S.length c3), (4, .slice A4 L.length c4), (5, .int .i64 (d : Int)), (6, .slice g.2.1 (R.length + 1) g.2.2), (7, .int .i64 (i : Int)), (8, .int .i64 (k : Int))]) (fun g => .row 29 1 g.2.1 (R.length + 1) g.2.2 (R.reverse.map pcell ++ [.slice g.1.1 (p.2.2.length + 1) g.1.2]) :: .row 22 1 g.1.1 (p.2.2.length + 1) g.1.2 (p.2.2.map mcell ++ [.slice m.1 m.2.2.length m.2.1]) :: .row 29 1 A4 L.length c4 (L.reverse.map pcell) :: .blk b1 (.cells [.slice A fs.length ca, .int .i64 (kiln : Int), .slice D days.length dc].toArray 27 (0, 0)) :: .row 22 1 A3 S.length c3 (S.reverse.map mcell) :: (R.map prow ++ (L.map prow ++ S.map mrow))) ?_ ?_))))
    ·refine kD [.r A6] F.follows 16 rfl [false, false, false, false, false, false, false, false, false, false, false, false, false, false, false, false] rfl (zG 0 rfl rfl rfl (zP rfl) (zG 2 rfl rfl rfl (zP rfl) (zG 3 rfl rfl rfl (zP rfl) (zG 4 rfl rfl rfl (kM (j := i) (show _ = some (Value.slice (some ⟨g4, 0, none⟩) L.length c4) from by rw [<- hg4]; rfl) rfl Try.underlying33 F.ti29 rfl hi) (zG 5 rfl rfl rfl (jP (v := .slice p.1 p.2.2.length p.2.1) rfl F.one29 (fun a w ha => kU ha (InR.mem (A := A4)) hg4 (by rw [show 0 + i * 1 = i from by omega]; exact wK hp))) (zG 7 rfl rfl rfl (zP rfl) (zG 8 rfl rfl rfl (zP rfl) (zG 9 rfl rfl rfl (kM (j := k) (show _ = some (Value.slice (some ⟨g3, 0, none⟩) S.length c3) from by rw [<- hg3]; rfl) rfl Try.underlying29 F.ti22 rfl hk) (zG 10 rfl rfl rfl (jP (v := .slice m.1 m.2.2.length m.2.1) rfl F.one22 (fun a w ha => kU ha (InR.mem (A := A3)) hg3 (by rw [show 0 + k * 1 = k from by omega]; exact zKj hm))) ?_)))))))))
     refine qI 1 11 kr rfl rfl rfl rfl ?_ ?_
     ·refine zEz rfl Try.underlying29 F.ti22 ?_
      intro b34
      refine zCa 1 (.head _) ?_
      refine zA (anb (qI 6 11 kr rfl rfl rfl rfl ?_ ?_))
      ·refine wP (cells := mcell1) rfl rfl rfl Try.underlying29 F.ti22 rfl rfl (fun _ => rfl) zEx (fun a w ha => zE3 ha (show prow p ∈ _ from (by repeat (first | exact List.mem_append_right _ (List.mem_append_left _ (List.mem_map_of_mem hpL)) | exact List.mem_append_left _ (List.mem_map_of_mem hpL) | apply List.Mem.tail)))) hB rfl (by unfold maxLen; omega) om ?_
       intro A39 c39
       rw [zBf]
       simp only [Nat.zero_add, List.nil_append]
       refine zA (anb (an1 11 rfl (jV (vs := [(0, _)]) rfl rfl Try.underlying29 F.ti22 rfl rfl rfl ?_)))
       intro b44
       refine zA (anb (an1 12 rfl (kL rfl rfl rfl Try.underlying29 F.ti22 rfl rfl rfl (by unfold maxLen; omega) om ?_)))
       intro A45 c45
       refine zA (anb (an1 13 rfl (jV (vs := [(0, _)]) rfl rfl Try.underlying33 F.ti29 rfl rfl rfl ?_)))
       intro b46
       refine zA (anb (an1 14 rfl (kL rfl rfl rfl Try.underlying33 F.ti29 rfl rfl rfl (by unfold maxLen; omega) om ?_)))
       intro A47 c47
       exact zA (anb (zG 15 rfl rfl rfl (jZ rfl) (adn (jS ((A45, c45), A47, c47) trivial sbn pkk))))
      ·refine jV (vs := [(0, _)]) rfl rfl Try.underlying29 F.ti22 rfl rfl rfl ?_
       intro b44
       refine zA (anb (an1 6 rfl (wP (cells := mcell1) rfl rfl rfl Try.underlying29 F.ti22 rfl rfl (fun _ => rfl) zEx (fun a w ha => zE3 ha (show prow p ∈ _ from (by repeat (first | exact List.mem_append_right _ (List.mem_append_left _ (List.mem_map_of_mem hpL)) | exact List.mem_append_left _ (List.mem_map_of_mem hpL) | apply List.Mem.tail)))) hB rfl (by unfold maxLen; omega) om ?_)))
       intro A39 c39
       rw [zBf]
       simp only [Nat.zero_add, List.nil_append]
       refine zA (anb (an1 12 rfl (kL rfl rfl rfl Try.underlying29 F.ti22 rfl rfl rfl (by unfold maxLen; omega) om ?_)))
       intro A45 c45
       refine zA (anb (an1 13 rfl (jV (vs := [(0, _)]) rfl rfl Try.underlying33 F.ti29 rfl rfl rfl ?_)))
       intro b46
       refine zA (anb (an1 14 rfl (kL rfl rfl rfl Try.underlying33 F.ti29 rfl rfl rfl (by unfold maxLen; omega) om ?_)))
       intro A47 c47
       exact zA (anb (zG 15 rfl rfl rfl (jZ rfl) (adn (jS ((A45, c45), A47, c47) trivial sbn pkk))))
     ·refine jV (vs := [(0, _)]) rfl rfl Try.underlying29 F.ti22 rfl rfl rfl ?_
      intro b44
      refine zA (anb (an1 1 rfl (zEz rfl Try.underlying29 F.ti22 ?_)))
      intro b34
      refine zCa 1 (.head _) (zA (anb (an1 6 rfl (wP (cells := mcell1) rfl rfl rfl Try.underlying29 F.ti22 rfl rfl (fun _ => rfl) zEx (fun a w ha => zE3 ha (show prow p ∈ _ from (by repeat (first | exact List.mem_append_right _ (List.mem_append_left _ (List.mem_map_of_mem hpL)) | exact List.mem_append_left _ (List.mem_map_of_mem hpL) | apply List.Mem.tail)))) hB rfl (by unfold maxLen; omega) om ?_))))
      intro A39 c39
      rw [zBf]
      simp only [Nat.zero_add, List.nil_append]
      refine zA (anb (an1 12 rfl (kL rfl rfl rfl Try.underlying29 F.ti22 rfl rfl rfl (by unfold maxLen; omega) om ?_)))
      intro A45 c45
      refine zA (anb (an1 13 rfl (jV (vs := [(0, _)]) rfl rfl Try.underlying33 F.ti29 rfl rfl rfl ?_)))
      intro b46
      refine zA (anb (an1 14 rfl (kL rfl rfl rfl Try.underlying33 F.ti29 rfl rfl rfl (by unfold maxLen; omega) om ?_)))
      intro A47 c47
      exact zA (anb (zG 15 rfl rfl rfl (jZ rfl) (adn (jS ((A45, c45), A47, c47) trivial sbn pkk))))
    ·rintro ⟨⟨Aq, cq⟩, A7, c7⟩ -
     (try dsimp only)
     refine zJ (zC (zB (zF rfl rfl (zI rfl rfl rfl (fun w => jK w (zT _ om om)) ?_))))
     refine zE rfl rfl (zA (kP (k + 1, A7, c7, (Aq, cq, p.2.2 ++ [m]) :: R) ⟨by omega, ?_, by simp; omega, fun q hq => ?_⟩ tdo (by dsimp only; rw [List.length_cons]; repeat (first | exact Sub.nil _ | refine Sub.cons rfl ?_)) (by dsimp only; rw [List.length_cons, zAt]; simp only [List.map_cons, prow, pcell, mcell, List.length_append, List.length_cons, List.length_nil, List.map_append, List.map_nil, Nat.zero_add, List.cons_append]; repeat (first | exact Pck.nil _ | exact Pck.refl _ | (apply Pck.cons; focus ((repeat (first | exact Rem.here _ | apply Rem.there)); done)) | refine Pck.skip _ ?_))))
     ·dsimp only
      rw [zAt, hR, zBg hml, List.append_assoc]
      simp [plist]
     ·rcases List.mem_cons.1 hq with rfl | hq
      ·intro x hx
       rcases List.mem_append.1 hx with hx | hx
       ·exact hLS p hpL x hx
       ·rw [List.mem_singleton.1 hx]; exact hmS
      ·exact hRS q hq
   ·obtain rfl : k = S.length := by omega
    rw [List.take_of_length_le (l := exts [] fs.length) (by rw [wS, hSl]; exact Nat.le_refl _)] at hR
    refine jU (zO (zO (jF (zJ (zC (zB (zF rfl rfl (zI rfl rfl rfl (fun w => jK w (zT _ om om)) (zE rfl rfl (zA (kP (i + 1, A6, c6, R) ⟨by omega, by dsimp only; rw [hR, zKn hpl], by dsimp only; rw [hRl, Nat.mul_succ], hRS⟩ tdo sbn pkk)))))))))))
  ·obtain rfl : i = L.length := by omega
   rw [List.take_of_length_le om] at hR
   refine jU (zO (zO (jF (zC (zB (zF rfl rfl (zE rfl rfl (zA (zJ (zC (zB (zF rfl rfl (zI rfl rfl rfl (fun w => jK w (zT _ om om)) (zE rfl rfl (zA (kP (d + 1, A6, c6, R) ⟨by omega, hR, hRS⟩ tdo sbn (by dsimp only; exact .cons (.here _) (.skip _ (.cons (.here _) (.cons (.here _) (zV8 _ _ _)))))))))))))))))))))
 ·obtain rfl : d = days.length := by omega
  exact jU (zO (zO (jF (zC (zD (zB (zF rfl rfl (zE rfl rfl (zA (zC (zY (jJ rfl (fun a w ha => jO rfl rfl ha) (fun a w ha => ⟨A4, c4, L, S, hL, hLS, rfl, ha.grown (.cons_cons _ (.cons _ (.cons _ (List.Sublist.refl _))))⟩)))))))))))))

end Go.Proofs.Yteppiphdbondeaa.N
