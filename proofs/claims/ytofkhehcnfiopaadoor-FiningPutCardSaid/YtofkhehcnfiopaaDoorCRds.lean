/- Parts of the walks of the laws on fining: Rds, Last, F30, PutS, PutP, F31, PutL, PutL2, F32. -/
import Derived.Test.YtofkhehcnfiopaaDoorCSx9
import Derived.Test.YtofkhehcnfiopaaDoorProg
namespace Go.Proofs.YtofkhehcnfiopaaDoor.N
open Go Go.RowKit Go.Proofs
/-- A slice that reads as a list wherever some things are held. -/
def Rds {α : Type} (cells : α → List Value) (size : Nat) (C : Ctx) (T : List Res) (A : Option Addr) (l : List α) : Prop :=
  ∀ (C' : Ctx) (fr : List (Nat × Value)) (hp : List Res) (a : Act) (w : World), At C' fr hp a w → C'.P = C.P → C'.B = C.B → C'.w0 = C.w0 → (∀ r ∈ T, r ∈ hp) → RdL cells size w A l
theorem Rds.row {α : Type} {cells : α → List Value} {size : Nat} {C : Ctx} {T : List Res} {A : Option Addr} {l : List α} {e c : Nat} (hs : ∀ x, (cells x).length = size) (h : Res.row e size A l.length c (l.flatMap cells) ∈ T) : Rds cells size C T A l :=
  fun _ _ _ _ _ ha _ _ _ hm => row_reads ha hs (hm _ h) rfl
theorem Rds.blk {α : Type} {cells : α → List Value} {size : Nat} {C : Ctx} {T : List Res} {b ct : Nat} {l : List α} (hs : ∀ x, (cells x).length = size) (h : Res.blk b (.cells (l.flatMap cells).toArray ct (0, 0)) ∈ T) : Rds cells size C T (some ⟨b, 0, none⟩) l := by
  intro C' fr hp a w ha _ _ _ hm _
  refine ⟨b, 0, rfl, (Res.lt (ha.own _ (hm _ h)) b rfl).2, fun k x hk j u hu => ?_⟩
  rw [Nat.zero_add]
  exact cell_of_blk (ha.mem_blk (hm _ h)) (flatMap_get hs l k x hk j u hu)
theorem Rds.old {α : Type} {cells : α → List Value} {size : Nat} {C : Ctx} {T : List Res} {A : Option Addr} {l : List α} (h : RdL cells size C.w0 A l) (hB : C.w0.heap.size = C.B) : Rds cells size C T A l := by
  intro C' fr hp a w ha _ h2 h3 _ hl
  obtain ⟨b, o, e1, e2, e3⟩ := h hl
  have hbB : b < C'.B := by rw [h2, ← hB]; exact e2
  refine ⟨b, o, e1, ?_, fun k x hk j u hu => ?_⟩
  · have h4 := ha.below.size
    rw [h3] at h4
    omega
  · exact ha.old (by rw [h3]; exact e3 k x hk j u hu) hbB
/-- What becomes of a melt along a way; else the error. -/
def alongE (ags : List Ag) : Nat → List Int → Except Nat (List Nat)
  | _, [] => .ok []
  | f, n :: l => if inB n 0 ((ags.length : Int) - 1) = false then .error 3 else if mayN (ags.getD n.toNat default) f = false then .error 12 else (alongE ags (putN (ags.getD n.toNat default) f) l).map (putN (ags.getD n.toNat default) f :: ·)
/-- The outs so far, and what is still to come. -/
def goesOn (outs : List Nat) (r : Except Nat (List Nat)) : Except Nat (List Nat) := r.map (outs ++ ·)
theorem goesOn_nil (r : Except Nat (List Nat)) : goesOn [] r = r := by cases r <;> rfl
theorem alongE_step {ags : List Ag} {f k : Nat} {n : Int} {way : List Int} (hn : way[k]? = some n) : alongE ags f (way.drop k) = if inB n 0 ((ags.length : Int) - 1) = false then .error 3 else if mayN (ags.getD n.toNat default) f = false then .error 12 else (alongE ags (putN (ags.getD n.toNat default) f) (way.drop (k + 1))).map (putN (ags.getD n.toNat default) f :: ·) := by
  obtain ⟨hk, he⟩ := List.getElem?_eq_some_iff.1 hn
  rw [List.drop_eq_getElem_cons hk, he]
  rfl
theorem goesOn_step (outs : List Nat) (x : Nat) (r : Except Nat (List Nat)) : goesOn outs (r.map (x :: ·)) = goesOn (outs ++ [x]) r := by
  cases r with
  | error c => rfl
  | ok l =>
    show Except.ok (outs ++ (x :: l)) = Except.ok ((outs ++ [x]) ++ l)
    rw [List.append_assoc]; rfl
end Go.Proofs.YtofkhehcnfiopaaDoor.N
namespace Go.Proofs.YtofkhehcnfiopaaDoor.N
def lastL (m : Int) (l : List Int) : Int := l.getLast?.getD m
theorem lastL_at {m : Int} {l : List Int} {x : Int} (h : l[l.length - 1]? = some x) : lastL m l = x := by
  unfold lastL
  rw [List.getLast?_eq_getElem?, h]
  rfl
end Go.Proofs.YtofkhehcnfiopaaDoor.N
namespace Go.Proofs.YtofkhehcnfiopaaDoor.N
open Go Go.RowKit Go.Proofs
theorem F.pl111 : Places Tryd.prog 111 [(0, 1), (1, 1)] := .inl ⟨_, Tryd.underlying111, by kernel_rfl⟩
theorem One_c {C : Ctx} {fr : List (Nat × Value)} {T : List Res} {a : Act} {w : World} (hC : C.P = Tryd.prog) {hb tk st nc : Nat} {nA : Option Addr} {nums : List Int} (hB : C.w0.heap.size = C.B) (hN : RdL icell 1 C.w0 nA nums) (htk : tk ≤ 1000000) (hst : st < 18446744073709551616) {A : Option Addr} {c : Nat} {l : List Nat} (hl1 : 1 ≤ l.length) (hl2 : l.length ≤ 64) (hR : Rds ncell 1 C T A l) (ha : At C fr (.blk hb (hatO nA nums.length nc (tk) (st)) :: T) a w) : Calls C.P 92 #[.pointer (some ⟨hb, 0, none⟩), .slice A l.length c] w fun e w' => ∃ st' x : Nat, st' < 18446744073709551616 ∧ x ∈ l ∧ e = .returned (.int .i64 (x : Int)) ∧ At C fr (.blk hb (hatO nA nums.length nc (tk + 1) (st')) :: T) a w' := by
  obtain ⟨P, B, w0, N0, ds⟩ := C
  obtain rfl : P = Tryd.prog := hC
  (try dsimp only at hB)
  (try dsimp only at hN)
  refine enter_in (N := 13) [(0, .pointer (some ⟨hb, 0, none⟩)), (1, .slice A l.length c)] ha Tryd.func92 rfl Tryd.ntmps92 rfl rfl ?_
  refine cod_seq ?_
  refine cod_region ?_
  refine lst_assign rfl rfl ?_
  refine lst_nil ?_
  refine ex_then ?_
  refine cod_seq ?_
  refine cod_region ?_
  refine lst_move rfl rfl ?_
  refine lst_move rfl rfl ?_
  refine lst_move rfl rfl ?_
  refine lst_len rfl rfl Tryd.underlying25 ?_
  refine lst_int rfl rfl rfl (fun w => bin_sub w (wrap_i64' ((l.length : Int) - 1) (by omega) (by omega))) ?_
  refine lst_call_pul (X := Nat × Nat) (vs := [_, _]) hb (fun y => hatO nA nums.length nc (tk + 1) (y.1)) (fun y => y.1 < 18446744073709551616 ∧ y.2 ≤ ((l.length : Int) - 1 : Int).toNat) (fun y => .int .i64 (y.2 : Int)) rfl rfl F.ent25 (fun a w ha => (To_c (C := ⟨Tryd.prog, B, w0, _, _⟩) rfl hB hN (tk := tk) (st := st) (n := (l.length : Int) - 1) (by omega) hst (by omega) ha).mono (fun e w' h => by obtain ⟨s', x, h1, h2, h3, h4⟩ := h; exact ⟨(s', x), ⟨h1, h2⟩, h3, h4⟩)) ?_
  rintro ⟨s1, x1⟩ ⟨hs1, hx1⟩
  dsimp only at hs1 hx1 ⊢
  refine lst_know (φ := ∃ b o, A = some ⟨b, o, none⟩) (fun a w ha => by obtain ⟨b, o, h1, _⟩ := (hR _ _ _ _ _ ha rfl rfl rfl (fun r hr => by simp [hr])) (by omega); exact ⟨b, o, h1⟩) (fun hA => ?_)
  obtain ⟨b, o, rfl⟩ := hA
  have hx1 : x1 < l.length := by omega
  obtain ⟨x, hx⟩ : ∃ x, l[x1]? = some x := ⟨_, List.getElem?_eq_getElem hx1⟩
  refine lst_index (j := x1) rfl rfl rfl Tryd.underlying25 F.ti3 rfl hx1 ?_
  refine lst_load_at (v := .int .i64 (x : Int)) rfl rfl F.one3 (fun a w ha => by obtain ⟨b2, o2, h1, _, h3⟩ := (hR _ _ _ _ _ ha rfl rfl rfl (fun r hr => by simp [hr])) (by omega); cases h1; exact h3 x1 x hx 0 _ rfl) ?_
  refine lst_assign rfl rfl ?_
  refine lst_nil ?_
  refine ex_then ?_
  refine cod_ret ?_
  exact ex_ret rfl (fun a w ha => res_one rfl rfl ha) (fun _ _ ha' => ⟨s1, x, hs1, List.mem_of_getElem? hx, rfl, ha.back (ha'.pck (by repeat (first | exact Pck.nil _ | exact Pck.refl _ | (apply Pck.cons; focus ((repeat (first | exact Rem.here _ | apply Rem.there)); done)) | refine Pck.skip _ ?_)))⟩)

theorem last_c (m : Int) (A : Option Addr) (c : Nat) (l : List Int) (hl : l.length ≤ 9000000000) (w : World) (hA : RdL icell 1 w A l) : Calls Tryd.prog 43 #[.int .i64 m, .slice A l.length c] w fun e w' => e = .returned (.int .i64 (lastL m l)) ∧ Grew w w' [] := by
  refine enter (N := 15) [(0, .int .i64 m), (1, .slice A l.length c)] Tryd.func43 rfl Tryd.ntmps43 rfl rfl ?_
  refine cod_seq ?_
  refine cod_region ?_
  refine lst_assign rfl rfl ?_
  refine lst_nil ?_
  refine ex_then ?_
  refine cod_seq ?_
  refine cod_seq ?_
  refine cod_region ?_
  refine lst_move rfl rfl ?_
  refine lst_len rfl rfl Tryd.underlying25 ?_
  refine lst_int rfl rfl rfl bin_eql ?_
  refine lst_nil ?_
  refine ex_then ?_
  refine cod_cond_dec rfl (fun hc0 => ?_) (fun hc0 => ?_)
  · skip
    obtain rfl : l = [] := List.length_eq_zero_iff.1 (by omega)
    refine cod_seq ?_
    refine cod_region ?_
    refine lst_move rfl rfl ?_
    refine lst_assign rfl rfl ?_
    refine lst_nil ?_
    refine ex_then ?_
    refine cod_ret ?_
    refine ex_then_ret ?_
    refine ex_ret rfl (fun a w ha => res_one rfl rfl ha) (fun a w ha => ⟨by rfl, ha.grown (List.nil_sublist _)⟩)
  · skip
    have hl0 : 0 < l.length := by omega
    obtain ⟨b, o, rfl, hb, hcell⟩ := hA hl0
    obtain ⟨x, hx⟩ : ∃ x, l[l.length - 1]? = some x := ⟨_, List.getElem?_eq_getElem (by omega)⟩
    refine cod_skip ?_
    refine ex_then ?_
    refine cod_seq ?_
    refine cod_region ?_
    refine lst_move rfl rfl ?_
    refine lst_move rfl rfl ?_
    refine lst_len rfl rfl Tryd.underlying25 ?_
    refine lst_int rfl rfl rfl (fun w => bin_sub w (wrap_i64' ((l.length : Int) - 1) (by omega) (by omega))) ?_
    refine lst_index (j := l.length - 1) rfl rfl rfl Tryd.underlying25 F.ti3 (by omega) (by omega) ?_
    refine lst_load_at (v := .int .i64 x) rfl rfl F.one3 (fun a w ha => ha.old (hcell _ x hx 0 _ rfl) hb) ?_
    refine lst_assign rfl rfl ?_
    refine lst_nil ?_
    refine ex_then ?_
    refine cod_ret ?_
    refine ex_ret rfl (fun a w ha => res_one rfl rfl ha) (fun a w ha => ⟨by rw [lastL_at hx], ha.grown (List.nil_sublist _)⟩)

theorem May_ok (A : Option Addr) (c : Nat) (ags : List Ag) (hok : Oks ags) (f : Nat) (hf : f < 64) (w : World) (hA : RdL Ag.cells 5 w A ags) : Calls Tryd.prog 41 #[.slice A ags.length c, .int .i64 (f : Int)] w fun e w' => ∃ A' c', e = .returned (.tuple #[.slice A' (canTo ags (usedAll ags.length) f ags.length).length c', .int .i64 0]) ∧ Grew w w' [.row 3 1 A' (canTo ags (usedAll ags.length) f ags.length).length c' (ints (canTo ags (usedAll ags.length) f ags.length))] := by
  have hua : usedAll ags.length < 256 := by have := usedAll_lt hok.1; omega
  refine enter_defers (N := 13) [(0, .slice A ags.length c), (1, .int .i64 (f : Int))] Tryd.func41 rfl Tryd.ntmps41 rfl rfl ?_
  refine cod_seq ?_
  refine cod_region ?_
  refine lst_assign rfl rfl ?_
  refine lst_alloc rfl F.ti35 ?_
  intro b5
  refine lst_nil ?_
  refine ex_then ?_
  refine cod_seq ?_
  refine cod_region ?_
  refine lst_defer (first := []) (cap := []) (vs := [_]) rfl rfl ?_
  refine lst_nil ?_
  refine ex_then ?_
  refine cod_seq ?_
  refine cod_region ?_
  refine lst_move rfl rfl ?_
  refine lst_fn (X := Option Addr × Nat) (vs := [_]) (p := fun _ => True) (val := fun x => .agg [.slice x.1 ags.length x.2, .int .u8 (usedAll ags.length : Nat)].toArray) (rs := fun x => [.row 89 5 x.1 ags.length x.2 (ags.flatMap Ag.cells)]) rfl rfl F.ent75 (fun a w ha => (begin_ok A c ags hok w (hA.later ha.below)).mono (fun e w' h => by obtain ⟨A', c', h1, h2⟩ := h; exact ⟨(A', c'), trivial, h1, h2⟩)) ?_
  rintro ⟨aA, cg⟩ -
  dsimp only [List.cons_append, List.nil_append]
  refine lst_alloc rfl F.ti75 ?_
  intro b6
  refine lst_store rfl rfl F.ti75 rfl ?_
  refine lst_nil ?_
  refine ex_then ?_
  refine cod_seq ?_
  refine any_begin [.b b5] F.follows 6 rfl [false, false, false, false, false, false] rfl ?_
  refine any_take (listed' := [true, false, false, false, false, false].toArray) 0 rfl rfl rfl (by kernel_rfl) (by kernel_rfl) (by kernel_rfl) (by repeat (first | exact List.Sublist.refl _ | exact List.nil_sublist _ | refine List.Sublist.cons_cons _ ?_ | refine List.Sublist.cons _ ?_)) (yld_loadN rfl F.agg75 F.ti75) rfl ?_
  refine any_take (listed' := [true, true, false, false, false, false].toArray) 1 rfl rfl rfl (by kernel_rfl) (by kernel_rfl) (by kernel_rfl) (by repeat (first | exact List.Sublist.refl _ | exact List.nil_sublist _ | refine List.Sublist.cons_cons _ ?_ | refine List.Sublist.cons _ ?_)) (yld_move rfl) rfl ?_
  refine any_one (listed' := [true, true, true, false, false, false].toArray) 2 (by kernel_rfl) rfl rfl ?_
  refine lst_fn0 (vs := [_]) rfl rfl F.ent76 (fun a w ha => melt_ok f hf w) ?_
  refine lst_nil ?_
  refine any_next (by repeat (first | exact List.Sublist.refl _ | exact List.nil_sublist _ | refine List.Sublist.cons_cons _ ?_ | refine List.Sublist.cons _ ?_)) ?_
  refine any_one (listed' := [true, true, true, true, false, false].toArray) 3 (by kernel_rfl) rfl rfl ?_
  refine lst_fn (X := Option Addr × Nat) (vs := [_, _]) (p := fun _ => True) (val := fun x => .slice x.1 (canTo ags (usedAll ags.length) f ags.length).length x.2) (rs := fun x => [.row 3 1 x.1 (canTo ags (usedAll ags.length) f ags.length).length x.2 (ints (canTo ags (usedAll ags.length) f ags.length))]) rfl rfl F.ent89 (fun a w ha => (can_c aA cg ags (usedAll ags.length) f hok hua (by omega) w (row_reads ha (cells := Ag.cells) (e := 89) (c := cg) (n := ags.length) (fun _ => rfl) (by simp) rfl)).mono (fun e w' h => by obtain ⟨A', c', h1, h2⟩ := h; exact ⟨(A', c'), trivial, h1, h2⟩)) ?_
  rintro ⟨cA, cc⟩ -
  dsimp only [List.cons_append, List.nil_append]
  refine lst_nil ?_
  refine any_next (by repeat (first | exact List.Sublist.refl _ | exact List.nil_sublist _ | refine List.Sublist.cons_cons _ ?_ | refine List.Sublist.cons _ ?_)) ?_
  refine any_take (listed' := [true, true, true, true, true, false].toArray) 4 rfl rfl rfl (by kernel_rfl) (by kernel_rfl) (by kernel_rfl) (by repeat (first | exact List.Sublist.refl _ | exact List.nil_sublist _ | refine List.Sublist.cons_cons _ ?_ | refine List.Sublist.cons _ ?_)) (yld_assign rfl) rfl ?_
  refine any_one (listed' := [true, true, true, true, true, true].toArray) 5 (by kernel_rfl) rfl rfl ?_
  refine lst_store rfl rfl F.ti35 rfl ?_
  refine lst_nil ?_
  refine any_next (by repeat (first | exact List.Sublist.refl _ | exact List.nil_sublist _ | refine List.Sublist.cons_cons _ ?_ | refine List.Sublist.cons _ ?_)) ?_
  refine any_done rfl (by kernel_rfl) ?_
  refine ex_then ?_
  refine cod_ret ?_
  exact ex_ret_caught (fun a w ha => ⟨_, res_tc (fn := Tryd.f41) ha rfl rfl rfl F.one35, cA, cc, rfl, ha.grown (by repeat (first | exact List.Sublist.refl _ | exact List.nil_sublist _ | refine List.Sublist.cons_cons _ ?_ | refine List.Sublist.cons _ ?_))⟩)

theorem along_c {C : Ctx} {fr : List (Nat × Value)} {T : List Res} {a : Act} {w : World} (hC : C.P = Tryd.prog) {ags : List Ag} {used f cg wc : Nat} {aA wA : Option Addr} {way : List Int} (hok : Oks ags) (hf : f < 64) (hwl : way.length ≤ 20) (hW : Rds icell 1 C T wA way) (hsome : 0 < ags.length → ∃ g, aA = some ⟨g, 0, none⟩) (hAg : Res.row 89 5 aA ags.length cg (ags.flatMap Ag.cells) ∈ T) (ha : At C fr (T) a w) : Calls C.P 95 #[.agg [.slice aA ags.length cg, .int .u8 (used : Int)].toArray, .int .u8 (f : Int), .slice wA way.length wc] w fun e w' => (∃ (outs : List Nat) (A' : Option Addr) (c' : Nat), alongE ags f way = .ok outs ∧ outs.length = way.length ∧ e = .returned (.tuple #[.slice A' outs.length c', .nilIface]) ∧ At C fr (.row 3 1 A' outs.length c' (ints outs) :: T) a w') ∨ (∃ (code k : Nat), alongE ags f way = .error code ∧ (code = 3 ∨ code = 12) ∧ e = .returned (.tuple #[.slice none 0 0, .iface 111 (.agg #[.int .i64 (code : Int), .int .i64 (k : Int)])]) ∧ At C fr T a w') := by
  obtain ⟨P, B, w0, N0, ds⟩ := C
  obtain rfl : P = Tryd.prog := hC
  (try dsimp only at hB)
  (try dsimp only at hN)
  refine enter_in (N := 52) [(0, .agg [.slice aA ags.length cg, .int .u8 (used : Int)].toArray), (1, .int .u8 (f : Int)), (2, .slice wA way.length wc)] ha Tryd.func95 rfl Tryd.ntmps95 rfl rfl ?_
  refine cod_seq ?_
  refine cod_region ?_
  refine lst_box rfl rfl ?_
  intro b3
  refine lst_assign rfl rfl ?_
  refine lst_assign rfl rfl ?_
  refine lst_nil ?_
  refine ex_then ?_
  refine cod_seq ?_
  refine cod_region ?_
  refine lst_assign rfl rfl ?_
  refine lst_nil ?_
  refine ex_then ?_
  refine cod_seq ?_
  refine cod_seq ?_
  refine cod_region ?_
  refine lst_move rfl rfl ?_
  refine lst_len rfl rfl Tryd.underlying25 ?_
  refine lst_move rfl rfl ?_
  refine lst_nil ?_
  refine ex_then ?_
  refine cod_block ?_
  refine cod_nil 3 1 ?_
  refine cod_loop' (G := Nat × Nat × Option Addr × Nat × List Nat) (fun g => g.1 ≤ way.length ∧ g.2.2.2.2.length = g.1 ∧ g.2.1 < 64 ∧ alongE ags f way = goesOn g.2.2.2.2 (alongE ags g.2.1 (way.drop g.1))) (fun g => way.length - g.1) (fun g => [(3, .pointer (some ⟨b3, 0, none⟩)), (1, .int .u8 (g.2.1 : Int)), (8, .slice g.2.2.1 g.2.2.2.2.length g.2.2.2.1), (11, .slice wA way.length wc), (12, .int .i64 (way.length : Int)), (13, .int .i64 (g.1 : Int))]) (fun g => .row 3 1 g.2.2.1 g.2.2.2.2.length g.2.2.2.1 (ints g.2.2.2.2) :: .blk b3 (.cells [.slice aA ags.length cg, .int .u8 (used : Int)].toArray 75 (0, 0)) :: T) (0, f, none, 0, []) ⟨Nat.zero_le _, rfl, hf, by rw [goesOn_nil]; rfl⟩ (by repeat (first | exact Sub.nil _ | refine Sub.cons rfl ?_)) (by repeat (first | exact Pck.nil _ | exact Pck.refl _ | (apply Pck.cons; focus ((repeat (first | exact Rem.here _ | apply Rem.there)); done)) | refine Pck.skip _ ?_)) ?_
  rintro ⟨k, fk, A1, c1, l1⟩ ⟨hk, hl1, hfk, hal⟩
  dsimp only at hk hl1 hfk hal ⊢
  refine cod_seq ?_
  refine cod_region ?_
  refine lst_int rfl rfl rfl bin_lss ?_
  refine lst_nil ?_
  refine ex_then ?_
  refine cod_seq ?_
  refine cod_cond_dec rfl (fun hc0 => ?_) (fun hc0 => ?_)
  · skip
    have hk' : k < way.length := by omega
    refine cod_know (φ := ∃ b o, wA = some ⟨b, o, none⟩) (fun a w ha => by obtain ⟨b, o, h1, _⟩ := (hW _ _ _ _ _ ha rfl rfl rfl (fun r hr => by simp [hr])) (by omega); exact ⟨b, o, h1⟩) (fun hA => ?_)
    obtain ⟨b, o, rfl⟩ := hA
    obtain ⟨n, hwn⟩ : ∃ n, way[k]? = some n := ⟨_, List.getElem?_eq_getElem hk'⟩
    rw [alongE_step hwn] at hal
    refine cod_skip ?_
    refine ex_then ?_
    refine cod_seq ?_
    refine cod_block ?_
    refine cod_seq ?_
    refine cod_region ?_
    refine lst_move rfl rfl ?_
    refine lst_index (j := k) rfl rfl rfl Tryd.underlying25 F.ti3 rfl hk' ?_
    refine lst_load_at (v := .int .i64 n) rfl rfl F.one3 (fun a w ha => by obtain ⟨b2, o2, h1, _, h3⟩ := (hW _ _ _ _ _ ha rfl rfl rfl (fun r hr => by simp [hr])) (by omega); cases h1; exact h3 k n hwn 0 _ rfl) ?_
    refine lst_assign rfl rfl ?_
    refine lst_assign rfl rfl ?_
    refine lst_nil ?_
    refine ex_then ?_
    refine cod_seq ?_
    refine cod_seq ?_
    refine cod_region ?_
    refine lst_move rfl rfl ?_
    refine lst_field_z rfl rfl F.fi75_0 F.ti72 ?_
    refine lst_load rfl rfl F.one72 ?_
    refine lst_len rfl rfl Tryd.underlying72 ?_
    refine lst_int rfl rfl rfl (fun w => bin_sub w (wrap_i64' _ (by omega) (by have := hok.1; omega))) ?_
    refine lst_fn0 (vs := [_, _, _]) rfl rfl F.ent99 (fun a w ha => outside_c n 0 ((ags.length : Int) - 1) w) ?_
    refine lst_nil ?_
    refine ex_then ?_
    refine cod_cond_bool rfl (fun hc1 => ?_) (fun hc1 => ?_)
    · skip
      refine cod_seq ?_
      refine cod_region ?_
      refine lst_move rfl rfl ?_
      refine lst_struct (vs := [(0, _), (1, _)]) (l' := [_, _]) rfl rfl F.ti111 F.pl111 (.cons rfl rfl (.cons rfl rfl (.nil _))) rfl ?_
      refine lst_makeInterface rfl rfl Tryd.underlying111 rfl ?_
      refine lst_assign rfl rfl ?_
      refine lst_assign rfl rfl ?_
      refine lst_nil ?_
      refine ex_then ?_
      refine cod_ret ?_
      refine ex_then_ret ?_
      refine ex_block_ret ?_
      refine ex_then_ret ?_
      refine ex_then_ret ?_
      refine ex_block_ret ?_
      refine ex_then_ret ?_
      have hb : inB n 0 ((ags.length : Int) - 1) = false := by simpa using hc1
      rw [if_pos hb] at hal
      exact ex_ret rfl (fun a w ha => res_two rfl rfl rfl ha) (fun _ _ ha' => .inr ⟨3, k, hal, .inl rfl, rfl, ha.back (ha'.pck (by repeat (first | exact Pck.nil _ | exact Pck.refl _ | (apply Pck.cons; focus ((repeat (first | exact Rem.here _ | apply Rem.there)); done)) | refine Pck.skip _ ?_)))⟩)
    · skip
      have hb : inB n 0 ((ags.length : Int) - 1) = true := by simpa using hc1
      rw [if_neg (by rw [hb]; simp)] at hal
      rw [inB_true] at hb
      obtain ⟨i, rfl⟩ := Int.eq_ofNat_of_zero_le hb.1
      have hi' : i < ags.length := by omega
      rw [Int.toNat_natCast] at hal
      obtain ⟨gA, hgA⟩ := hsome (by omega)
      subst hgA
      obtain ⟨x, hx⟩ : ∃ x, ags[i]? = some x := ⟨_, List.getElem?_eq_getElem hi'⟩
      have hxo : x.ok := hok.2 x (List.mem_of_getElem? hx)
      have hxd : ags.getD i default = x := by rw [List.getD_eq_getElem?_getD, hx]; rfl
      rw [hxd] at hal
      refine cod_skip ?_
      refine ex_then ?_
      refine cod_seq ?_
      refine cod_seq ?_
      refine cod_region ?_
      refine lst_field_z rfl rfl F.fi75_0 F.ti72 ?_
      refine lst_load rfl rfl F.one72 ?_
      refine lst_move rfl rfl ?_
      refine lst_index (j := i) rfl rfl rfl Tryd.underlying72 F.ti89 rfl hi' ?_
      refine lst_loadN_at (l := [.int .i64 (x.needs : Int), .int .i64 (x.no : Int), .int .i64 (x.takes : Int), .int .i64 (x.leaves : Int), .int .i64 (x.cost : Int)]) rfl rfl F.agg89 F.ti89 rfl (fun a w ha j u hu => row_at ha (e := 89) (n := ags.length) (c := cg) (cells := Ag.cells) (by simp [hAg]) (fun _ => rfl) hx hu) ?_
      refine lst_move rfl rfl ?_
      refine lst_fn0 (vs := [_, _]) rfl rfl F.ent85 (fun a w ha => may_c x fk hxo (by omega) w) ?_
      refine lst_not rfl rfl ?_
      refine lst_nil ?_
      refine ex_then ?_
      refine cod_cond_bool rfl (fun hc2 => ?_) (fun hc2 => ?_)
      · skip
        refine cod_seq ?_
        refine cod_region ?_
        refine lst_move rfl rfl ?_
        refine lst_struct (vs := [(0, _), (1, _)]) (l' := [_, _]) rfl rfl F.ti111 F.pl111 (.cons rfl rfl (.cons rfl rfl (.nil _))) rfl ?_
        refine lst_makeInterface rfl rfl Tryd.underlying111 rfl ?_
        refine lst_assign rfl rfl ?_
        refine lst_assign rfl rfl ?_
        refine lst_nil ?_
        refine ex_then ?_
        refine cod_ret ?_
        refine ex_then_ret ?_
        refine ex_block_ret ?_
        refine ex_then_ret ?_
        refine ex_then_ret ?_
        refine ex_block_ret ?_
        refine ex_then_ret ?_
        have hm : mayN x fk = false := by simpa using hc2
        rw [if_pos hm] at hal
        exact ex_ret rfl (fun a w ha => res_two rfl rfl rfl ha) (fun _ _ ha' => .inr ⟨12, k, hal, .inr rfl, rfl, ha.back (ha'.pck (by repeat (first | exact Pck.nil _ | exact Pck.refl _ | (apply Pck.cons; focus ((repeat (first | exact Rem.here _ | apply Rem.there)); done)) | refine Pck.skip _ ?_)))⟩)
      · skip
        have hm : mayN x fk = true := by simpa using hc2
        rw [if_neg (by rw [hm]; simp), goesOn_step] at hal
        refine cod_skip ?_
        refine ex_then ?_
        refine cod_seq ?_
        refine cod_region ?_
        refine lst_field_z rfl rfl F.fi75_0 F.ti72 ?_
        refine lst_load rfl rfl F.one72 ?_
        refine lst_move rfl rfl ?_
        refine lst_index (j := i) rfl rfl rfl Tryd.underlying72 F.ti89 rfl hi' ?_
        refine lst_loadN_at (l := [.int .i64 (x.needs : Int), .int .i64 (x.no : Int), .int .i64 (x.takes : Int), .int .i64 (x.leaves : Int), .int .i64 (x.cost : Int)]) rfl rfl F.agg89 F.ti89 rfl (fun a w ha j u hu => row_at ha (e := 89) (n := ags.length) (c := cg) (cells := Ag.cells) (by simp [hAg]) (fun _ => rfl) hx hu) ?_
        refine lst_move rfl rfl ?_
        refine lst_fn0 (vs := [_, _]) rfl rfl F.ent91 (fun a w ha => put_c x fk hxo (by omega) w) ?_
        refine lst_assign rfl rfl ?_
        refine lst_nil ?_
        refine ex_then ?_
        refine cod_region ?_
        refine lst_move rfl rfl ?_
        refine lst_move rfl rfl ?_
        refine lst_convert rfl rfl Tryd.underlying77 Tryd.underlying3 (wrap_i64' _ (by omega) (by have := putN_lt hxo hfk; omega)) ?_
        refine lst_lit (vs := [(0, _)]) rfl rfl Tryd.underlying25 F.ti3 rfl rfl rfl ?_
        intro b48
        refine lst_append rfl rfl rfl Tryd.underlying25 F.ti3 rfl rfl rfl (by unfold maxLen; omega) (by omega) ?_
        intro A2 c2
        refine lst_assign rfl rfl ?_
        refine lst_nil ?_
        refine ex_block_normal ?_
        refine ex_then ?_
        refine cod_region ?_
        refine lst_int rfl rfl rfl (fun w => bin_add w (wrap_i64' _ (by omega) (by omega))) ?_
        refine lst_move rfl rfl ?_
        refine lst_nil ?_
        refine ex_round' (k + 1, putN x fk, A2, c2, l1 ++ [putN x fk]) ⟨by omega, by simp; omega, putN_lt hxo hfk, hal⟩ (by (try dsimp only); omega) (by dsimp only; rw [List.length_append, List.length_singleton]; repeat (first | exact Sub.nil _ | refine Sub.cons rfl ?_)) (by dsimp only; rw [List.length_append, List.length_singleton, ints_snoc]; repeat (first | exact Pck.nil _ | exact Pck.refl _ | (apply Pck.cons; focus ((repeat (first | exact Rem.here _ | apply Rem.there)); done)) | refine Pck.skip _ ?_))
  · skip
    refine cod_exit ?_
    refine ex_then_exit ?_
    refine ex_then_exit ?_
    refine ex_block_exit ?_
    refine ex_then ?_
    refine cod_seq ?_
    refine cod_region ?_
    refine lst_move rfl rfl ?_
    refine lst_assign rfl rfl ?_
    refine lst_assign rfl rfl ?_
    refine lst_nil ?_
    refine ex_then ?_
    refine cod_ret ?_
    obtain rfl : k = way.length := by omega
    rw [List.drop_length] at hal
    have hal' : alongE ags f way = .ok l1 := by rw [hal]; show Except.ok (l1 ++ []) = _; rw [List.append_nil]
    exact ex_ret rfl (fun a w ha => res_two rfl rfl rfl ha) (fun _ _ ha' => .inl ⟨l1, A1, c1, hal', hl1, rfl, ha.back (ha'.pck (by repeat (first | exact Pck.nil _ | exact Pck.refl _ | (apply Pck.cons; focus ((repeat (first | exact Rem.here _ | apply Rem.there)); done)) | refine Pck.skip _ ?_)))⟩)

end Go.Proofs.YtofkhehcnfiopaaDoor.N
namespace Go.Proofs.YtofkhehcnfiopaaDoor.N
open Go Go.RowKit Go.Proofs
/-- What Put says. -/
def PutS (ags : List Ag) (f : Nat) (way : List Int) (outs : List Nat) (E : Nat) : Prop :=
  (way.length ≤ 20 ∧ alongE ags f way = .ok outs ∧ E = 0 ∧ outs.length = way.length) ∨ (way.length ≤ 20 ∧ alongE ags f way = .error E ∧ (E = 3 ∨ E = 12) ∧ outs = []) ∨ (20 < way.length ∧ E = 6 ∧ outs = [])
theorem PutS.len {ags : List Ag} {f E : Nat} {way : List Int} {outs : List Nat} (h : PutS ags f way outs E) : outs.length ≤ 20 := by
  rcases h with ⟨h1, _, _, h4⟩ | ⟨_, _, _, rfl⟩ | ⟨_, _, rfl⟩
  · omega
  · simp
  · simp
end Go.Proofs.YtofkhehcnfiopaaDoor.N
namespace Go.Proofs.YtofkhehcnfiopaaDoor.N
open Go Go.RowKit Go.Proofs
theorem heap_pos {w : World} {v : Value} (h : w.cell? ⟨0, 0, none⟩ = some v) : 0 < w.heap.size := by
  rcases Nat.eq_zero_or_pos w.heap.size with h0 | h1
  · simp [World.cell?, h0] at h
  · exact h1
theorem ent4 {W : List Nat} {n : Nat} (h : ∀ x ∈ W, x ≤ 4) (hn : n ≤ 4) : ∀ x ∈ W ++ [n], x ≤ 4 := by
  intro x hx
  rcases List.mem_append.1 hx with h1 | h1
  · exact h x h1
  · simp at h1; omega
end Go.Proofs.YtofkhehcnfiopaaDoor.N
namespace Go.Proofs.YtofkhehcnfiopaaDoor.N
open Go Go.RowKit Go.Proofs
theorem F.ent44 : Enters Tryd.prog 44 := enters_of Tryd.func44 rfl (by kernel_rfl)
theorem F.ent92 : Enters Tryd.prog 92 := enters_of Tryd.func92 rfl (by kernel_rfl)
theorem F.ent94 : Enters Tryd.prog 94 := enters_of Tryd.func94 rfl (by kernel_rfl)
theorem F.fi111_0 : FI Tryd.prog 111 0 35 0 := ⟨_, _, Tryd.underlying111, rfl, rfl, rfl⟩
theorem Put_c (A : Option Addr) (c : Nat) (ags : List Ag) (hok : Oks ags) (wA : Option Addr) (wc f : Nat) (way : List Int) (hf : f < 64) (w : World) (hA : RdL Ag.cells 5 w A ags) (hW : RdL icell 1 w wA way) (hE : w.cell? ⟨0, 0, none⟩ = some (iT 107)) : Calls Tryd.prog 40 #[.slice A ags.length c, .int .i64 (f : Int), .slice wA way.length wc] w fun e w' => ∃ (outs : List Nat) (E : Nat) (A' : Option Addr) (c' : Nat), PutS ags f way outs E ∧ e = .returned (.tuple #[.slice A' outs.length c', .int .i64 (E : Int)]) ∧ Grew w w' [.row 3 1 A' outs.length c' (ints outs)] := by
  have hua : usedAll ags.length < 256 := by have := usedAll_lt hok.1; omega
  have hpos : 0 < w.heap.size := heap_pos hE
  refine enter_defers (N := 32) [(0, .slice A ags.length c), (1, .int .i64 (f : Int)), (2, .slice wA way.length wc)] Tryd.func40 rfl Tryd.ntmps40 rfl rfl ?_
  refine cod_seq ?_
  refine cod_region ?_
  refine lst_assign rfl rfl ?_
  refine lst_alloc rfl F.ti35 ?_
  intro b7
  refine lst_nil ?_
  refine ex_then ?_
  refine cod_seq ?_
  refine cod_region ?_
  refine lst_defer (first := []) (cap := []) (vs := [_]) rfl rfl ?_
  refine lst_nil ?_
  refine ex_then ?_
  refine cod_seq ?_
  refine cod_region ?_
  refine lst_move rfl rfl ?_
  refine lst_fn (X := Option Addr × Nat) (vs := [_]) (p := fun _ => True) (val := fun x => .agg [.slice x.1 ags.length x.2, .int .u8 (usedAll ags.length : Nat)].toArray) (rs := fun x => [.row 89 5 x.1 ags.length x.2 (ags.flatMap Ag.cells)]) rfl rfl F.ent75 (fun a w ha => (begin_ok A c ags hok w (hA.later ha.below)).mono (fun e w' h => by obtain ⟨A', c', h1, h2⟩ := h; exact ⟨(A', c'), trivial, h1, h2⟩)) ?_
  rintro ⟨aA, cg⟩ -
  dsimp only [List.cons_append, List.nil_append]
  refine lst_know (φ := 0 < ags.length → ∃ g, aA = some ⟨g, 0, none⟩) (fun a w ha h => row_some (ha.own (.row 89 5 aA ags.length cg (ags.flatMap Ag.cells)) (by simp)) h) (fun hsome => ?_)
  refine lst_alloc rfl F.ti75 ?_
  intro b8
  refine lst_store rfl rfl F.ti75 rfl ?_
  refine lst_nil ?_
  refine ex_then ?_
  refine cod_seq ?_
  refine cod_region ?_
  refine lst_move rfl rfl ?_
  refine lst_fn0 (vs := [_]) rfl rfl F.ent76 (fun a w ha => melt_ok f hf w) ?_
  refine lst_assign rfl rfl ?_
  refine lst_nil ?_
  refine ex_then ?_
  refine cod_seq ?_
  refine cod_seq ?_
  refine cod_region ?_
  refine lst_move rfl rfl ?_
  refine lst_len rfl rfl Tryd.underlying25 ?_
  refine lst_int rfl rfl rfl bin_gtr ?_
  refine lst_nil ?_
  refine ex_then ?_
  refine cod_cond_dec rfl (fun hc0 => ?_) (fun hc0 => ?_)
  · skip
    refine cod_seq ?_
    refine cod_region ?_
    refine lst_assign rfl rfl ?_
    refine lst_store rfl rfl F.ti35 rfl ?_
    refine lst_nil ?_
    refine ex_then ?_
    refine cod_ret ?_
    refine ex_then_ret ?_
    exact ex_ret_caught (fun a w ha => ⟨_, res_tc (fn := Tryd.f40) ha rfl rfl rfl F.one35, [], 6, none, 0, .inr (.inr ⟨by omega, rfl, rfl⟩), rfl, (ha.add_nil 3 1).grown (by repeat (first | exact List.Sublist.refl _ | exact List.nil_sublist _ | refine List.Sublist.cons_cons _ ?_ | refine List.Sublist.cons _ ?_))⟩)
  · skip
    refine cod_skip ?_
    refine ex_then ?_
    refine cod_seq ?_
    have hwl : way.length ≤ 20 := by omega
    rcases hal : alongE ags f way with code | outs
    · skip
      refine cod_region ?_
      refine lst_loadN rfl rfl F.agg75 F.ti75 ?_
      refine lst_move rfl rfl ?_
      refine lst_move rfl rfl ?_
      refine lst_call (X := Nat) (first := []) (cap := []) (vs := [_, _, _]) (p := fun _ => code = 3 ∨ code = 12) (val := fun k => .tuple #[.slice none 0 0, .iface 111 (.agg #[.int .i64 (code : Int), .int .i64 (k : Int)])]) (rs := fun k => .blk b8 (.cells [.slice aA ags.length cg, .int .u8 (usedAll ags.length : Nat)].toArray 75 (0, 0)) :: .row 89 5 aA ags.length cg (ags.flatMap Ag.cells) :: [.blk b7 (.cells [.int .i64 0].toArray 35 (0, 0))]) rfl rfl rfl F.ent95 (fun a w ha => (along_c (T := .blk b8 (.cells [.slice aA ags.length cg, .int .u8 (usedAll ags.length : Nat)].toArray 75 (0, 0)) :: .row 89 5 aA ags.length cg (ags.flatMap Ag.cells) :: [.blk b7 (.cells [.int .i64 0].toArray 35 (0, 0))]) rfl hok hf hwl (Rds.old (hW.later (Below.refl _ _)) rfl) hsome (by simp) ha).mono (fun e w' h => by
        rcases h with ⟨o2, A', c', h1, h2, h3, h4⟩ | ⟨co, k, h1, h2, h3, h4⟩
        · rw [hal] at h1; cases h1
        · rw [hal] at h1
          obtain rfl := Except.error.inj h1
          exact ⟨k, h2, h3, h4⟩)) ?_
      intro kk hco
      dsimp only at hco ⊢
      refine lst_move rfl rfl ?_
      refine lst_extract rfl rfl rfl ?_
      refine lst_extract rfl rfl rfl ?_
      refine lst_assign rfl rfl ?_
      refine lst_assign rfl rfl ?_
      refine lst_nil ?_
      refine ex_then ?_
      refine cod_seq ?_
      refine cod_region ?_
      refine lst_alloc rfl F.ti111 ?_
      intro b11
      refine lst_nil ?_
      refine ex_then ?_
      refine cod_seq ?_
      refine cod_seq ?_
      refine cod_region ?_
      refine lst_move rfl rfl ?_
      refine lst_makeInterface rfl rfl Tryd.underlying113 rfl ?_
      refine lst_call (X := Unit) (first := []) (cap := []) (vs := [_, _]) (p := fun _ => True) (val := fun _ => .bool true) (rs := fun _ => .blk b11 (.cells [.int .i64 (code : Int), .int .i64 (kk : Int)].toArray 111 (0, 0)) :: .blk b8 (.cells [.slice aA ags.length cg, .int .u8 (usedAll ags.length : Nat)].toArray 75 (0, 0)) :: .row 89 5 aA ags.length cg (ags.flatMap Ag.cells) :: [.blk b7 (.cells [.int .i64 0].toArray 35 (0, 0))]) rfl rfl rfl F.ent96 (fun a w ha => (As_hit (bt := b11) (x := (code : Int)) (y := (kk : Int)) (x0 := 0) (y0 := 0) rfl rfl hpos hE ha).mono (fun e w' h => ⟨(), trivial, h.1, h.2⟩)) ?_
      rintro ⟨⟩ -
      (try dsimp only)
      refine lst_nil ?_
      refine ex_then ?_
      refine cod_cond_true rfl ?_
      refine cod_seq ?_
      refine any_begin [.b b7] F.follows 4 rfl [false, false, false, false] rfl ?_
      refine any_take (listed' := [true, false, false, false].toArray) 0 rfl rfl rfl (by kernel_rfl) (by kernel_rfl) (by kernel_rfl) (by repeat (first | exact List.Sublist.refl _ | exact List.nil_sublist _ | refine List.Sublist.cons_cons _ ?_ | refine List.Sublist.cons _ ?_)) (yld_field_z rfl F.fi111_0 F.ti35) rfl ?_
      refine any_take (listed' := [true, true, false, false].toArray) 1 rfl rfl rfl (by kernel_rfl) (by kernel_rfl) (by kernel_rfl) (by repeat (first | exact List.Sublist.refl _ | exact List.nil_sublist _ | refine List.Sublist.cons_cons _ ?_ | refine List.Sublist.cons _ ?_)) (yld_load rfl F.one35) rfl ?_
      refine any_take (listed' := [true, true, true, false].toArray) 2 rfl rfl rfl (by kernel_rfl) (by kernel_rfl) (by kernel_rfl) (by repeat (first | exact List.Sublist.refl _ | exact List.nil_sublist _ | refine List.Sublist.cons_cons _ ?_ | refine List.Sublist.cons _ ?_)) (yld_assign rfl) rfl ?_
      refine any_one (listed' := [true, true, true, true].toArray) 3 (by kernel_rfl) rfl rfl ?_
      refine lst_store rfl rfl F.ti35 rfl ?_
      refine lst_nil ?_
      refine any_next (by repeat (first | exact List.Sublist.refl _ | exact List.nil_sublist _ | refine List.Sublist.cons_cons _ ?_ | refine List.Sublist.cons _ ?_)) ?_
      refine any_done rfl (by kernel_rfl) ?_
      refine ex_then ?_
      refine cod_ret ?_
      refine ex_then_ret ?_
      exact ex_ret_caught (fun a w ha => ⟨_, res_tc (fn := Tryd.f40) ha rfl rfl rfl F.one35, [], code, none, 0, .inr (.inl ⟨hwl, hal, hco, rfl⟩), rfl, (ha.add_nil 3 1).grown (by repeat (first | exact List.Sublist.refl _ | exact List.nil_sublist _ | refine List.Sublist.cons_cons _ ?_ | refine List.Sublist.cons _ ?_))⟩)
    · skip
      refine cod_region ?_
      refine lst_loadN rfl rfl F.agg75 F.ti75 ?_
      refine lst_move rfl rfl ?_
      refine lst_move rfl rfl ?_
      refine lst_call (X := Option Addr × Nat) (first := []) (cap := []) (vs := [_, _, _]) (p := fun _ => outs.length = way.length) (val := fun x => .tuple #[.slice x.1 outs.length x.2, .nilIface]) (rs := fun x => .row 3 1 x.1 outs.length x.2 (ints outs) :: .blk b8 (.cells [.slice aA ags.length cg, .int .u8 (usedAll ags.length : Nat)].toArray 75 (0, 0)) :: .row 89 5 aA ags.length cg (ags.flatMap Ag.cells) :: [.blk b7 (.cells [.int .i64 0].toArray 35 (0, 0))]) rfl rfl rfl F.ent95 (fun a w ha => (along_c (T := .blk b8 (.cells [.slice aA ags.length cg, .int .u8 (usedAll ags.length : Nat)].toArray 75 (0, 0)) :: .row 89 5 aA ags.length cg (ags.flatMap Ag.cells) :: [.blk b7 (.cells [.int .i64 0].toArray 35 (0, 0))]) rfl hok hf hwl (Rds.old (hW.later (Below.refl _ _)) rfl) hsome (by simp) ha).mono (fun e w' h => by
        rcases h with ⟨o2, A', c', h1, h2, h3, h4⟩ | ⟨co, k, h1, _⟩
        · rw [hal] at h1
          obtain rfl := Except.ok.inj h1
          exact ⟨(A', c'), h2, h3, h4⟩
        · rw [hal] at h1; cases h1)) ?_
      rintro ⟨A1, c1⟩ hol
      dsimp only at hol ⊢
      refine lst_move rfl rfl ?_
      refine lst_extract rfl rfl rfl ?_
      refine lst_extract rfl rfl rfl ?_
      refine lst_assign rfl rfl ?_
      refine lst_assign rfl rfl ?_
      refine lst_nil ?_
      refine ex_then ?_
      refine cod_seq ?_
      refine cod_region ?_
      refine lst_alloc rfl F.ti111 ?_
      intro b11
      refine lst_nil ?_
      refine ex_then ?_
      refine cod_seq ?_
      refine cod_seq ?_
      refine cod_region ?_
      refine lst_move rfl rfl ?_
      refine lst_makeInterface rfl rfl Tryd.underlying113 rfl ?_
      refine lst_fn0 (vs := [_, _]) rfl rfl F.ent96 (fun a w ha => as_nil _ w) ?_
      refine lst_nil ?_
      refine ex_then ?_
      refine cod_cond_false rfl ?_
      refine cod_skip ?_
      refine ex_then ?_
      refine cod_seq ?_
      refine cod_region ?_
      refine lst_move rfl rfl ?_
      refine lst_assign rfl rfl ?_
      refine lst_store rfl rfl F.ti35 rfl ?_
      refine lst_nil ?_
      refine ex_then ?_
      refine cod_ret ?_
      exact ex_ret_caught (fun a w ha => ⟨_, res_tc (fn := Tryd.f40) ha rfl rfl rfl F.one35, outs, 0, A1, c1, .inl ⟨hwl, hal, rfl, hol⟩, rfl, ha.grown (by repeat (first | exact List.Sublist.refl _ | exact List.nil_sublist _ | refine List.Sublist.cons_cons _ ?_ | refine List.Sublist.cons _ ?_))⟩)

theorem wayOf_ok {C : Ctx} {fr : List (Nat × Value)} {T : List Res} {a : Act} {w : World} (hC : C.P = Tryd.prog) {hb tk st nc : Nat} {nA : Option Addr} {nums : List Int} (hB : C.w0.heap.size = C.B) (hN : RdL icell 1 C.w0 nA nums) (htk : tk ≤ 900000) (hst : st < 18446744073709551616) {ags : List Ag} {aA : Option Addr} {ac f : Nat} (hok : Oks ags) (hf : f < 64) (hA : Rds Ag.cells 5 C T aA ags) (ha : At C fr (.blk hb (hatO nA nums.length nc (tk) (st)) :: T) a w) : Calls C.P 39 #[.pointer (some ⟨hb, 0, none⟩), .slice aA ags.length ac, .int .i64 (f : Int)] w fun e w' => ∃ (tk' st' : Nat) (W : List Nat) (A : Option Addr) (c : Nat), tk' ≤ tk + 70 ∧ st' < 18446744073709551616 ∧ W.length ≤ 21 ∧ (∀ x ∈ W, x ≤ 4) ∧ e = .returned (.slice A W.length c) ∧ At C fr (.row 3 1 A W.length c (ints W) :: .blk hb (hatO nA nums.length nc (tk') (st')) :: T) a w' := by
  obtain ⟨P, B, w0, N0, ds⟩ := C
  obtain rfl : P = Tryd.prog := hC
  (try dsimp only at hB)
  (try dsimp only at hN)
  refine enter_in (N := 55) [(0, .pointer (some ⟨hb, 0, none⟩)), (1, .slice aA ags.length ac), (2, .int .i64 (f : Int))] ha Tryd.func39 rfl Tryd.ntmps39 rfl rfl ?_
  refine cod_seq ?_
  refine cod_region ?_
  refine lst_assign rfl rfl ?_
  refine lst_nil ?_
  refine ex_then ?_
  refine cod_seq ?_
  refine cod_region ?_
  refine lst_assign rfl rfl ?_
  refine lst_nil ?_
  refine ex_then ?_
  refine cod_seq ?_
  refine cod_seq ?_
  refine cod_region ?_
  refine lst_move rfl rfl ?_
  refine lst_lit (vs := [(0, _), (1, _), (2, _), (3, _), (4, _), (5, _)]) rfl rfl Tryd.underlying25 F.ti3 rfl rfl rfl ?_
  intro b13
  refine lst_call_pul (X := Nat × Nat) (vs := [_, _]) hb (fun y => hatO nA nums.length nc (tk + 1) (y.1)) (fun y => y.1 < 18446744073709551616 ∧ y.2 ∈ [0, 1, 2, 3, 5, 21]) (fun y => .int .i64 (y.2 : Int)) rfl rfl F.ent92 (fun a w ha => (One_c (C := ⟨Tryd.prog, B, w0, _, _⟩) rfl hB hN (tk := tk) (st := st) (A := (some ⟨b13, 0, none⟩)) (c := 6) (l := [0, 1, 2, 3, 5, 21]) (by omega) hst (by simp) (by simp) (Rds.blk (b := b13) (ct := 3) (fun _ => rfl) (by simp [ncell])) ha).mono (fun e w' h => by obtain ⟨s', x, h1, h2, h3, h4⟩ := h; exact ⟨(s', x), ⟨h1, h2⟩, h3, h4⟩)) ?_
  rintro ⟨s1, i0⟩ ⟨hs1, hi0⟩
  dsimp only at hs1 hi0 ⊢
  have hi021 : i0 ≤ 21 := by simp at hi0; omega
  refine lst_assign rfl rfl ?_
  refine lst_nil ?_
  refine ex_then ?_
  refine cod_block ?_
  refine cod_nil 3 1 ?_
  refine cod_loop' (G := Nat × Nat × Nat × Option Addr × Nat × List Nat × Nat) (fun g => g.1 + g.2.2.2.2.2.1.length ≤ 21 ∧ (∀ x ∈ g.2.2.2.2.2.1, x ≤ 4) ∧ g.2.1 ≤ tk + 1 + 3 * g.2.2.2.2.2.1.length ∧ g.2.2.1 < 18446744073709551616 ∧ g.2.2.2.2.2.2 < 64) (fun g => g.1) (fun g => [(0, .pointer (some ⟨hb, 0, none⟩)), (1, .slice aA ags.length ac), (2, .int .i64 (g.2.2.2.2.2.2 : Int)), (7, .slice g.2.2.2.1 g.2.2.2.2.2.1.length g.2.2.2.2.1), (8, .int .i64 (g.1 : Int))]) (fun g => .row 3 1 g.2.2.2.1 g.2.2.2.2.2.1.length g.2.2.2.2.1 (ints g.2.2.2.2.2.1) :: .blk hb (hatO nA nums.length nc (g.2.1) (g.2.2.1)) :: T) (i0, tk + 1, s1, none, 0, [], f) ⟨by simp; omega, by simp, by simp, hs1, hf⟩ (by repeat (first | exact Sub.nil _ | refine Sub.cons rfl ?_)) (by repeat (first | exact Pck.nil _ | exact Pck.refl _ | (apply Pck.cons; focus ((repeat (first | exact Rem.here _ | apply Rem.there)); done)) | refine Pck.skip _ ?_)) ?_
  rintro ⟨i, t1, s1, A1, c1, W, m⟩ ⟨hil, hW4, ht1, hs1, hm⟩
  dsimp only at hil hW4 ht1 hs1 hm ⊢
  refine cod_seq ?_
  refine cod_seq ?_
  refine cod_region ?_
  refine lst_move rfl rfl ?_
  refine lst_int rfl rfl rfl bin_gtr ?_
  refine lst_nil ?_
  refine ex_then ?_
  refine cod_cond_dec rfl (fun hc0 => ?_) (fun hc0 => ?_)
  · skip
    obtain ⟨i, rfl⟩ : ∃ i', i = i' + 1 := ⟨i - 1, by omega⟩
    refine cod_skip ?_
    refine ex_then ?_
    refine cod_seq ?_
    refine cod_block ?_
    refine cod_seq ?_
    refine cod_region ?_
    refine lst_move rfl rfl ?_
    refine lst_move rfl rfl ?_
    refine lst_fn (X := Option Addr × Nat) (vs := [_, _]) (p := fun _ => True) (val := fun x => .tuple #[.slice x.1 (canTo ags (usedAll ags.length) m ags.length).length x.2, .int .i64 0]) (rs := fun x => [.row 3 1 x.1 (canTo ags (usedAll ags.length) m ags.length).length x.2 (ints (canTo ags (usedAll ags.length) m ags.length))]) rfl rfl F.ent44 (fun a w ha => (rMay_ok aA ac ags hok m hm w (hA _ _ _ _ _ ha rfl rfl rfl (fun r hr => by simp [hr]))).mono (fun e w' h => by obtain ⟨A', c', h1, h2⟩ := h; exact ⟨(A', c'), trivial, h1, h2⟩)) ?_
    rintro ⟨lA, lc⟩ -
    dsimp only [List.cons_append, List.nil_append]
    refine lst_move rfl rfl ?_
    refine lst_extract rfl rfl rfl ?_
    refine lst_extract rfl rfl rfl ?_
    refine lst_assign rfl rfl ?_
    refine lst_assign rfl rfl ?_
    refine lst_nil ?_
    refine ex_then ?_
    refine cod_seq ?_
    refine cod_seq ?_
    refine cod_region ?_
    refine lst_move rfl rfl ?_
    refine lst_int rfl rfl rfl bin_neq ?_
    refine lst_move rfl rfl ?_
    refine lst_on rfl rfl ?_
    refine lst_move rfl rfl ?_
    refine lst_on rfl rfl ?_
    refine lst_len rfl rfl Tryd.underlying25 ?_
    refine lst_on rfl rfl ?_
    refine lst_int rfl rfl rfl bin_eql ?_
    refine lst_pick_false rfl rfl rfl ?_
    refine lst_nil ?_
    refine ex_then ?_
    refine cod_cond_dec rfl (fun hc1 => ?_) (fun hc1 => ?_)
    · skip
      refine cod_seq ?_
      refine cod_region ?_
      refine lst_move rfl rfl ?_
      refine lst_assign rfl rfl ?_
      refine lst_nil ?_
      refine ex_then ?_
      refine cod_ret ?_
      refine ex_then_ret ?_
      refine ex_block_ret ?_
      refine ex_then_ret ?_
      refine ex_then_ret ?_
      refine ex_block_ret ?_
      refine ex_then_ret ?_
      exact ex_ret rfl (fun a w ha => res_one rfl rfl ha) (fun _ _ ha' => ⟨t1, s1, W, A1, c1, by omega, hs1, by omega, hW4, rfl, ha.back (ha'.pck (by repeat (first | exact Pck.nil _ | exact Pck.refl _ | (apply Pck.cons; focus ((repeat (first | exact Rem.here _ | apply Rem.there)); done)) | refine Pck.skip _ ?_)))⟩)
    · skip
      have hcl := canTo_len ags (usedAll ags.length) m ags.length
      have h4 := hok.1
      refine cod_skip ?_
      refine ex_then ?_
      refine cod_seq ?_
      refine cod_region ?_
      refine lst_move rfl rfl ?_
      refine lst_move rfl rfl ?_
      refine lst_call_pul (X := Nat × Nat) (vs := [_, _]) hb (fun y => hatO nA nums.length nc (t1 + 1) (y.1)) (fun y => y.1 < 18446744073709551616 ∧ y.2 ∈ (canTo ags (usedAll ags.length) m ags.length)) (fun y => .int .i64 (y.2 : Int)) rfl rfl F.ent92 (fun a w ha => (One_c (C := ⟨Tryd.prog, B, w0, _, _⟩) rfl hB hN (tk := t1) (st := s1) (A := lA) (c := lc) (l := (canTo ags (usedAll ags.length) m ags.length)) (by omega) hs1 (by omega) (by omega) (Rds.row (e := 3) (c := lc) (fun _ => rfl) (by rw [← ints_flat]; simp)) ha).mono (fun e w' h => by obtain ⟨s', x, h1, h2, h3, h4⟩ := h; exact ⟨(s', x), ⟨h1, h2⟩, h3, h4⟩)) ?_
      rintro ⟨s2, n0⟩ ⟨hs2, hn0⟩
      dsimp only at hs2 hn0 ⊢
      have hn04 : n0 ≤ 4 := by have := (canTo_mem hn0).1; omega
      refine lst_assign rfl rfl ?_
      refine lst_nil ?_
      refine ex_then ?_
      refine cod_seq ?_
      refine cod_seq ?_
      refine cod_region ?_
      refine lst_move rfl rfl ?_
      refine lst_call_pul (X := Nat × Bool) (vs := [_, _]) hb (fun y => hatO nA nums.length nc (t1 + 1 + 1) (y.1)) (fun y => y.1 < 18446744073709551616) (fun y => .bool y.2) rfl rfl F.ent93 (fun a w ha => (Seldom_c (C := ⟨Tryd.prog, B, w0, _, _⟩) rfl hB hN (tk := t1 + 1) (st := s2) (n := 20) (by omega) hs2 (by omega) (by omega) ha).mono (fun e w' h => by obtain ⟨s', b, h1, h2, h3⟩ := h; exact ⟨(s', b), h1, h2, h3⟩)) ?_
      rintro ⟨s3, bb⟩ hs3
      dsimp only at hs3 ⊢
      refine lst_nil ?_
      refine ex_then ?_
      refine cod_cond_bool rfl (fun hc2 => ?_) (fun hc2 => ?_)
      · skip
        refine cod_region ?_
        refine lst_move rfl rfl ?_
        refine lst_call_pul (X := Nat × Nat) (vs := [_, _]) hb (fun y => hatO nA nums.length nc (t1 + 1 + 1 + 1) (y.1)) (fun y => y.1 < 18446744073709551616 ∧ y.2 ≤ (4 : Int).toNat) (fun y => .int .i64 (y.2 : Int)) rfl rfl F.ent25 (fun a w ha => (To_c (C := ⟨Tryd.prog, B, w0, _, _⟩) rfl hB hN (tk := t1 + 1 + 1) (st := s3) (n := 4) (by omega) hs3 (by omega) ha).mono (fun e w' h => by obtain ⟨s', x, h1, h2, h3, h4⟩ := h; exact ⟨(s', x), ⟨h1, h2⟩, h3, h4⟩)) ?_
        rintro ⟨s4, n1⟩ ⟨hs4, hn1⟩
        dsimp only at hs4 hn1 ⊢
        have hn14 : n1 ≤ 4 := by omega
        refine lst_assign rfl rfl ?_
        refine lst_nil ?_
        refine ex_then ?_
        refine cod_seq ?_
        refine cod_region ?_
        refine lst_move rfl rfl ?_
        refine lst_move rfl rfl ?_
        refine lst_lit (vs := [(0, _)]) rfl rfl Tryd.underlying25 F.ti3 rfl rfl rfl ?_
        intro b42
        refine lst_append rfl rfl rfl Tryd.underlying25 F.ti3 rfl rfl rfl (by unfold maxLen; omega) (by omega) ?_
        intro A2 c2
        refine lst_assign rfl rfl ?_
        refine lst_nil ?_
        refine ex_then ?_
        refine cod_seq ?_
        refine cod_region ?_
        refine lst_move rfl rfl ?_
        refine lst_move rfl rfl ?_
        refine lst_len rfl rfl Tryd.underlying22 ?_
        refine lst_int rfl rfl rfl bin_lss ?_
        refine lst_nil ?_
        refine ex_then ?_
        refine cod_cond_dec rfl (fun hc3 => ?_) (fun hc3 => ?_)
        · skip
          have hj : n1 < ags.length := by omega
          refine cod_region ?_
          refine lst_move rfl rfl ?_
          refine lst_move rfl rfl ?_
          refine lst_know (φ := ∃ b o, aA = some ⟨b, o, none⟩) (fun a w ha => by obtain ⟨b, o, h1, _⟩ := (hA _ _ _ _ _ ha rfl rfl rfl (fun r hr => by simp [hr])) (by omega); exact ⟨b, o, h1⟩) (fun hA' => ?_)
          obtain ⟨b, o, rfl⟩ := hA'
          obtain ⟨x, hx⟩ : ∃ x, ags[n1]? = some x := ⟨_, List.getElem?_eq_getElem hj⟩
          have hxo : x.ok := hok.2 x (List.mem_of_getElem? hx)
          refine lst_index (j := n1) rfl rfl rfl Tryd.underlying22 F.ti24 rfl hj ?_
          refine lst_loadN_at (l := [.int .i64 (x.needs : Int), .int .i64 (x.no : Int), .int .i64 (x.takes : Int), .int .i64 (x.leaves : Int), .int .i64 (x.cost : Int)]) rfl rfl F.agg24 F.ti24 rfl (fun a w ha j u hu => by obtain ⟨b2, o2, h1, _, h3⟩ := (hA _ _ _ _ _ ha rfl rfl rfl (fun r hr => by simp [hr])) (by omega); cases h1; exact h3 n1 x hx j u hu) ?_
          refine lst_move rfl rfl ?_
          refine lst_fn0 (vs := [_, _]) rfl rfl F.ent94 (fun a w ha => rafter_c x m hxo hm w) ?_
          refine lst_assign rfl rfl ?_
          refine lst_nil ?_
          refine ex_block_normal ?_
          refine ex_then ?_
          refine cod_region ?_
          refine lst_move rfl rfl ?_
          refine lst_int rfl rfl rfl (fun w => bin_sub w (show IntKind.i64.wrap (((i + 1 : Nat) : Int) - 1) = (i : Int) from by rw [wrap_i64' _ (by omega) (by omega)]; omega)) ?_
          refine lst_assign rfl rfl ?_
          refine lst_nil ?_
          first
            | exact ex_round' (i, t1 + 1 + 1 + 1, s4, A2, c2, W ++ [n1], putN x m) ⟨by simp; omega, ent4 hW4 hn14, by simp; omega, hs4, putN_lt hxo hm⟩ (by (try dsimp only); omega) (by dsimp only; rw [List.length_append, List.length_singleton]; repeat (first | exact Sub.nil _ | refine Sub.cons rfl ?_)) (by dsimp only; rw [List.length_append, List.length_singleton, ints_snoc]; repeat (first | exact Pck.nil _ | exact Pck.refl _ | (apply Pck.cons; focus ((repeat (first | exact Rem.here _ | apply Rem.there)); done)) | refine Pck.skip _ ?_))
            | exact ex_round' (i, t1 + 1 + 1 + 1, s4, A2, c2, W ++ [n1], m) ⟨by simp; omega, ent4 hW4 hn14, by simp; omega, hs4, hm⟩ (by (try dsimp only); omega) (by dsimp only; rw [List.length_append, List.length_singleton]; repeat (first | exact Sub.nil _ | refine Sub.cons rfl ?_)) (by dsimp only; rw [List.length_append, List.length_singleton, ints_snoc]; repeat (first | exact Pck.nil _ | exact Pck.refl _ | (apply Pck.cons; focus ((repeat (first | exact Rem.here _ | apply Rem.there)); done)) | refine Pck.skip _ ?_))
        · skip
          refine cod_skip ?_
          refine ex_block_normal ?_
          refine ex_then ?_
          refine cod_region ?_
          refine lst_move rfl rfl ?_
          refine lst_int rfl rfl rfl (fun w => bin_sub w (show IntKind.i64.wrap (((i + 1 : Nat) : Int) - 1) = (i : Int) from by rw [wrap_i64' _ (by omega) (by omega)]; omega)) ?_
          refine lst_assign rfl rfl ?_
          refine lst_nil ?_
          first
            | exact ex_round' (i, t1 + 1 + 1 + 1, s4, A2, c2, W ++ [n1], putN x m) ⟨by simp; omega, ent4 hW4 hn14, by simp; omega, hs4, putN_lt hxo hm⟩ (by (try dsimp only); omega) (by dsimp only; rw [List.length_append, List.length_singleton]; repeat (first | exact Sub.nil _ | refine Sub.cons rfl ?_)) (by dsimp only; rw [List.length_append, List.length_singleton, ints_snoc]; repeat (first | exact Pck.nil _ | exact Pck.refl _ | (apply Pck.cons; focus ((repeat (first | exact Rem.here _ | apply Rem.there)); done)) | refine Pck.skip _ ?_))
            | exact ex_round' (i, t1 + 1 + 1 + 1, s4, A2, c2, W ++ [n1], m) ⟨by simp; omega, ent4 hW4 hn14, by simp; omega, hs4, hm⟩ (by (try dsimp only); omega) (by dsimp only; rw [List.length_append, List.length_singleton]; repeat (first | exact Sub.nil _ | refine Sub.cons rfl ?_)) (by dsimp only; rw [List.length_append, List.length_singleton, ints_snoc]; repeat (first | exact Pck.nil _ | exact Pck.refl _ | (apply Pck.cons; focus ((repeat (first | exact Rem.here _ | apply Rem.there)); done)) | refine Pck.skip _ ?_))
      · skip
        refine cod_skip ?_
        refine ex_then ?_
        refine cod_seq ?_
        refine cod_region ?_
        refine lst_move rfl rfl ?_
        refine lst_move rfl rfl ?_
        refine lst_lit (vs := [(0, _)]) rfl rfl Tryd.underlying25 F.ti3 rfl rfl rfl ?_
        intro b42
        refine lst_append rfl rfl rfl Tryd.underlying25 F.ti3 rfl rfl rfl (by unfold maxLen; omega) (by omega) ?_
        intro A2 c2
        refine lst_assign rfl rfl ?_
        refine lst_nil ?_
        refine ex_then ?_
        refine cod_seq ?_
        refine cod_region ?_
        refine lst_move rfl rfl ?_
        refine lst_move rfl rfl ?_
        refine lst_len rfl rfl Tryd.underlying22 ?_
        refine lst_int rfl rfl rfl bin_lss ?_
        refine lst_nil ?_
        refine ex_then ?_
        refine cod_cond_dec rfl (fun hc3 => ?_) (fun hc3 => ?_)
        · skip
          have hj : n0 < ags.length := by omega
          refine cod_region ?_
          refine lst_move rfl rfl ?_
          refine lst_move rfl rfl ?_
          refine lst_know (φ := ∃ b o, aA = some ⟨b, o, none⟩) (fun a w ha => by obtain ⟨b, o, h1, _⟩ := (hA _ _ _ _ _ ha rfl rfl rfl (fun r hr => by simp [hr])) (by omega); exact ⟨b, o, h1⟩) (fun hA' => ?_)
          obtain ⟨b, o, rfl⟩ := hA'
          obtain ⟨x, hx⟩ : ∃ x, ags[n0]? = some x := ⟨_, List.getElem?_eq_getElem hj⟩
          have hxo : x.ok := hok.2 x (List.mem_of_getElem? hx)
          refine lst_index (j := n0) rfl rfl rfl Tryd.underlying22 F.ti24 rfl hj ?_
          refine lst_loadN_at (l := [.int .i64 (x.needs : Int), .int .i64 (x.no : Int), .int .i64 (x.takes : Int), .int .i64 (x.leaves : Int), .int .i64 (x.cost : Int)]) rfl rfl F.agg24 F.ti24 rfl (fun a w ha j u hu => by obtain ⟨b2, o2, h1, _, h3⟩ := (hA _ _ _ _ _ ha rfl rfl rfl (fun r hr => by simp [hr])) (by omega); cases h1; exact h3 n0 x hx j u hu) ?_
          refine lst_move rfl rfl ?_
          refine lst_fn0 (vs := [_, _]) rfl rfl F.ent94 (fun a w ha => rafter_c x m hxo hm w) ?_
          refine lst_assign rfl rfl ?_
          refine lst_nil ?_
          refine ex_block_normal ?_
          refine ex_then ?_
          refine cod_region ?_
          refine lst_move rfl rfl ?_
          refine lst_int rfl rfl rfl (fun w => bin_sub w (show IntKind.i64.wrap (((i + 1 : Nat) : Int) - 1) = (i : Int) from by rw [wrap_i64' _ (by omega) (by omega)]; omega)) ?_
          refine lst_assign rfl rfl ?_
          refine lst_nil ?_
          first
            | exact ex_round' (i, t1 + 1 + 1, s3, A2, c2, W ++ [n0], putN x m) ⟨by simp; omega, ent4 hW4 hn04, by simp; omega, hs3, putN_lt hxo hm⟩ (by (try dsimp only); omega) (by dsimp only; rw [List.length_append, List.length_singleton]; repeat (first | exact Sub.nil _ | refine Sub.cons rfl ?_)) (by dsimp only; rw [List.length_append, List.length_singleton, ints_snoc]; repeat (first | exact Pck.nil _ | exact Pck.refl _ | (apply Pck.cons; focus ((repeat (first | exact Rem.here _ | apply Rem.there)); done)) | refine Pck.skip _ ?_))
            | exact ex_round' (i, t1 + 1 + 1, s3, A2, c2, W ++ [n0], m) ⟨by simp; omega, ent4 hW4 hn04, by simp; omega, hs3, hm⟩ (by (try dsimp only); omega) (by dsimp only; rw [List.length_append, List.length_singleton]; repeat (first | exact Sub.nil _ | refine Sub.cons rfl ?_)) (by dsimp only; rw [List.length_append, List.length_singleton, ints_snoc]; repeat (first | exact Pck.nil _ | exact Pck.refl _ | (apply Pck.cons; focus ((repeat (first | exact Rem.here _ | apply Rem.there)); done)) | refine Pck.skip _ ?_))
        · skip
          refine cod_skip ?_
          refine ex_block_normal ?_
          refine ex_then ?_
          refine cod_region ?_
          refine lst_move rfl rfl ?_
          refine lst_int rfl rfl rfl (fun w => bin_sub w (show IntKind.i64.wrap (((i + 1 : Nat) : Int) - 1) = (i : Int) from by rw [wrap_i64' _ (by omega) (by omega)]; omega)) ?_
          refine lst_assign rfl rfl ?_
          refine lst_nil ?_
          first
            | exact ex_round' (i, t1 + 1 + 1, s3, A2, c2, W ++ [n0], putN x m) ⟨by simp; omega, ent4 hW4 hn04, by simp; omega, hs3, putN_lt hxo hm⟩ (by (try dsimp only); omega) (by dsimp only; rw [List.length_append, List.length_singleton]; repeat (first | exact Sub.nil _ | refine Sub.cons rfl ?_)) (by dsimp only; rw [List.length_append, List.length_singleton, ints_snoc]; repeat (first | exact Pck.nil _ | exact Pck.refl _ | (apply Pck.cons; focus ((repeat (first | exact Rem.here _ | apply Rem.there)); done)) | refine Pck.skip _ ?_))
            | exact ex_round' (i, t1 + 1 + 1, s3, A2, c2, W ++ [n0], m) ⟨by simp; omega, ent4 hW4 hn04, by simp; omega, hs3, hm⟩ (by (try dsimp only); omega) (by dsimp only; rw [List.length_append, List.length_singleton]; repeat (first | exact Sub.nil _ | refine Sub.cons rfl ?_)) (by dsimp only; rw [List.length_append, List.length_singleton, ints_snoc]; repeat (first | exact Pck.nil _ | exact Pck.refl _ | (apply Pck.cons; focus ((repeat (first | exact Rem.here _ | apply Rem.there)); done)) | refine Pck.skip _ ?_))
  · skip
    refine cod_exit ?_
    refine ex_then_exit ?_
    refine ex_then_exit ?_
    refine ex_block_exit ?_
    refine ex_then ?_
    refine cod_seq ?_
    refine cod_region ?_
    refine lst_move rfl rfl ?_
    refine lst_assign rfl rfl ?_
    refine lst_nil ?_
    refine ex_then ?_
    refine cod_ret ?_
    exact ex_ret rfl (fun a w ha => res_one rfl rfl ha) (fun _ _ ha' => ⟨t1, s1, W, A1, c1, by omega, hs1, by omega, hW4, rfl, ha.back (ha'.pck (by repeat (first | exact Pck.nil _ | exact Pck.refl _ | (apply Pck.cons; focus ((repeat (first | exact Rem.here _ | apply Rem.there)); done)) | refine Pck.skip _ ?_)))⟩)

end Go.Proofs.YtofkhehcnfiopaaDoor.N
namespace Go.Proofs.YtofkhehcnfiopaaDoor.N
open Go Go.RowKit Go.Proofs
def castL (l : List Nat) : List Int := l.map fun (n : Nat) => (n : Int)
def lastN (m : Nat) (l : List Nat) : Nat := l.getLast?.getD m
theorem lastN_snoc (m : Nat) (l : List Nat) (x : Nat) : lastN m (l ++ [x]) = x := by
  unfold lastN
  simp
theorem lastL_cast (m : Nat) (l : List Nat) : lastL (m : Int) (castL l) = ((lastN m l : Nat) : Int) := by
  unfold lastL lastN castL
  rw [List.getLast?_map]
  cases l.getLast? <;> rfl
theorem castL_len (l : List Nat) : (castL l).length = l.length := List.length_map ..
theorem castL_get {l : List Nat} {i x : Nat} (h : l[i]? = some x) : (castL l)[i]? = some (x : Int) := by
  unfold castL
  rw [List.getElem?_map, h]; rfl
theorem map_ok {r : Except Nat (List Nat)} {x : Nat} {outs : List Nat} (h : r.map (x :: ·) = .ok outs) : ∃ l, r = .ok l ∧ outs = x :: l := by
  cases r with
  | error c => cases h
  | ok l => exact ⟨l, rfl, (Except.ok.inj h).symm⟩
theorem alongE_len {ags : List Ag} : ∀ {way : List Int} {f : Nat} {outs : List Nat}, alongE ags f way = .ok outs → outs.length = way.length
  | [], f, outs, h => by
    obtain rfl := Except.ok.inj h
    rfl
  | n :: l, f, outs, h => by
    unfold alongE at h
    split at h
    · cases h
    · split at h
      · cases h
      · obtain ⟨o, h1, rfl⟩ := map_ok h
        rw [List.length_cons, List.length_cons, alongE_len h1]
theorem alongE_take {ags : List Ag} : ∀ {way : List Int} {f : Nat} {outs : List Nat} (i : Nat), alongE ags f way = .ok outs → alongE ags f (way.take i) = .ok (outs.take i)
  | [], f, outs, i, h => by
    obtain rfl := Except.ok.inj h
    rw [List.take_nil, List.take_nil]; rfl
  | n :: l, f, outs, 0, h => by
    rw [List.take_zero, List.take_zero]; rfl
  | n :: l, f, outs, i + 1, h => by
    rw [List.take_succ_cons]
    unfold alongE at h ⊢
    split at h
    · cases h
    · rename_i h1
      rw [if_neg h1]
      split at h
      · cases h
      · rename_i h2
        rw [if_neg h2]
        obtain ⟨o, h3, rfl⟩ := map_ok h
        rw [alongE_take i h3, List.take_succ_cons]; rfl
theorem alongE_drop {ags : List Ag} : ∀ {way : List Int} {f : Nat} {outs : List Nat} (i : Nat), i ≤ way.length → alongE ags f way = .ok outs → alongE ags (lastN f (outs.take i)) (way.drop i) = .ok (outs.drop i)
  | _, f, outs, 0, _, h => by
    rw [List.take_zero, List.drop_zero, List.drop_zero]; exact h
  | [], f, outs, i + 1, hi, h => by simp at hi
  | n :: l, f, outs, i + 1, hi, h => by
    unfold alongE at h
    split at h
    · cases h
    · split at h
      · cases h
      · obtain ⟨o, h3, rfl⟩ := map_ok h
        rw [List.take_succ_cons, List.drop_succ_cons, List.drop_succ_cons]
        have := alongE_drop i (by simpa using hi) h3
        have e : lastN f (putN (ags.getD n.toNat default) f :: o.take i) = lastN (putN (ags.getD n.toNat default) f) (o.take i) := by
          unfold lastN
          cases o.take i with
          | nil => rfl
          | cons y ys => simp [List.getLast?_cons]
        rw [e]; exact this
theorem alongE_lt {ags : List Ag} (hok : Oks ags) : ∀ {way : List Int} {f : Nat} {outs : List Nat}, f < 64 → alongE ags f way = .ok outs → ∀ x ∈ outs, x < 64
  | [], f, outs, hf, h => by
    obtain rfl := Except.ok.inj h
    intro x hx; cases hx
  | n :: l, f, outs, hf, h => by
    unfold alongE at h
    split at h
    · cases h
    · rename_i hb
      split at h
      · cases h
      · obtain ⟨o, h1, rfl⟩ := map_ok h
        have hb' : inB n 0 ((ags.length : Int) - 1) = true := by simpa using hb
        rw [inB_true] at hb'
        have hp := putN_lt (agd_ok hok (show n.toNat < ags.length by omega)) hf
        intro x hx
        rcases List.mem_cons.1 hx with e | e
        · rw [e]; exact hp
        · exact alongE_lt hok hp h1 x e
theorem lastN_lt {m : Nat} {l : List Nat} (hm : m < 64) (h : ∀ x ∈ l, x < 64) : lastN m l < 64 := by
  unfold lastN
  cases e : l.getLast? with
  | none => exact hm
  | some x => exact h x (List.mem_of_getLast? e)
/-- The law's own way through the list. -/
structure Wlk (ags : List Ag) (m : Nat) (W : List Nat) (i now due : Nat) : Prop where
  lt : now < 64
  go : due = 0 → ∃ pre, pre.length = i ∧ lastN m pre = now ∧ alongE ags m (castL W) = goesOn pre (alongE ags now ((castL W).drop i))
  bad : due ≠ 0 → (due = 3 ∨ due = 12) ∧ alongE ags m (castL W) = .error due
theorem Wlk.zero {ags : List Ag} {m : Nat} {W : List Nat} (hm : m < 64) : Wlk ags m W 0 m 0 := ⟨hm, fun _ => ⟨[], rfl, rfl, by rw [goesOn_nil]; rfl⟩, fun h => absurd rfl h⟩
theorem Wlk.miss {ags : List Ag} {m now i x : Nat} {W : List Nat} (h : Wlk ags m W i now 0) (hx : W[i]? = some x) (hb : ags.length ≤ x) : Wlk ags m W (i + 1) now 3 := by
  obtain ⟨pre, _, _, h3⟩ := h.go rfl
  rw [alongE_step (castL_get hx), if_pos (by cases e : inB (x : Int) 0 ((ags.length : Int) - 1) with | false => rfl | true => rw [inB_true] at e; omega)] at h3
  exact ⟨h.lt, fun e => absurd e (by decide), fun _ => ⟨.inl rfl, h3⟩⟩
theorem Wlk.bar {ags : List Ag} {m now i x : Nat} {W : List Nat} (h : Wlk ags m W i now 0) (hx : W[i]? = some x) (hb : x < ags.length) (hm : mayN (ags.getD x default) now = false) : Wlk ags m W (i + 1) now 12 := by
  obtain ⟨pre, _, _, h3⟩ := h.go rfl
  rw [alongE_step (castL_get hx), if_neg (by rw [Bool.not_eq_false, inB_true]; omega), Int.toNat_natCast, if_pos hm] at h3
  exact ⟨h.lt, fun e => absurd e (by decide), fun _ => ⟨.inr rfl, h3⟩⟩
theorem Wlk.next {ags : List Ag} {m now i x : Nat} {W : List Nat} (hok : Oks ags) (h : Wlk ags m W i now 0) (hx : W[i]? = some x) (hb : x < ags.length) (hm : mayN (ags.getD x default) now = true) : Wlk ags m W (i + 1) (putN (ags.getD x default) now) 0 := by
  obtain ⟨pre, h1, h2, h3⟩ := h.go rfl
  rw [alongE_step (castL_get hx), if_neg (by rw [Bool.not_eq_false, inB_true]; omega), Int.toNat_natCast, if_neg (by rw [hm]; simp), goesOn_step] at h3
  exact ⟨putN_lt (agd_ok hok hb) h.lt, fun _ => ⟨_, by rw [List.length_append, h1]; rfl, lastN_snoc _ _ _, h3⟩, fun e => absurd rfl e⟩
/-- What the law finds agrees with Put. -/
theorem Wlk.ends {ags : List Ag} {m now i due E : Nat} {W outs : List Nat} (h : Wlk ags m W i now due) (hput : PutS ags m (castL W) outs E) (hi : i ≤ W.length) (hend : (decide ((i : Int) < (W.length : Int)) && decide ((due : Int) = 0)) = false) (h20 : W.length ≤ 20) :
    E = due ∧ (due ≠ 0 → outs = []) ∧ (due = 0 → lastN m outs = now ∧ outs.length = W.length ∧ alongE ags m (castL W) = .ok outs) := by
  have hwl := castL_len W
  by_cases hd : due = 0
  · subst hd
    obtain ⟨pre, h1, h2, h3⟩ := h.go rfl
    simp at hend
    obtain rfl : i = W.length := by omega
    rw [show (castL W).drop W.length = [] by rw [← hwl, List.drop_length]] at h3
    have h4 : alongE ags m (castL W) = .ok pre := by rw [h3]; show Except.ok (pre ++ []) = _; rw [List.append_nil]
    rcases hput with ⟨_, g1, g2, g3⟩ | ⟨_, g1, _⟩ | ⟨g1, _⟩
    · rw [h4] at g1
      obtain rfl := Except.ok.inj g1
      exact ⟨g2, fun e => absurd rfl e, fun _ => ⟨h2, by omega, h4⟩⟩
    · rw [h4] at g1; cases g1
    · omega
  · obtain ⟨_, h2⟩ := h.bad hd
    rcases hput with ⟨_, g1, _⟩ | ⟨_, g1, _, g3⟩ | ⟨g1, _⟩
    · rw [h2] at g1; cases g1
    · rw [h2] at g1
      exact ⟨(Except.error.inj g1).symm, fun _ => g3, fun e => absurd e hd⟩
    · omega
theorem PutS.ok {ags : List Ag} {f E : Nat} {way : List Int} {outs o : List Nat} (h : PutS ags f way outs E) (hl : way.length ≤ 20) (ho : alongE ags f way = .ok o) : E = 0 ∧ outs = o := by
  rcases h with ⟨_, g1, g2, _⟩ | ⟨_, g1, _⟩ | ⟨g1, _⟩
  · rw [ho] at g1
    exact ⟨g2, (Except.ok.inj g1).symm⟩
  · rw [ho] at g1; cases g1
  · omega
theorem PutS.long {ags : List Ag} {f E : Nat} {way : List Int} {outs : List Nat} (h : PutS ags f way outs E) (hl : 20 < way.length) : E = 6 ∧ outs = [] := by
  rcases h with ⟨g, _⟩ | ⟨g, _⟩ | ⟨_, g⟩
  · omega
  · omega
  · exact g
end Go.Proofs.YtofkhehcnfiopaaDoor.N
namespace Go.Proofs.YtofkhehcnfiopaaDoor.N
open Go Go.RowKit Go.Proofs
theorem take_all {l : List Nat} {i : Nat} (h : (l.drop i).length = 0) : l.take i = l := by
  have h1 := List.take_append_drop i l
  rw [List.length_eq_zero_iff.1 h, List.append_nil] at h1
  exact h1
theorem ints_app (l m : List Nat) : ints (l ++ m) = ints l ++ ints m := by
  unfold ints
  rw [List.map_append]
/-- Nothing is appended to a row. -/
theorem lst_append_row_nil {C : Ctx} {fr : List (Nat × Value)} {hp : List Res} {ops : Array Oper} {Q : Exit → Act → World → Prop} {rest : List Oper} {d : Nat} {ty : TypeId} {pos : String} {after : Array Edge}
    {x y : Operand} {t e e' : TypeId} {A : Option Addr} {n n' c c' sz size bytes : Nat} {xs : List Value} {z : Value} (hd : Nat.blt d C.N = true)
    (hx : ev fr x = some (.slice A n c)) (hy : ev fr y = some (.slice none 0 0)) (ht : C.P.underlying t = some (.slice e)) (hi : TI C.P e z size bytes) [hr : InR A e' sz n' c' xs hp] (hn : n' = n) (hc : c' = c)
    (k : Lst C ops Q rest ((d, .slice A n c) :: fr) hp) :
    Lst C ops Q (⟨some d, .call { callee := .builtin .append, args := #[x, y], argTypes := #[t, t] }, ty, pos, after, none⟩ :: rest) fr hp := by
  subst hn; subst hc
  obtain ⟨i, hi1, hi2, hi3, hi4⟩ := hi
  refine lst_value _ hd (fun a w ha => ⟨w, ?_, ha⟩) k
  have hr' : (Builtin.append_ #[t, t] ty #[.slice A n' c', .slice none 0 0]).run C.P w = .ok (.slice A n' c') w := by
    cases A with
    | none =>
      obtain ⟨h1, h2⟩ := row_none ha hr.mem rfl
      subst h1; subst h2
      simp [Builtin.append_, run_underlying ht, sizeOf, typeInfo, hi1, Builtin.lenOf, run_firstCells_none, storeCells]
    | some p =>
      have hnc := ha.cap_le hr.mem
      simp [Builtin.append_, run_underlying ht, sizeOf, typeInfo, hi1, Builtin.lenOf, hnc, run_firstCells_none, storeCells]
  simp only [execOp, resolve, invoke, builtin, Sem.run_bind, Sem.run_pure, Result.andThen_ok, List.map_toArray, List.map_cons, List.map_nil, ha.eval hx, ha.eval hy, hr']
end Go.Proofs.YtofkhehcnfiopaaDoor.N
namespace Go.Proofs.YtofkhehcnfiopaaDoor.N
open Go Go.RowKit Go.Proofs
theorem F.ent39 : Enters Tryd.prog 39 := enters_of Tryd.func39 rfl (by kernel_rfl)
theorem F.ent41 : Enters Tryd.prog 41 := enters_of Tryd.func41 rfl (by kernel_rfl)
theorem F.ent43 : Enters Tryd.prog 43 := enters_of Tryd.func43 rfl (by kernel_rfl)
theorem FiningPut_c (nA : Option Addr) (nc : Nat) (nums : List Int) (w : World) (hN : RdL icell 1 w nA nums) (hE : w.cell? ⟨0, 0, none⟩ = some (iT 107)) : Calls Tryd.prog 7 #[.slice nA nums.length nc] w fun e w' => e = .returned (.bool true) ∧ Grew w w' [] := by
  have hpos : 0 < w.heap.size := heap_pos hE
  refine enter (N := 160) [(0, .slice nA nums.length nc)] Tryd.func7 rfl Tryd.ntmps7 rfl rfl ?_
  refine cod_seq ?_
  refine cod_region ?_
  refine lst_assign rfl rfl ?_
  refine lst_nil ?_
  refine ex_then ?_
  refine cod_seq ?_
  refine cod_region ?_
  refine lst_move rfl rfl ?_
  refine lst_fn (X := Nat) (vs := [_]) (p := fun _ => True) (val := fun b => .pointer (some ⟨b, 0, none⟩)) (rs := fun b => [.blk b (hatO nA nums.length nc 0 11400714819323198485)]) rfl rfl F.ent22 (fun a w ha => (NewHat_c nA nums.length nc w).mono (fun e w' h => by obtain ⟨b, h1, h2⟩ := h; exact ⟨b, trivial, h1, h2⟩)) ?_
  intro hb _
  dsimp only [List.cons_append, List.nil_append]
  refine lst_assign rfl rfl ?_
  refine lst_nil ?_
  refine ex_then ?_
  refine cod_seq ?_
  refine cod_region ?_
  refine lst_move rfl rfl ?_
  refine lst_call (X := Nat × Nat × List Ag × Option Addr × Nat) (first := []) (cap := []) (vs := [_, _, _]) (p := fun y => y.1 ≤ 200 ∧ y.2.1 < 18446744073709551616 ∧ y.2.2.1.length ≤ 4 ∧ ∀ x ∈ y.2.2.1, x.ok) (val := fun y => .slice y.2.2.2.1 y.2.2.1.length y.2.2.2.2) (rs := fun y => .row 24 5 y.2.2.2.1 y.2.2.1.length y.2.2.2.2 (y.2.2.1.flatMap Ag.cells) :: .blk hb (hatO nA nums.length nc y.1 y.2.1) :: []) rfl rfl rfl F.ent34 (fun a w ha => (AgentsOf_c (C := ⟨Tryd.prog, _, _, _, _⟩) (T := []) (tk := 0) (many := 4) (few := 4) rfl rfl hN (by omega) (by omega) (by omega) (by omega) (by omega) ha).mono (fun e w' h => by obtain ⟨t', s', l, A', c', h1, h2, h3, h4, h5, h6⟩ := h; exact ⟨(t', s', l, A', c'), ⟨by omega, h2, h3, h4⟩, h5, h6⟩)) ?_
  rintro ⟨t1, s1, ags, aA, ac⟩ ⟨ht1, hs1, hagl, hago⟩
  dsimp only at ht1 hs1 hagl hago ⊢
  have hok : Oks ags := ⟨by omega, hago⟩
  refine lst_move rfl rfl ?_
  refine lst_call_pul (X := Nat × Nat) (vs := [_, _]) hb (fun y => hatO nA nums.length nc (t1 + 1) (y.1)) (fun y => y.1 < 18446744073709551616 ∧ y.2 ≤ (15 : Int).toNat) (fun y => .int .i64 (y.2 : Int)) rfl rfl F.ent25 (fun a w ha => (To_c (C := ⟨Tryd.prog, _, _, _, _⟩) rfl rfl hN (tk := t1) (st := s1) (n := 15) (by omega) hs1 (by omega) ha).mono (fun e w' h => by obtain ⟨s', x, h1, h2, h3, h4⟩ := h; exact ⟨(s', x), ⟨h1, h2⟩, h3, h4⟩)) ?_
  rintro ⟨s2, m1⟩ ⟨hs2, hm1⟩
  dsimp only at hs2 hm1 ⊢
  have hlm1 : m1 ≤ 15 := by omega
  refine lst_assign rfl rfl ?_
  refine lst_assign rfl rfl ?_
  refine lst_nil ?_
  refine ex_then ?_
  refine cod_seq ?_
  refine cod_region ?_
  refine lst_move rfl rfl ?_
  refine lst_move rfl rfl ?_
  refine lst_move rfl rfl ?_
  refine lst_call (X := Nat × Nat × List Nat × Option Addr × Nat) (first := []) (cap := []) (vs := [_, _, _]) (p := fun y => y.1 ≤ 300 ∧ y.2.1 < 18446744073709551616 ∧ y.2.2.1.length ≤ 21 ∧ ∀ x ∈ y.2.2.1, x ≤ 4) (val := fun y => .slice y.2.2.2.1 y.2.2.1.length y.2.2.2.2) (rs := fun y => .row 3 1 y.2.2.2.1 y.2.2.1.length y.2.2.2.2 (ints y.2.2.1) :: .blk hb (hatO nA nums.length nc y.1 y.2.1) :: .row 24 5 aA ags.length ac (ags.flatMap Ag.cells) :: []) rfl rfl rfl F.ent39 (fun a w ha => (wayOf_ok (C := ⟨Tryd.prog, _, _, _, _⟩) (T := [.row 24 5 aA ags.length ac (ags.flatMap Ag.cells)]) rfl rfl hN (tk := t1 + 1) (st := s2) (by omega) hs2 hok (by omega) (Rds.row (e := 24) (c := ac) (fun _ => rfl) (by simp)) ha).mono (fun e w' h => by obtain ⟨t', s', W, A', c', h1, h2, h3, h4, h5, h6⟩ := h; exact ⟨(t', s', W, A', c'), ⟨by (try dsimp only); omega, h2, h3, h4⟩, h5, h6⟩)) ?_
  rintro ⟨t2, s3, W, wA, wc⟩ ⟨ht2, hs3, hW21, hW4⟩
  dsimp only at ht2 hs3 hW21 hW4 ⊢
  refine lst_assign rfl rfl ?_
  refine lst_nil ?_
  refine ex_then ?_
  refine cod_seq ?_
  refine cod_region ?_
  refine lst_move rfl rfl ?_
  refine lst_move rfl rfl ?_
  refine lst_move rfl rfl ?_
  refine lst_fn (X := List Nat × Nat × Option Addr × Nat) (vs := [_, _, _]) (p := fun y => PutS ags m1 (castL W) y.1 y.2.1) (val := fun y => .tuple #[.slice y.2.2.1 y.1.length y.2.2.2, .int .i64 (y.2.1 : Int)]) (rs := fun y => [.row 3 1 y.2.2.1 y.1.length y.2.2.2 (ints y.1)]) rfl rfl F.ent40 (fun a w ha => by
    have h := Put_c aA ac ags hok wA wc m1 (castL W) (by omega) w (row_reads ha (cells := Ag.cells) (size := 5) (e := 24) (c := ac) (n := ags.length) (fun _ => rfl) (InR.mem (A := aA)) rfl) (RdL.cast (row_reads ha (cells := ncell) (size := 1) (e := 3) (c := wc) (n := W.length) (fun _ => rfl) (by rw [← ints_flat]; exact InR.mem (A := wA)) rfl)) (ha.old hE hpos)
    rw [castL_len] at h
    exact h.mono (fun e w' h => by obtain ⟨o, E, A', c', h1, h2, h3⟩ := h; exact ⟨(o, E, A', c'), h1, h2, h3⟩)) ?_
  rintro ⟨outs, E, gO, gc⟩ hput
  dsimp only [List.cons_append, List.nil_append] at hput ⊢
  have hol := hput.len
  refine lst_move rfl rfl ?_
  refine lst_extract rfl rfl rfl ?_
  refine lst_extract rfl rfl rfl ?_
  refine lst_assign rfl rfl ?_
  refine lst_assign rfl rfl ?_
  refine lst_nil ?_
  refine ex_then ?_
  refine cod_seq ?_
  refine cod_region ?_
  refine lst_move rfl rfl ?_
  refine lst_assign rfl rfl ?_
  refine lst_assign rfl rfl ?_
  refine lst_nil ?_
  refine ex_then ?_
  refine cod_seq ?_
  refine cod_seq ?_
  refine cod_region ?_
  refine lst_assign rfl rfl ?_
  refine lst_nil ?_
  refine ex_then ?_
  refine cod_block ?_
  refine cod_loop' (G := Nat × Nat × Nat) (fun g => g.1 ≤ W.length ∧ Wlk ags m1 W g.1 g.2.1 g.2.2) (fun g => W.length - g.1) (fun g => [(4, .slice aA ags.length ac), (5, .int .i64 (m1 : Int)), (6, .slice wA W.length wc), (7, .slice gO outs.length gc), (8, .int .i64 (E : Int)), (9, .int .i64 (g.2.1 : Int)), (10, .int .i64 (g.2.2 : Int)), (11, .int .i64 (g.1 : Int))]) (fun g => .row 3 1 gO outs.length gc (ints outs) :: .row 3 1 wA W.length wc (ints W) :: .row 24 5 aA ags.length ac (ags.flatMap Ag.cells) :: []) (0, m1, 0) ⟨Nat.zero_le _, Wlk.zero (by omega)⟩ (by repeat (first | exact Sub.nil _ | refine Sub.cons rfl ?_)) (by repeat (first | exact Pck.nil _ | exact Pck.refl _ | (apply Pck.cons; focus ((repeat (first | exact Rem.here _ | apply Rem.there)); done)) | refine Pck.skip _ ?_)) ?_
  rintro ⟨i, now, due⟩ ⟨hil, hI⟩
  dsimp only at hil hI ⊢
  refine cod_seq ?_
  refine cod_seq ?_
  refine cod_region ?_
  refine lst_cut1 8 44 (.bool (decide ((i : Int) < (W.length : Int)) && decide ((due : Int) = 0))) ?_ ?_
  · skip
    refine lst_move rfl rfl ?_
    refine lst_move rfl rfl ?_
    refine lst_len rfl rfl Tryd.underlying25 ?_
    refine lst_int rfl rfl rfl bin_lss ?_
    refine lst_move rfl rfl ?_
    refine lst_split (t := 41) rfl (fun hg41 => ?_) (fun hg41 => ?_)
    · skip
      refine lst_on rfl rfl ?_
      refine lst_move rfl rfl ?_
      refine lst_on rfl rfl ?_
      refine lst_int rfl rfl rfl bin_eql ?_
      refine lst_pick_true rfl rfl rfl ?_
      refine lst_nil ?_
      exact ex_cut (.cons (by first | (simp_all [look]; done) | (simp_all [look]; omega)) (by repeat (first | exact Sub.nil _ | refine Sub.cons rfl ?_))) (by repeat (first | exact List.Sublist.refl _ | exact List.nil_sublist _ | refine List.Sublist.cons_cons _ ?_ | refine List.Sublist.cons _ ?_))
    · skip
      refine lst_off rfl rfl rfl ?_
      refine lst_off rfl rfl rfl ?_
      refine lst_pick_false rfl rfl rfl ?_
      refine lst_nil ?_
      exact ex_cut (.cons (by first | (simp_all [look]; done) | (simp_all [look]; omega)) (by repeat (first | exact Sub.nil _ | refine Sub.cons rfl ?_))) (by repeat (first | exact List.Sublist.refl _ | exact List.nil_sublist _ | refine List.Sublist.cons_cons _ ?_ | refine List.Sublist.cons _ ?_))
  refine lst_nil ?_
  refine ex_then ?_
  refine cod_cond_bool rfl (fun hc0 => ?_) (fun hc0 => ?_)
  · skip
    rw [Bool.and_eq_true, decide_eq_true_eq, decide_eq_true_eq] at hc0
    obtain ⟨hi1, hd0⟩ := hc0
    obtain rfl : due = 0 := by omega
    have hi' : i < W.length := by omega
    have hnow := hI.lt
    obtain ⟨x, hx⟩ : ∃ x, W[i]? = some x := ⟨_, List.getElem?_eq_getElem hi'⟩
    refine cod_know (φ := ∃ g, wA = some ⟨g, 0, none⟩) (fun a w ha => row_some (ha.own _ (InR.mem (A := wA))) (by omega)) (fun hgW => ?_)
    obtain ⟨gW, rfl⟩ := hgW
    refine cod_skip ?_
    refine ex_then ?_
    refine cod_seq ?_
    refine cod_block ?_
    refine cod_seq ?_
    refine cod_region ?_
    refine lst_move rfl rfl ?_
    refine lst_move rfl rfl ?_
    refine lst_fn (X := Option Addr × Nat) (vs := [_, _]) (p := fun _ => True) (val := fun x => .tuple #[.slice x.1 (canTo ags (usedAll ags.length) now ags.length).length x.2, .int .i64 0]) (rs := fun x => [.row 3 1 x.1 (canTo ags (usedAll ags.length) now ags.length).length x.2 (ints (canTo ags (usedAll ags.length) now ags.length))]) rfl rfl F.ent41 (fun a w ha => (May_ok aA ac ags hok now hnow w (row_reads ha (cells := Ag.cells) (size := 5) (e := 24) (c := ac) (n := ags.length) (fun _ => rfl) (InR.mem (A := aA)) rfl)).mono (fun e w' h => by obtain ⟨A', c', h1, h2⟩ := h; exact ⟨(A', c'), trivial, h1, h2⟩)) ?_
    rintro ⟨lA, lc⟩ -
    dsimp only [List.cons_append, List.nil_append]
    have hcl := canTo_len ags (usedAll ags.length) now ags.length
    have h4 := hok.1
    refine lst_move rfl rfl ?_
    refine lst_extract rfl rfl rfl ?_
    refine lst_extract rfl rfl rfl ?_
    refine lst_assign rfl rfl ?_
    refine lst_assign rfl rfl ?_
    refine lst_nil ?_
    refine ex_then ?_
    refine cod_seq ?_
    refine cod_seq ?_
    refine cod_region ?_
    refine lst_move rfl rfl ?_
    refine lst_int rfl rfl rfl bin_neq ?_
    refine lst_nil ?_
    refine ex_then ?_
    refine cod_cond_false rfl ?_
    refine cod_skip ?_
    refine ex_then ?_
    refine cod_seq ?_
    refine cod_region ?_
    refine lst_move rfl rfl ?_
    refine lst_move rfl rfl ?_
    refine lst_index (j := i) rfl rfl rfl Tryd.underlying25 F.ti3 rfl hi' ?_
    refine lst_load_at (v := .int .i64 (x : Int)) rfl rfl F.one3 (fun a w ha => row_cell ha (InR.mem (A := (some ⟨gW, 0, none⟩))) rfl (by rw [Nat.zero_add]; exact ints_get hx)) ?_
    refine lst_move rfl rfl ?_
    refine lst_len rfl rfl Tryd.underlying22 ?_
    refine lst_int rfl rfl rfl bin_geq ?_
    refine lst_nil ?_
    refine ex_then ?_
    refine cod_cond_dec rfl (fun hc2 => ?_) (fun hc2 => ?_)
    · skip
      refine cod_region ?_
      refine lst_assign rfl rfl ?_
      refine lst_nil ?_
      refine ex_block_normal ?_
      refine ex_then ?_
      refine cod_region ?_
      refine lst_move rfl rfl ?_
      refine lst_int rfl rfl rfl (fun w => bin_add w (wrap_i64' _ (by omega) (by omega))) ?_
      refine lst_assign rfl rfl ?_
      refine lst_nil ?_
      refine ex_round' (i + 1, now, 3) ⟨by (try dsimp only); omega, hI.miss hx (by omega)⟩ (by (try dsimp only); omega) (by repeat (first | exact Sub.nil _ | refine Sub.cons rfl ?_)) (by repeat (first | exact Pck.nil _ | exact Pck.refl _ | (apply Pck.cons; focus ((repeat (first | exact Rem.here _ | apply Rem.there)); done)) | refine Pck.skip _ ?_))
    · skip
      have hxl : x < ags.length := by omega
      refine cod_seq ?_
      refine cod_region ?_
      refine lst_move rfl rfl ?_
      refine lst_move rfl rfl ?_
      refine lst_move rfl rfl ?_
      refine lst_index (j := i) rfl rfl rfl Tryd.underlying25 F.ti3 rfl hi' ?_
      refine lst_load_at (v := .int .i64 (x : Int)) rfl rfl F.one3 (fun a w ha => row_cell ha (InR.mem (A := (some ⟨gW, 0, none⟩))) rfl (by rw [Nat.zero_add]; exact ints_get hx)) ?_
      refine lst_fn0 (v := .int .i64 (findL ((canTo ags (usedAll ags.length) now ags.length).map fun (n : Nat) => (n : Int)) (x : Int))) (vs := [_, _]) rfl rfl F.ent42 (fun a w ha => by
        have h := Find_c lA lc ((canTo ags (usedAll ags.length) now ags.length).map fun (n : Nat) => (n : Int)) (x : Int) (by rw [List.length_map]; omega) w (RdL.cast (row_reads ha (cells := ncell) (size := 1) (e := 3) (c := lc) (n := (canTo ags (usedAll ags.length) now ags.length).length) (fun _ => rfl) (by rw [← ints_flat]; exact InR.mem (A := lA)) rfl))
        rw [List.length_map] at h
        exact h) ?_
      refine lst_int rfl rfl rfl bin_lss ?_
      refine lst_nil ?_
      refine ex_then ?_
      refine cod_cond_dec rfl (fun hc3 => ?_) (fun hc3 => ?_)
      · skip
        have hmy : mayN (ags.getD x default) now = false := by
          cases e : mayN (ags.getD x default) now with
          | false => rfl
          | true => have := find_cast.2 (can_all.2 ⟨hxl, e⟩); omega
        refine cod_region ?_
        refine lst_assign rfl rfl ?_
        refine lst_nil ?_
        refine ex_block_normal ?_
        refine ex_then ?_
        refine cod_region ?_
        refine lst_move rfl rfl ?_
        refine lst_int rfl rfl rfl (fun w => bin_add w (wrap_i64' _ (by omega) (by omega))) ?_
        refine lst_assign rfl rfl ?_
        refine lst_nil ?_
        refine ex_round' (i + 1, now, 12) ⟨by (try dsimp only); omega, hI.bar hx hxl hmy⟩ (by (try dsimp only); omega) (by repeat (first | exact Sub.nil _ | refine Sub.cons rfl ?_)) (by repeat (first | exact Pck.nil _ | exact Pck.refl _ | (apply Pck.cons; focus ((repeat (first | exact Rem.here _ | apply Rem.there)); done)) | refine Pck.skip _ ?_))
      · skip
        have hmy : mayN (ags.getD x default) now = true := (can_all.1 (find_cast.1 (by omega))).2
        refine cod_know (φ := ∃ g, aA = some ⟨g, 0, none⟩) (fun a w ha => row_some (ha.own _ (InR.mem (A := aA))) (by omega)) (fun hgA => ?_)
        obtain ⟨gA, rfl⟩ := hgA
        have hxo := agd_ok hok hxl
        have hxg : ags[x]? = some (ags.getD x default) := by rw [List.getD_eq_getElem?_getD, List.getElem?_eq_getElem hxl]; rfl
        have hxt := hxo.takes
        have hxv := hxo.leaves
        have hnn : nn now (ags.getD x default).takes < 64 := nn64 hnow
        refine any_begin [] F.follows 20 rfl [false, false, false, false, false, false, false, false, false, false, false, false, false, false, false, false, false, false, false, false] rfl ?_
        refine any_take (listed' := [true, false, false, false, false, false, false, false, false, false, false, false, false, false, false, false, false, false, false, false].toArray) 0 rfl rfl rfl (by kernel_rfl) (by kernel_rfl) (by kernel_rfl) (by repeat (first | exact List.Sublist.refl _ | exact List.nil_sublist _ | refine List.Sublist.cons_cons _ ?_ | refine List.Sublist.cons _ ?_)) (yld_move rfl) rfl ?_
        refine any_take (listed' := [true, true, false, false, false, false, false, false, false, false, false, false, false, false, false, false, false, false, false, false].toArray) 1 rfl rfl rfl (by kernel_rfl) (by kernel_rfl) (by kernel_rfl) (by repeat (first | exact List.Sublist.refl _ | exact List.nil_sublist _ | refine List.Sublist.cons_cons _ ?_ | refine List.Sublist.cons _ ?_)) (yld_move rfl) rfl ?_
        refine any_take (listed' := [true, true, true, false, false, false, false, false, false, false, false, false, false, false, false, false, false, false, false, false].toArray) 2 rfl rfl rfl (by kernel_rfl) (by kernel_rfl) (by kernel_rfl) (by repeat (first | exact List.Sublist.refl _ | exact List.nil_sublist _ | refine List.Sublist.cons_cons _ ?_ | refine List.Sublist.cons _ ?_)) (yld_move rfl) rfl ?_
        refine any_take (listed' := [true, true, true, true, false, false, false, false, false, false, false, false, false, false, false, false, false, false, false, false].toArray) 3 rfl rfl rfl (by kernel_rfl) (by kernel_rfl) (by kernel_rfl) (by repeat (first | exact List.Sublist.refl _ | exact List.nil_sublist _ | refine List.Sublist.cons_cons _ ?_ | refine List.Sublist.cons _ ?_)) (yld_move rfl) rfl ?_
        refine any_take (listed' := [true, true, true, true, true, false, false, false, false, false, false, false, false, false, false, false, false, false, false, false].toArray) 4 rfl rfl rfl (by kernel_rfl) (by kernel_rfl) (by kernel_rfl) (by repeat (first | exact List.Sublist.refl _ | exact List.nil_sublist _ | refine List.Sublist.cons_cons _ ?_ | refine List.Sublist.cons _ ?_)) (yld_index (j := i) rfl rfl Tryd.underlying25 F.ti3 rfl hi') rfl ?_
        refine any_take (listed' := [true, true, true, true, true, true, false, false, false, false, false, false, false, false, false, false, false, false, false, false].toArray) 5 rfl rfl rfl (by kernel_rfl) (by kernel_rfl) (by kernel_rfl) (by repeat (first | exact List.Sublist.refl _ | exact List.nil_sublist _ | refine List.Sublist.cons_cons _ ?_ | refine List.Sublist.cons _ ?_)) (yld_load_at (v := .int .i64 (x : Int)) rfl F.one3 (fun a w ha => row_cell ha (InR.mem (A := (some ⟨gW, 0, none⟩))) rfl (by rw [Nat.zero_add]; exact ints_get hx))) rfl ?_
        refine any_take (listed' := [true, true, true, true, true, true, true, false, false, false, false, false, false, false, false, false, false, false, false, false].toArray) 6 rfl rfl rfl (by kernel_rfl) (by kernel_rfl) (by kernel_rfl) (by repeat (first | exact List.Sublist.refl _ | exact List.nil_sublist _ | refine List.Sublist.cons_cons _ ?_ | refine List.Sublist.cons _ ?_)) (yld_index (j := x) rfl rfl Tryd.underlying22 F.ti24 rfl hxl) rfl ?_
        refine any_take (listed' := [true, true, true, true, true, true, true, true, false, false, false, false, false, false, false, false, false, false, false, false].toArray) 7 rfl rfl rfl (by kernel_rfl) (by kernel_rfl) (by kernel_rfl) (by repeat (first | exact List.Sublist.refl _ | exact List.nil_sublist _ | refine List.Sublist.cons_cons _ ?_ | refine List.Sublist.cons _ ?_)) (yld_field rfl F.fi24_2 F.ti3) rfl ?_
        refine any_take (listed' := [true, true, true, true, true, true, true, true, true, false, false, false, false, false, false, false, false, false, false, false].toArray) 8 rfl rfl rfl (by kernel_rfl) (by kernel_rfl) (by kernel_rfl) (by repeat (first | exact List.Sublist.refl _ | exact List.nil_sublist _ | refine List.Sublist.cons_cons _ ?_ | refine List.Sublist.cons _ ?_)) (yld_load_at (v := .int .i64 ((ags.getD x default).takes : Int)) rfl F.one3 (fun a w ha => row_cell ha (InR.mem (A := (some ⟨gA, 0, none⟩))) rfl (by rw [Nat.zero_add]; exact flatMap_get (cells := Ag.cells) (size := 5) (fun _ => rfl) ags x (ags.getD x default) hxg 2 _ rfl))) rfl ?_
        refine any_take (listed' := [true, true, true, true, true, true, true, true, true, true, false, false, false, false, false, false, false, false, false, false].toArray) 9 rfl rfl rfl (by kernel_rfl) (by kernel_rfl) (by kernel_rfl) (by repeat (first | exact List.Sublist.refl _ | exact List.nil_sublist _ | refine List.Sublist.cons_cons _ ?_ | refine List.Sublist.cons _ ?_)) (yld_int rfl rfl (fun w => bin_andNot w (i64_andNot now (ags.getD x default).takes (by omega) (by omega)))) rfl ?_
        refine any_take (listed' := [true, true, true, true, true, true, true, true, true, true, true, false, false, false, false, false, false, false, false, false].toArray) 10 rfl rfl rfl (by kernel_rfl) (by kernel_rfl) (by kernel_rfl) (by repeat (first | exact List.Sublist.refl _ | exact List.nil_sublist _ | refine List.Sublist.cons_cons _ ?_ | refine List.Sublist.cons _ ?_)) (yld_move rfl) rfl ?_
        refine any_take (listed' := [true, true, true, true, true, true, true, true, true, true, true, true, false, false, false, false, false, false, false, false].toArray) 11 rfl rfl rfl (by kernel_rfl) (by kernel_rfl) (by kernel_rfl) (by repeat (first | exact List.Sublist.refl _ | exact List.nil_sublist _ | refine List.Sublist.cons_cons _ ?_ | refine List.Sublist.cons _ ?_)) (yld_move rfl) rfl ?_
        refine any_take (listed' := [true, true, true, true, true, true, true, true, true, true, true, true, true, false, false, false, false, false, false, false].toArray) 12 rfl rfl rfl (by kernel_rfl) (by kernel_rfl) (by kernel_rfl) (by repeat (first | exact List.Sublist.refl _ | exact List.nil_sublist _ | refine List.Sublist.cons_cons _ ?_ | refine List.Sublist.cons _ ?_)) (yld_move rfl) rfl ?_
        refine any_take (listed' := [true, true, true, true, true, true, true, true, true, true, true, true, true, true, false, false, false, false, false, false].toArray) 13 rfl rfl rfl (by kernel_rfl) (by kernel_rfl) (by kernel_rfl) (by repeat (first | exact List.Sublist.refl _ | exact List.nil_sublist _ | refine List.Sublist.cons_cons _ ?_ | refine List.Sublist.cons _ ?_)) (yld_index (j := i) rfl rfl Tryd.underlying25 F.ti3 rfl hi') rfl ?_
        refine any_take (listed' := [true, true, true, true, true, true, true, true, true, true, true, true, true, true, true, false, false, false, false, false].toArray) 14 rfl rfl rfl (by kernel_rfl) (by kernel_rfl) (by kernel_rfl) (by repeat (first | exact List.Sublist.refl _ | exact List.nil_sublist _ | refine List.Sublist.cons_cons _ ?_ | refine List.Sublist.cons _ ?_)) (yld_load_at (v := .int .i64 (x : Int)) rfl F.one3 (fun a w ha => row_cell ha (InR.mem (A := (some ⟨gW, 0, none⟩))) rfl (by rw [Nat.zero_add]; exact ints_get hx))) rfl ?_
        refine any_take (listed' := [true, true, true, true, true, true, true, true, true, true, true, true, true, true, true, true, false, false, false, false].toArray) 15 rfl rfl rfl (by kernel_rfl) (by kernel_rfl) (by kernel_rfl) (by repeat (first | exact List.Sublist.refl _ | exact List.nil_sublist _ | refine List.Sublist.cons_cons _ ?_ | refine List.Sublist.cons _ ?_)) (yld_index (j := x) rfl rfl Tryd.underlying22 F.ti24 rfl hxl) rfl ?_
        refine any_take (listed' := [true, true, true, true, true, true, true, true, true, true, true, true, true, true, true, true, true, false, false, false].toArray) 16 rfl rfl rfl (by kernel_rfl) (by kernel_rfl) (by kernel_rfl) (by repeat (first | exact List.Sublist.refl _ | exact List.nil_sublist _ | refine List.Sublist.cons_cons _ ?_ | refine List.Sublist.cons _ ?_)) (yld_field rfl F.fi24_3 F.ti3) rfl ?_
        refine any_take (listed' := [true, true, true, true, true, true, true, true, true, true, true, true, true, true, true, true, true, true, false, false].toArray) 17 rfl rfl rfl (by kernel_rfl) (by kernel_rfl) (by kernel_rfl) (by repeat (first | exact List.Sublist.refl _ | exact List.nil_sublist _ | refine List.Sublist.cons_cons _ ?_ | refine List.Sublist.cons _ ?_)) (yld_load_at (v := .int .i64 ((ags.getD x default).leaves : Int)) rfl F.one3 (fun a w ha => row_cell ha (InR.mem (A := (some ⟨gA, 0, none⟩))) rfl (by rw [Nat.zero_add]; exact flatMap_get (cells := Ag.cells) (size := 5) (fun _ => rfl) ags x (ags.getD x default) hxg 3 _ rfl))) rfl ?_
        refine any_take (listed' := [true, true, true, true, true, true, true, true, true, true, true, true, true, true, true, true, true, true, true, false].toArray) 18 rfl rfl rfl (by kernel_rfl) (by kernel_rfl) (by kernel_rfl) (by repeat (first | exact List.Sublist.refl _ | exact List.nil_sublist _ | refine List.Sublist.cons_cons _ ?_ | refine List.Sublist.cons _ ?_)) (yld_int rfl rfl (fun w => bin_or w (i64_or (nn now (ags.getD x default).takes) (ags.getD x default).leaves (by omega) (by omega)))) rfl ?_
        refine any_take (listed' := [true, true, true, true, true, true, true, true, true, true, true, true, true, true, true, true, true, true, true, true].toArray) 19 rfl rfl rfl (by kernel_rfl) (by kernel_rfl) (by kernel_rfl) (by repeat (first | exact List.Sublist.refl _ | exact List.nil_sublist _ | refine List.Sublist.cons_cons _ ?_ | refine List.Sublist.cons _ ?_)) (yld_assign rfl) rfl ?_
        refine any_done rfl (by kernel_rfl) ?_
        refine ex_block_normal ?_
        refine ex_then ?_
        refine cod_region ?_
        refine lst_move rfl rfl ?_
        refine lst_int rfl rfl rfl (fun w => bin_add w (wrap_i64' _ (by omega) (by omega))) ?_
        refine lst_assign rfl rfl ?_
        refine lst_nil ?_
        refine ex_round' (i + 1, putN (ags.getD x default) now, 0) ⟨by (try dsimp only); omega, hI.next hok hx hxl hmy⟩ (by (try dsimp only); omega) (by repeat (first | exact Sub.nil _ | refine Sub.cons rfl ?_)) (by repeat (first | exact Pck.nil _ | exact Pck.refl _ | (apply Pck.cons; focus ((repeat (first | exact Rem.here _ | apply Rem.there)); done)) | refine Pck.skip _ ?_))
  · skip
    refine cod_exit ?_
    refine ex_then_exit ?_
    refine ex_then_exit ?_
    refine ex_block_exit ?_
    refine ex_then ?_
    refine cod_seq ?_
    refine cod_seq ?_
    refine cod_region ?_
    refine lst_move rfl rfl ?_
    refine lst_len rfl rfl Tryd.underlying25 ?_
    refine lst_int rfl rfl rfl bin_gtr ?_
    refine lst_nil ?_
    refine ex_then ?_
    refine cod_cond_dec rfl (fun hc4 => ?_) (fun hc4 => ?_)
    · skip
      obtain ⟨rfl, rfl⟩ := hput.long (by rw [castL_len]; omega)
      refine cod_region ?_
      refine lst_assign rfl rfl ?_
      refine lst_nil ?_
      refine ex_then ?_
      refine cod_seq ?_
      refine cod_seq ?_
      refine cod_region ?_
      refine lst_move rfl rfl ?_
      refine lst_move rfl rfl ?_
      refine lst_int rfl rfl rfl bin_neq ?_
      refine lst_nil ?_
      refine ex_then ?_
      refine cod_cond_false rfl ?_
      refine cod_skip ?_
      refine ex_then ?_
      refine cod_seq ?_
      refine cod_seq ?_
      refine cod_region ?_
      refine lst_move rfl rfl ?_
      refine lst_int rfl rfl rfl bin_neq ?_
      refine lst_nil ?_
      refine ex_then ?_
      refine cod_cond_true rfl ?_
      refine cod_seq ?_
      refine cod_region ?_
      refine lst_move rfl rfl ?_
      refine lst_len rfl rfl Tryd.underlying25 ?_
      refine lst_int rfl rfl rfl bin_eql ?_
      refine lst_move rfl rfl ?_
      refine lst_on rfl rfl ?_
      refine lst_fn0 (vs := []) rfl rfl F.ent21 (fun a w ha => fined_c w) ?_
      refine lst_pick_true rfl rfl rfl ?_
      refine lst_assign rfl rfl ?_
      refine lst_nil ?_
      refine ex_then ?_
      refine cod_ret ?_
      refine ex_then_ret ?_
      exact ex_ret rfl (fun a w ha => res_one rfl rfl ha) (fun a w ha => ⟨rfl, ha.grown (List.nil_sublist _)⟩)
    · skip
      have h20 : W.length ≤ 20 := by omega
      obtain ⟨rfl, hbad, hgood⟩ := hI.ends hput hil hc0 h20
      refine cod_skip ?_
      refine ex_then ?_
      refine cod_seq ?_
      refine cod_seq ?_
      refine cod_region ?_
      refine lst_move rfl rfl ?_
      refine lst_move rfl rfl ?_
      refine lst_int (v := .bool false) rfl rfl rfl (fun w => by rw [bin_neq]; simp) ?_
      refine lst_nil ?_
      refine ex_then ?_
      refine cod_cond_false rfl ?_
      refine cod_skip ?_
      refine ex_then ?_
      refine cod_seq ?_
      refine cod_seq ?_
      refine cod_region ?_
      refine lst_move rfl rfl ?_
      refine lst_int rfl rfl rfl bin_neq ?_
      refine lst_nil ?_
      refine ex_then ?_
      refine cod_cond_dec rfl (fun hc6 => ?_) (fun hc6 => ?_)
      · skip
        obtain rfl := hbad (by omega)
        refine cod_seq ?_
        refine cod_region ?_
        refine lst_move rfl rfl ?_
        refine lst_len rfl rfl Tryd.underlying25 ?_
        refine lst_int rfl rfl rfl bin_eql ?_
        refine lst_move rfl rfl ?_
        refine lst_on rfl rfl ?_
        refine lst_fn0 (vs := []) rfl rfl F.ent21 (fun a w ha => fined_c w) ?_
        refine lst_pick_true rfl rfl rfl ?_
        refine lst_assign rfl rfl ?_
        refine lst_nil ?_
        refine ex_then ?_
        refine cod_ret ?_
        refine ex_then_ret ?_
        exact ex_ret rfl (fun a w ha => res_one rfl rfl ha) (fun a w ha => ⟨rfl, ha.grown (List.nil_sublist _)⟩)
      · skip
        obtain rfl : E = 0 := by omega
        obtain ⟨hlast, hlen, hal⟩ := hgood rfl
        have hlt := alongE_lt hok (show m1 < 64 by omega) hal
        refine cod_skip ?_
        refine ex_then ?_
        refine cod_seq ?_
        refine cod_seq ?_
        refine cod_region ?_
        refine lst_move rfl rfl ?_
        refine lst_len rfl rfl Tryd.underlying25 ?_
        refine lst_move rfl rfl ?_
        refine lst_len rfl rfl Tryd.underlying25 ?_
        refine lst_int (v := .bool false) rfl rfl rfl (fun w => by rw [bin_neq, hlen]; simp) ?_
        refine lst_move rfl rfl ?_
        refine lst_on rfl rfl ?_
        refine lst_move rfl rfl ?_
        refine lst_on rfl rfl ?_
        refine lst_move rfl rfl ?_
        refine lst_on rfl rfl ?_
        refine lst_fn0 (v := .int .i64 ((lastN m1 outs : Nat) : Int)) (vs := [_, _]) rfl rfl F.ent43 (fun a w ha => by
          have h := last_c (m1 : Int) gO gc (castL outs) (by rw [castL_len]; omega) w (RdL.cast (row_reads ha (cells := ncell) (size := 1) (e := 3) (c := gc) (n := outs.length) (fun _ => rfl) (by rw [← ints_flat]; exact InR.mem (A := gO)) rfl))
          rw [castL_len, lastL_cast] at h
          exact h) ?_
        refine lst_on rfl rfl ?_
        refine lst_move rfl rfl ?_
        refine lst_on rfl rfl ?_
        refine lst_int (v := .bool false) rfl rfl rfl (fun w => by rw [bin_neq, hlast]; simp) ?_
        refine lst_pick_false rfl rfl rfl ?_
        refine lst_nil ?_
        refine ex_then ?_
        refine cod_cond_false rfl ?_
        refine cod_skip ?_
        refine ex_then ?_
        refine cod_seq ?_
        refine cod_seq ?_
        refine cod_region ?_
        refine lst_assign rfl rfl ?_
        refine lst_nil ?_
        refine ex_then ?_
        refine cod_block ?_
        refine cod_loop' (G := Nat) (fun g => g ≤ W.length + 1) (fun g => W.length + 1 - g) (fun g => [(4, .slice aA ags.length ac), (5, .int .i64 (m1 : Int)), (6, .slice wA W.length wc), (7, .slice gO outs.length gc), (14, .int .i64 (g : Int))]) (fun g => .row 3 1 gO outs.length gc (ints outs) :: .row 3 1 wA W.length wc (ints W) :: .row 24 5 aA ags.length ac (ags.flatMap Ag.cells) :: []) (0) (Nat.zero_le _) (by repeat (first | exact Sub.nil _ | refine Sub.cons rfl ?_)) (by repeat (first | exact Pck.nil _ | exact Pck.refl _ | (apply Pck.cons; focus ((repeat (first | exact Rem.here _ | apply Rem.there)); done)) | refine Pck.skip _ ?_)) ?_
        rintro i hil1
        try dsimp only at hil1 ⊢
        refine cod_seq ?_
        refine cod_seq ?_
        refine cod_region ?_
        refine lst_move rfl rfl ?_
        refine lst_move rfl rfl ?_
        refine lst_len rfl rfl Tryd.underlying25 ?_
        refine lst_int rfl rfl rfl bin_leq ?_
        refine lst_nil ?_
        refine ex_then ?_
        refine cod_cond_dec rfl (fun hc8 => ?_) (fun hc8 => ?_)
        · skip
          have hi' : i ≤ W.length := by omega
          refine cod_know (φ := W.length ≤ wc) (fun a w ha => ha.cap_le (A := wA) (e := 3) (size := 1) (xs := ints W) InR.mem) (fun hcap => ?_)
          have hto : (outs.take i).length = i := by rw [List.length_take]; omega
          have htl : ((castL W).take i).length = i := by rw [List.length_take, castL_len]; omega
          have hdl : ((castL W).drop i).length = W.length - i := by rw [List.length_drop, castL_len]
          have hlst : (lastN m1 (outs.take i)) < 64 := lastN_lt (by omega) (fun x hx => hlt x (List.mem_of_mem_take hx))
          refine cod_skip ?_
          refine ex_then ?_
          refine cod_seq ?_
          refine cod_block ?_
          refine cod_seq ?_
          refine cod_region ?_
          refine lst_move rfl rfl ?_
          refine lst_move rfl rfl ?_
          refine lst_move rfl rfl ?_
          refine lst_move rfl rfl ?_
          refine lst_slice_h (h := i) rfl rfl rfl Tryd.underlying25 F.ti3 rfl (by omega) ?_
          refine lst_fn (X := List Nat × Nat × Option Addr × Nat) (vs := [_, _, _]) (p := fun y => PutS ags m1 ((castL W).take i) y.1 y.2.1) (val := fun y => .tuple #[.slice y.2.2.1 y.1.length y.2.2.2, .int .i64 (y.2.1 : Int)]) (rs := fun y => [.row 3 1 y.2.2.1 y.1.length y.2.2.2 (ints y.1)]) rfl rfl F.ent40 (fun a w ha => by
            have h := Put_c aA ac ags hok wA wc m1 ((castL W).take i) (by omega) w (row_reads ha (cells := Ag.cells) (size := 5) (e := 24) (c := ac) (n := ags.length) (fun _ => rfl) (InR.mem (A := aA)) rfl) (RdL.take (RdL.cast (row_reads ha (cells := ncell) (size := 1) (e := 3) (c := wc) (n := W.length) (fun _ => rfl) (by rw [← ints_flat]; exact InR.mem (A := wA)) rfl)) i) (ha.old hE hpos)
            rw [htl] at h
            exact h.mono (fun e w' h => by obtain ⟨o, E, A', c', h1, h2, h3⟩ := h; exact ⟨(o, E, A', c'), h1, h2, h3⟩)) ?_
          rintro ⟨o1, E1, oA, oc⟩ hp1
          dsimp only [List.cons_append, List.nil_append] at hp1 ⊢
          obtain ⟨rfl, rfl⟩ := hp1.ok (by omega) (alongE_take i hal)
          refine lst_move rfl rfl ?_
          refine lst_extract rfl rfl rfl ?_
          refine lst_extract rfl rfl rfl ?_
          refine lst_assign rfl rfl ?_
          refine lst_assign rfl rfl ?_
          refine lst_nil ?_
          refine ex_then ?_
          refine cod_seq ?_
          refine cod_seq ?_
          refine cod_region ?_
          refine lst_move rfl rfl ?_
          refine lst_int rfl rfl rfl bin_neq ?_
          refine lst_move rfl rfl ?_
          refine lst_on rfl rfl ?_
          refine lst_move rfl rfl ?_
          refine lst_on rfl rfl ?_
          refine lst_len rfl rfl Tryd.underlying25 ?_
          refine lst_on rfl rfl ?_
          refine lst_move rfl rfl ?_
          refine lst_on rfl rfl ?_
          refine lst_int (v := .bool false) rfl rfl rfl (fun w => by rw [bin_neq, hto]; simp) ?_
          refine lst_pick_false rfl rfl rfl ?_
          refine lst_nil ?_
          refine ex_then ?_
          refine cod_cond_false rfl ?_
          refine cod_skip ?_
          refine ex_then ?_
          refine cod_seq ?_
          refine any_begin [] F.follows 13 rfl [false, false, false, false, false, false, false, false, false, false, false, false, false] rfl ?_
          refine any_take (listed' := [true, false, false, false, false, false, false, false, false, false, false, false, false].toArray) 0 rfl rfl rfl (by kernel_rfl) (by kernel_rfl) (by kernel_rfl) (by repeat (first | exact List.Sublist.refl _ | exact List.nil_sublist _ | refine List.Sublist.cons_cons _ ?_ | refine List.Sublist.cons _ ?_)) (yld_move rfl) rfl ?_
          refine any_take (listed' := [true, true, false, false, false, false, false, false, false, false, false, false, false].toArray) 1 rfl rfl rfl (by kernel_rfl) (by kernel_rfl) (by kernel_rfl) (by repeat (first | exact List.Sublist.refl _ | exact List.nil_sublist _ | refine List.Sublist.cons_cons _ ?_ | refine List.Sublist.cons _ ?_)) (yld_move rfl) rfl ?_
          refine any_take (listed' := [true, true, true, false, false, false, false, false, false, false, false, false, false].toArray) 2 rfl rfl rfl (by kernel_rfl) (by kernel_rfl) (by kernel_rfl) (by repeat (first | exact List.Sublist.refl _ | exact List.nil_sublist _ | refine List.Sublist.cons_cons _ ?_ | refine List.Sublist.cons _ ?_)) (yld_move rfl) rfl ?_
          refine any_take (listed' := [true, true, true, false, true, false, false, false, false, false, false, false, false].toArray) 4 rfl rfl rfl (by kernel_rfl) (by kernel_rfl) (by kernel_rfl) (by repeat (first | exact List.Sublist.refl _ | exact List.nil_sublist _ | refine List.Sublist.cons_cons _ ?_ | refine List.Sublist.cons _ ?_)) (yld_move rfl) rfl ?_
          refine any_take (listed' := [true, true, true, false, true, true, false, false, false, false, false, false, false].toArray) 5 rfl rfl rfl (by kernel_rfl) (by kernel_rfl) (by kernel_rfl) (by repeat (first | exact List.Sublist.refl _ | exact List.nil_sublist _ | refine List.Sublist.cons_cons _ ?_ | refine List.Sublist.cons _ ?_)) (yld_move rfl) rfl ?_
          refine any_two (l1 := [true, true, true, true, true, true, false, false, false, false, false, false, false].toArray) (l2 := [true, true, true, false, true, true, true, false, false, false, false, false, false].toArray) 3 6 (by kernel_rfl) rfl rfl rfl rfl ?_ ?_
          · skip
            refine lst_fn0 (v := .int .i64 (((lastN m1 (outs.take i)) : Nat) : Int)) (vs := [_, _]) rfl rfl F.ent43 (fun a w ha => by
              have h := last_c (m1 : Int) oA oc (castL (outs.take i)) (by rw [castL_len]; omega) w (RdL.cast (row_reads ha (cells := ncell) (size := 1) (e := 3) (c := oc) (n := (outs.take i).length) (fun _ => rfl) (by rw [← ints_flat]; exact InR.mem (A := oA)) rfl))
              rw [castL_len, lastL_cast] at h
              exact h) ?_
            refine lst_nil ?_
            refine any_next (by repeat (first | exact List.Sublist.refl _ | exact List.nil_sublist _ | refine List.Sublist.cons_cons _ ?_ | refine List.Sublist.cons _ ?_)) ?_
            refine any_one (listed' := [true, true, true, true, true, true, true, false, false, false, false, false, false].toArray) 6 (by kernel_rfl) rfl rfl ?_
            refine lst_slice_l (l := i) rfl rfl rfl Tryd.underlying25 F.ti3 rfl hi' ?_
            refine lst_nil ?_
            refine any_next (by repeat (first | exact List.Sublist.refl _ | exact List.nil_sublist _ | refine List.Sublist.cons_cons _ ?_ | refine List.Sublist.cons _ ?_)) ?_
            refine any_one (listed' := [true, true, true, true, true, true, true, true, false, false, false, false, false].toArray) 7 (by kernel_rfl) rfl rfl ?_
            refine lst_fn (X := List Nat × Nat × Option Addr × Nat) (vs := [_, _, _]) (p := fun y => PutS ags (lastN m1 (outs.take i)) ((castL W).drop i) y.1 y.2.1) (val := fun y => .tuple #[.slice y.2.2.1 y.1.length y.2.2.2, .int .i64 (y.2.1 : Int)]) (rs := fun y => [.row 3 1 y.2.2.1 y.1.length y.2.2.2 (ints y.1)]) rfl rfl F.ent40 (fun a w ha => by
              have h := Put_c aA ac ags hok (if wc = i then wA else wA.map (·.add (i * 1))) (wc - i) (lastN m1 (outs.take i)) ((castL W).drop i) hlst w (row_reads ha (cells := Ag.cells) (size := 5) (e := 24) (c := ac) (n := ags.length) (fun _ => rfl) (InR.mem (A := aA)) rfl) (RdL.drop (RdL.cast (row_reads ha (cells := ncell) (size := 1) (e := 3) (c := wc) (n := W.length) (fun _ => rfl) (by rw [← ints_flat]; exact InR.mem (A := wA)) rfl)) (by rw [List.length_map]; exact hcap)) (ha.old hE hpos)
              rw [hdl] at h
              exact h.mono (fun e w' h => by obtain ⟨o, E, A', c', h1, h2, h3⟩ := h; exact ⟨(o, E, A', c'), h1, h2, h3⟩)) ?_
            rintro ⟨o2, E2, bA, bc⟩ hp2
            dsimp only [List.cons_append, List.nil_append] at hp2 ⊢
            obtain ⟨rfl, rfl⟩ := hp2.ok (by omega) (alongE_drop i (by rw [castL_len]; omega) hal)
            refine lst_nil ?_
            refine any_next (by repeat (first | exact List.Sublist.refl _ | exact List.nil_sublist _ | refine List.Sublist.cons_cons _ ?_ | refine List.Sublist.cons _ ?_)) ?_
            refine any_take (listed' := [true, true, true, true, true, true, true, true, true, false, false, false, false].toArray) 8 rfl rfl rfl (by kernel_rfl) (by kernel_rfl) (by kernel_rfl) (by repeat (first | exact List.Sublist.refl _ | exact List.nil_sublist _ | refine List.Sublist.cons_cons _ ?_ | refine List.Sublist.cons _ ?_)) (yld_move rfl) rfl ?_
            refine any_take (listed' := [true, true, true, true, true, true, true, true, true, true, false, false, false].toArray) 9 rfl rfl rfl (by kernel_rfl) (by kernel_rfl) (by kernel_rfl) (by repeat (first | exact List.Sublist.refl _ | exact List.nil_sublist _ | refine List.Sublist.cons_cons _ ?_ | refine List.Sublist.cons _ ?_)) (yld_extract rfl rfl) rfl ?_
            refine any_take (listed' := [true, true, true, true, true, true, true, true, true, true, true, false, false].toArray) 10 rfl rfl rfl (by kernel_rfl) (by kernel_rfl) (by kernel_rfl) (by repeat (first | exact List.Sublist.refl _ | exact List.nil_sublist _ | refine List.Sublist.cons_cons _ ?_ | refine List.Sublist.cons _ ?_)) (yld_extract rfl rfl) rfl ?_
            refine any_take (listed' := [true, true, true, true, true, true, true, true, true, true, true, true, false].toArray) 11 rfl rfl rfl (by kernel_rfl) (by kernel_rfl) (by kernel_rfl) (by repeat (first | exact List.Sublist.refl _ | exact List.nil_sublist _ | refine List.Sublist.cons_cons _ ?_ | refine List.Sublist.cons _ ?_)) (yld_assign rfl) rfl ?_
            refine any_take (listed' := [true, true, true, true, true, true, true, true, true, true, true, true, true].toArray) 12 rfl rfl rfl (by kernel_rfl) (by kernel_rfl) (by kernel_rfl) (by repeat (first | exact List.Sublist.refl _ | exact List.nil_sublist _ | refine List.Sublist.cons_cons _ ?_ | refine List.Sublist.cons _ ?_)) (yld_assign rfl) rfl ?_
            refine any_done rfl (by kernel_rfl) ?_
            refine ex_then ?_
            refine cod_seq ?_
            refine cod_know (φ := bA = none → (outs.drop i).length = 0 ∧ bc = 0) (fun a w ha h => row_none ha (InR.mem (A := bA)) h) (fun hbn => ?_)
            rcases bA with _ | bp
            · skip
              refine cod_region ?_
              refine lst_move rfl rfl ?_
              refine lst_int rfl rfl rfl bin_neq ?_
              refine lst_move rfl rfl ?_
              refine lst_on rfl rfl ?_
              refine lst_move rfl rfl ?_
              refine lst_on rfl rfl ?_
              refine lst_fn (X := Option Addr × Nat) (vs := [_]) (p := fun _ => True) (val := fun y => .slice y.1 (outs.take i).length y.2) (rs := fun y => [.row 3 1 y.1 (outs.take i).length y.2 (ints (outs.take i))]) rfl rfl F.ent27 (fun a w ha => by
                exact (dup_c oA oc (outs.take i) (by omega) w (fun h => by obtain ⟨h1, h2⟩ := row_none ha (e := 3) (size := 1) (n := (outs.take i).length) (c := oc) (xs := ints (outs.take i)) (InR.mem (A := oA)) h; exact ⟨List.eq_nil_of_length_eq_zero h1, h2⟩) (row_reads ha (cells := ncell) (size := 1) (e := 3) (c := oc) (n := (outs.take i).length) (fun _ => rfl) (by rw [← ints_flat]; exact InR.mem (A := oA)) rfl)).mono (fun e w' h => by obtain ⟨A', c', h1, h2⟩ := h; exact ⟨(A', c'), trivial, h1, h2⟩)) ?_
              rintro ⟨dA, dc⟩ -
              dsimp only [List.cons_append, List.nil_append]
              refine lst_on rfl rfl ?_
              refine lst_move rfl rfl ?_
              refine lst_on rfl rfl ?_
              obtain ⟨hb0, rfl⟩ := hbn rfl
              rw [hb0]
              refine lst_append_row_nil rfl rfl rfl Tryd.underlying25 F.ti3 rfl rfl ?_
              refine lst_on rfl rfl ?_
              refine lst_move rfl rfl ?_
              refine lst_on rfl rfl ?_
              refine lst_fn0 (v := .bool true) (vs := [_, _]) rfl rfl F.ent32 (fun a w ha => by
                have h := eqInts_c dA gO dc gc (castL (outs.take i)) (castL outs) (by rw [castL_len]; omega) w (RdL.cast (row_reads ha (cells := ncell) (size := 1) (e := 3) (c := dc) (n := (outs.take i).length) (fun _ => rfl) (by rw [← ints_flat]; exact InR.mem (A := dA)) rfl)) (RdL.cast (row_reads ha (cells := ncell) (size := 1) (e := 3) (c := gc) (n := outs.length) (fun _ => rfl) (by rw [← ints_flat]; exact InR.mem (A := gO)) rfl))
                rw [castL_len, castL_len] at h
                exact h.mono (fun e w' h => ⟨h.1.trans (by rw [take_all hb0]; simp), h.2⟩)) ?_
              refine lst_on rfl rfl ?_
              refine lst_not rfl rfl ?_
              refine lst_pick_false rfl rfl rfl ?_
              refine lst_nil ?_
              refine ex_then ?_
              refine cod_cond_false rfl ?_
              refine cod_skip ?_
              refine ex_block_normal ?_
              refine ex_then ?_
              refine cod_region ?_
              refine lst_move rfl rfl ?_
              refine lst_int rfl rfl rfl (fun w => bin_add w (wrap_i64' _ (by omega) (by omega))) ?_
              refine lst_assign rfl rfl ?_
              refine lst_nil ?_
              refine ex_round' (i + 1) (by (try dsimp only); omega) (by (try dsimp only); omega) (by repeat (first | exact Sub.nil _ | refine Sub.cons rfl ?_)) (by repeat (first | exact Pck.nil _ | exact Pck.refl _ | (apply Pck.cons; focus ((repeat (first | exact Rem.here _ | apply Rem.there)); done)) | refine Pck.skip _ ?_))
            · skip
              refine cod_region ?_
              refine lst_move rfl rfl ?_
              refine lst_int rfl rfl rfl bin_neq ?_
              refine lst_move rfl rfl ?_
              refine lst_on rfl rfl ?_
              refine lst_move rfl rfl ?_
              refine lst_on rfl rfl ?_
              refine lst_fn (X := Option Addr × Nat) (vs := [_]) (p := fun _ => True) (val := fun y => .slice y.1 (outs.take i).length y.2) (rs := fun y => [.row 3 1 y.1 (outs.take i).length y.2 (ints (outs.take i))]) rfl rfl F.ent27 (fun a w ha => by
                exact (dup_c oA oc (outs.take i) (by omega) w (fun h => by obtain ⟨h1, h2⟩ := row_none ha (e := 3) (size := 1) (n := (outs.take i).length) (c := oc) (xs := ints (outs.take i)) (InR.mem (A := oA)) h; exact ⟨List.eq_nil_of_length_eq_zero h1, h2⟩) (row_reads ha (cells := ncell) (size := 1) (e := 3) (c := oc) (n := (outs.take i).length) (fun _ => rfl) (by rw [← ints_flat]; exact InR.mem (A := oA)) rfl)).mono (fun e w' h => by obtain ⟨A', c', h1, h2⟩ := h; exact ⟨(A', c'), trivial, h1, h2⟩)) ?_
              rintro ⟨dA, dc⟩ -
              dsimp only [List.cons_append, List.nil_append]
              refine lst_on rfl rfl ?_
              refine lst_move rfl rfl ?_
              refine lst_on rfl rfl ?_
              refine lst_append_ints (l := outs.drop i) rfl rfl rfl Tryd.underlying25 F.ti3 rfl (fun a w ha j u hu => RdL.ints_at (row_reads ha (cells := ncell) (size := 1) (e := 3) (c := bc) (n := (outs.drop i).length) (fun _ => rfl) (by rw [← ints_flat]; exact InR.mem (A := (some bp))) rfl) hu) rfl (by rw [List.length_drop]; unfold maxLen; omega) (by rw [List.length_drop]; omega) ?_
              intro eA ec
              refine lst_on rfl rfl ?_
              refine lst_move rfl rfl ?_
              refine lst_on rfl rfl ?_
              refine lst_fn0 (v := .bool true) (vs := [_, _]) rfl rfl F.ent32 (fun a w ha => by
                have hr1 : RdL ncell 1 w eA (outs.take i ++ outs.drop i) := row_reads ha (cells := ncell) (size := 1) (e := 3) (c := ec) (n := (outs.take i).length + (outs.drop i).length) (fun _ => rfl) (by rw [← ints_flat, ints_app]; exact InR.mem (A := eA)) (by rw [List.length_append])
                have h := eqInts_c eA gO ec gc (castL (outs.take i ++ outs.drop i)) (castL outs) (by rw [castL_len, List.length_append, List.length_drop]; omega) w hr1.cast (RdL.cast (row_reads ha (cells := ncell) (size := 1) (e := 3) (c := gc) (n := outs.length) (fun _ => rfl) (by rw [← ints_flat]; exact InR.mem (A := gO)) rfl))
                rw [castL_len, castL_len, List.length_append] at h
                exact h.mono (fun e w' h => ⟨h.1.trans (by rw [List.take_append_drop]; simp), h.2⟩)) ?_
              refine lst_on rfl rfl ?_
              refine lst_not rfl rfl ?_
              refine lst_pick_false rfl rfl rfl ?_
              refine lst_nil ?_
              refine ex_then ?_
              refine cod_cond_false rfl ?_
              refine cod_skip ?_
              refine ex_block_normal ?_
              refine ex_then ?_
              refine cod_region ?_
              refine lst_move rfl rfl ?_
              refine lst_int rfl rfl rfl (fun w => bin_add w (wrap_i64' _ (by omega) (by omega))) ?_
              refine lst_assign rfl rfl ?_
              refine lst_nil ?_
              refine ex_round' (i + 1) (by (try dsimp only); omega) (by (try dsimp only); omega) (by repeat (first | exact Sub.nil _ | refine Sub.cons rfl ?_)) (by repeat (first | exact Pck.nil _ | exact Pck.refl _ | (apply Pck.cons; focus ((repeat (first | exact Rem.here _ | apply Rem.there)); done)) | refine Pck.skip _ ?_))
          · skip
            refine lst_slice_l (l := i) rfl rfl rfl Tryd.underlying25 F.ti3 rfl hi' ?_
            refine lst_nil ?_
            refine any_next (by repeat (first | exact List.Sublist.refl _ | exact List.nil_sublist _ | refine List.Sublist.cons_cons _ ?_ | refine List.Sublist.cons _ ?_)) ?_
            refine any_one (listed' := [true, true, true, true, true, true, true, false, false, false, false, false, false].toArray) 3 (by kernel_rfl) rfl rfl ?_
            refine lst_fn0 (v := .int .i64 (((lastN m1 (outs.take i)) : Nat) : Int)) (vs := [_, _]) rfl rfl F.ent43 (fun a w ha => by
              have h := last_c (m1 : Int) oA oc (castL (outs.take i)) (by rw [castL_len]; omega) w (RdL.cast (row_reads ha (cells := ncell) (size := 1) (e := 3) (c := oc) (n := (outs.take i).length) (fun _ => rfl) (by rw [← ints_flat]; exact InR.mem (A := oA)) rfl))
              rw [castL_len, lastL_cast] at h
              exact h) ?_
            refine lst_nil ?_
            refine any_next (by repeat (first | exact List.Sublist.refl _ | exact List.nil_sublist _ | refine List.Sublist.cons_cons _ ?_ | refine List.Sublist.cons _ ?_)) ?_
            refine any_one (listed' := [true, true, true, true, true, true, true, true, false, false, false, false, false].toArray) 7 (by kernel_rfl) rfl rfl ?_
            refine lst_fn (X := List Nat × Nat × Option Addr × Nat) (vs := [_, _, _]) (p := fun y => PutS ags (lastN m1 (outs.take i)) ((castL W).drop i) y.1 y.2.1) (val := fun y => .tuple #[.slice y.2.2.1 y.1.length y.2.2.2, .int .i64 (y.2.1 : Int)]) (rs := fun y => [.row 3 1 y.2.2.1 y.1.length y.2.2.2 (ints y.1)]) rfl rfl F.ent40 (fun a w ha => by
              have h := Put_c aA ac ags hok (if wc = i then wA else wA.map (·.add (i * 1))) (wc - i) (lastN m1 (outs.take i)) ((castL W).drop i) hlst w (row_reads ha (cells := Ag.cells) (size := 5) (e := 24) (c := ac) (n := ags.length) (fun _ => rfl) (InR.mem (A := aA)) rfl) (RdL.drop (RdL.cast (row_reads ha (cells := ncell) (size := 1) (e := 3) (c := wc) (n := W.length) (fun _ => rfl) (by rw [← ints_flat]; exact InR.mem (A := wA)) rfl)) (by rw [List.length_map]; exact hcap)) (ha.old hE hpos)
              rw [hdl] at h
              exact h.mono (fun e w' h => by obtain ⟨o, E, A', c', h1, h2, h3⟩ := h; exact ⟨(o, E, A', c'), h1, h2, h3⟩)) ?_
            rintro ⟨o2, E2, bA, bc⟩ hp2
            dsimp only [List.cons_append, List.nil_append] at hp2 ⊢
            obtain ⟨rfl, rfl⟩ := hp2.ok (by omega) (alongE_drop i (by rw [castL_len]; omega) hal)
            refine lst_nil ?_
            refine any_next (by repeat (first | exact List.Sublist.refl _ | exact List.nil_sublist _ | refine List.Sublist.cons_cons _ ?_ | refine List.Sublist.cons _ ?_)) ?_
            refine any_take (listed' := [true, true, true, true, true, true, true, true, true, false, false, false, false].toArray) 8 rfl rfl rfl (by kernel_rfl) (by kernel_rfl) (by kernel_rfl) (by repeat (first | exact List.Sublist.refl _ | exact List.nil_sublist _ | refine List.Sublist.cons_cons _ ?_ | refine List.Sublist.cons _ ?_)) (yld_move rfl) rfl ?_
            refine any_take (listed' := [true, true, true, true, true, true, true, true, true, true, false, false, false].toArray) 9 rfl rfl rfl (by kernel_rfl) (by kernel_rfl) (by kernel_rfl) (by repeat (first | exact List.Sublist.refl _ | exact List.nil_sublist _ | refine List.Sublist.cons_cons _ ?_ | refine List.Sublist.cons _ ?_)) (yld_extract rfl rfl) rfl ?_
            refine any_take (listed' := [true, true, true, true, true, true, true, true, true, true, true, false, false].toArray) 10 rfl rfl rfl (by kernel_rfl) (by kernel_rfl) (by kernel_rfl) (by repeat (first | exact List.Sublist.refl _ | exact List.nil_sublist _ | refine List.Sublist.cons_cons _ ?_ | refine List.Sublist.cons _ ?_)) (yld_extract rfl rfl) rfl ?_
            refine any_take (listed' := [true, true, true, true, true, true, true, true, true, true, true, true, false].toArray) 11 rfl rfl rfl (by kernel_rfl) (by kernel_rfl) (by kernel_rfl) (by repeat (first | exact List.Sublist.refl _ | exact List.nil_sublist _ | refine List.Sublist.cons_cons _ ?_ | refine List.Sublist.cons _ ?_)) (yld_assign rfl) rfl ?_
            refine any_take (listed' := [true, true, true, true, true, true, true, true, true, true, true, true, true].toArray) 12 rfl rfl rfl (by kernel_rfl) (by kernel_rfl) (by kernel_rfl) (by repeat (first | exact List.Sublist.refl _ | exact List.nil_sublist _ | refine List.Sublist.cons_cons _ ?_ | refine List.Sublist.cons _ ?_)) (yld_assign rfl) rfl ?_
            refine any_done rfl (by kernel_rfl) ?_
            refine ex_then ?_
            refine cod_seq ?_
            refine cod_know (φ := bA = none → (outs.drop i).length = 0 ∧ bc = 0) (fun a w ha h => row_none ha (InR.mem (A := bA)) h) (fun hbn => ?_)
            rcases bA with _ | bp
            · skip
              refine cod_region ?_
              refine lst_move rfl rfl ?_
              refine lst_int rfl rfl rfl bin_neq ?_
              refine lst_move rfl rfl ?_
              refine lst_on rfl rfl ?_
              refine lst_move rfl rfl ?_
              refine lst_on rfl rfl ?_
              refine lst_fn (X := Option Addr × Nat) (vs := [_]) (p := fun _ => True) (val := fun y => .slice y.1 (outs.take i).length y.2) (rs := fun y => [.row 3 1 y.1 (outs.take i).length y.2 (ints (outs.take i))]) rfl rfl F.ent27 (fun a w ha => by
                exact (dup_c oA oc (outs.take i) (by omega) w (fun h => by obtain ⟨h1, h2⟩ := row_none ha (e := 3) (size := 1) (n := (outs.take i).length) (c := oc) (xs := ints (outs.take i)) (InR.mem (A := oA)) h; exact ⟨List.eq_nil_of_length_eq_zero h1, h2⟩) (row_reads ha (cells := ncell) (size := 1) (e := 3) (c := oc) (n := (outs.take i).length) (fun _ => rfl) (by rw [← ints_flat]; exact InR.mem (A := oA)) rfl)).mono (fun e w' h => by obtain ⟨A', c', h1, h2⟩ := h; exact ⟨(A', c'), trivial, h1, h2⟩)) ?_
              rintro ⟨dA, dc⟩ -
              dsimp only [List.cons_append, List.nil_append]
              refine lst_on rfl rfl ?_
              refine lst_move rfl rfl ?_
              refine lst_on rfl rfl ?_
              obtain ⟨hb0, rfl⟩ := hbn rfl
              rw [hb0]
              refine lst_append_row_nil rfl rfl rfl Tryd.underlying25 F.ti3 rfl rfl ?_
              refine lst_on rfl rfl ?_
              refine lst_move rfl rfl ?_
              refine lst_on rfl rfl ?_
              refine lst_fn0 (v := .bool true) (vs := [_, _]) rfl rfl F.ent32 (fun a w ha => by
                have h := eqInts_c dA gO dc gc (castL (outs.take i)) (castL outs) (by rw [castL_len]; omega) w (RdL.cast (row_reads ha (cells := ncell) (size := 1) (e := 3) (c := dc) (n := (outs.take i).length) (fun _ => rfl) (by rw [← ints_flat]; exact InR.mem (A := dA)) rfl)) (RdL.cast (row_reads ha (cells := ncell) (size := 1) (e := 3) (c := gc) (n := outs.length) (fun _ => rfl) (by rw [← ints_flat]; exact InR.mem (A := gO)) rfl))
                rw [castL_len, castL_len] at h
                exact h.mono (fun e w' h => ⟨h.1.trans (by rw [take_all hb0]; simp), h.2⟩)) ?_
              refine lst_on rfl rfl ?_
              refine lst_not rfl rfl ?_
              refine lst_pick_false rfl rfl rfl ?_
              refine lst_nil ?_
              refine ex_then ?_
              refine cod_cond_false rfl ?_
              refine cod_skip ?_
              refine ex_block_normal ?_
              refine ex_then ?_
              refine cod_region ?_
              refine lst_move rfl rfl ?_
              refine lst_int rfl rfl rfl (fun w => bin_add w (wrap_i64' _ (by omega) (by omega))) ?_
              refine lst_assign rfl rfl ?_
              refine lst_nil ?_
              refine ex_round' (i + 1) (by (try dsimp only); omega) (by (try dsimp only); omega) (by repeat (first | exact Sub.nil _ | refine Sub.cons rfl ?_)) (by repeat (first | exact Pck.nil _ | exact Pck.refl _ | (apply Pck.cons; focus ((repeat (first | exact Rem.here _ | apply Rem.there)); done)) | refine Pck.skip _ ?_))
            · skip
              refine cod_region ?_
              refine lst_move rfl rfl ?_
              refine lst_int rfl rfl rfl bin_neq ?_
              refine lst_move rfl rfl ?_
              refine lst_on rfl rfl ?_
              refine lst_move rfl rfl ?_
              refine lst_on rfl rfl ?_
              refine lst_fn (X := Option Addr × Nat) (vs := [_]) (p := fun _ => True) (val := fun y => .slice y.1 (outs.take i).length y.2) (rs := fun y => [.row 3 1 y.1 (outs.take i).length y.2 (ints (outs.take i))]) rfl rfl F.ent27 (fun a w ha => by
                exact (dup_c oA oc (outs.take i) (by omega) w (fun h => by obtain ⟨h1, h2⟩ := row_none ha (e := 3) (size := 1) (n := (outs.take i).length) (c := oc) (xs := ints (outs.take i)) (InR.mem (A := oA)) h; exact ⟨List.eq_nil_of_length_eq_zero h1, h2⟩) (row_reads ha (cells := ncell) (size := 1) (e := 3) (c := oc) (n := (outs.take i).length) (fun _ => rfl) (by rw [← ints_flat]; exact InR.mem (A := oA)) rfl)).mono (fun e w' h => by obtain ⟨A', c', h1, h2⟩ := h; exact ⟨(A', c'), trivial, h1, h2⟩)) ?_
              rintro ⟨dA, dc⟩ -
              dsimp only [List.cons_append, List.nil_append]
              refine lst_on rfl rfl ?_
              refine lst_move rfl rfl ?_
              refine lst_on rfl rfl ?_
              refine lst_append_ints (l := outs.drop i) rfl rfl rfl Tryd.underlying25 F.ti3 rfl (fun a w ha j u hu => RdL.ints_at (row_reads ha (cells := ncell) (size := 1) (e := 3) (c := bc) (n := (outs.drop i).length) (fun _ => rfl) (by rw [← ints_flat]; exact InR.mem (A := (some bp))) rfl) hu) rfl (by rw [List.length_drop]; unfold maxLen; omega) (by rw [List.length_drop]; omega) ?_
              intro eA ec
              refine lst_on rfl rfl ?_
              refine lst_move rfl rfl ?_
              refine lst_on rfl rfl ?_
              refine lst_fn0 (v := .bool true) (vs := [_, _]) rfl rfl F.ent32 (fun a w ha => by
                have hr1 : RdL ncell 1 w eA (outs.take i ++ outs.drop i) := row_reads ha (cells := ncell) (size := 1) (e := 3) (c := ec) (n := (outs.take i).length + (outs.drop i).length) (fun _ => rfl) (by rw [← ints_flat, ints_app]; exact InR.mem (A := eA)) (by rw [List.length_append])
                have h := eqInts_c eA gO ec gc (castL (outs.take i ++ outs.drop i)) (castL outs) (by rw [castL_len, List.length_append, List.length_drop]; omega) w hr1.cast (RdL.cast (row_reads ha (cells := ncell) (size := 1) (e := 3) (c := gc) (n := outs.length) (fun _ => rfl) (by rw [← ints_flat]; exact InR.mem (A := gO)) rfl))
                rw [castL_len, castL_len, List.length_append] at h
                exact h.mono (fun e w' h => ⟨h.1.trans (by rw [List.take_append_drop]; simp), h.2⟩)) ?_
              refine lst_on rfl rfl ?_
              refine lst_not rfl rfl ?_
              refine lst_pick_false rfl rfl rfl ?_
              refine lst_nil ?_
              refine ex_then ?_
              refine cod_cond_false rfl ?_
              refine cod_skip ?_
              refine ex_block_normal ?_
              refine ex_then ?_
              refine cod_region ?_
              refine lst_move rfl rfl ?_
              refine lst_int rfl rfl rfl (fun w => bin_add w (wrap_i64' _ (by omega) (by omega))) ?_
              refine lst_assign rfl rfl ?_
              refine lst_nil ?_
              refine ex_round' (i + 1) (by (try dsimp only); omega) (by (try dsimp only); omega) (by repeat (first | exact Sub.nil _ | refine Sub.cons rfl ?_)) (by repeat (first | exact Pck.nil _ | exact Pck.refl _ | (apply Pck.cons; focus ((repeat (first | exact Rem.here _ | apply Rem.there)); done)) | refine Pck.skip _ ?_))
        · skip
          refine cod_exit ?_
          refine ex_then_exit ?_
          refine ex_then_exit ?_
          refine ex_block_exit ?_
          refine ex_then ?_
          refine cod_seq ?_
          refine cod_region ?_
          refine lst_fn0 (vs := []) rfl rfl F.ent21 (fun a w ha => fined_c w) ?_
          refine lst_assign rfl rfl ?_
          refine lst_nil ?_
          refine ex_then ?_
          refine cod_ret ?_
          exact ex_ret rfl (fun a w ha => res_one rfl rfl ha) (fun a w ha => ⟨rfl, ha.grown (List.nil_sublist _)⟩)

end Go.Proofs.YtofkhehcnfiopaaDoor.N
