/- Parts of the walks of the laws on fining, those that FiningKnown needs: Caught, F6, F7, F8, F9, F10, Eq, F11, First. -/
import Derived.Test.YtofkhehcnfiopaaDoorSFiningKnown03
import Derived.Test.YtofkhehcnfiopaaDoorSFiningKnown01
import Derived.Test.YtofkhehcnfiopaaDoorProg
namespace Go.Proofs.YtofkhehcnfiopaaDoor.N
open Go Go.RowKit Go.Proofs
set_option linter.unusedSectionVars false
variable [I : Sys]
theorem caught_ret (p : Option Addr) (w : World) : CallsD Tryd.prog 74 #[.pointer p] .returning w fun e u w' => e = .returned (.tuple #[]) ∧ u = .returning ∧ Rl w w' := by
  refine enterS (C := ⟨Tryd.prog, w.heap.size, w, 0, []⟩) (vs := [.pointer p]) (N := 13) [(0, .pointer p)] (At.bare0 _ w) Tryd.func74 rfl Tryd.ntmps74 rfl rfl fun c₀ cs hu => ?_
  refine codS_seq ?_
  refine codS_norec (by simp [recoverD, hu]) rfl ?_
  refine lst_assert (r := .tuple [.int .i64 0, .bool false].toArray) rfl rfl (fun w => by simp [Instr.typeAssert, go_sem]) ?_
  refine lst_move rfl rfl ?_
  refine lst_extract rfl rfl rfl ?_
  refine lst_extract rfl rfl rfl ?_
  refine lst_assign rfl rfl ?_
  refine lst_assign rfl rfl ?_
  refine lst_nil (exS_then (codS_cod ?_))
  refine cod_seq (cod_region ?_)
  refine lst_move rfl rfl (lst_nil (ex_then ?_))
  refine cod_cond_false rfl (cod_skip ?_)
  exact fun a w' ha => ⟨ha.defs, .returning, by rw [← hu], _, res_none (C := ⟨Tryd.prog, _, _, 13, _⟩) rfl ha, rfl, rfl, ha.below⟩
theorem caught_panic {C : Ctx} (hC : C.P = Tryd.prog) {fr0 : List (Nat × Value)} {hp hp' : List Res} {a0 : Act} {w : World} (ha0 : At C fr0 hp a0 w) (b : Nat) (n : Int) (x : Value) (t : TypeId) [hm : InB b (.cells [x].toArray t (0, 0)) hp] [hu : UpB b (.cells [x].toArray t (0, 0)) (.cells [Value.int .i64 n].toArray t (0, 0)) hp hp'] :
    CallsD Tryd.prog 74 #[.pointer (some ⟨b, 0, none⟩)] (.panicking [{ v := .iface 133 (.int .i64 n), recovered := false }]) w
      fun e u w' => e = .returned (.tuple #[]) ∧ u = .panicking [{ v := .iface 133 (.int .i64 n), recovered := true }] ∧ At C fr0 hp' a0 w' := by
  obtain ⟨P, B, w0, N0, ds⟩ := C
  obtain rfl : P = Tryd.prog := hC
  refine enterS (vs := [.pointer (some ⟨b, 0, none⟩)]) (N := 13) [(0, .pointer (some ⟨b, 0, none⟩))] ha0 Tryd.func74 rfl Tryd.ntmps74 rfl rfl fun c₀ cs hu0 => ?_
  refine codS_seq ?_
  refine codS_rec (x := .iface 133 (.int .i64 n)) (cs' := { c₀ with mode := .panicking [{ v := .iface 133 (.int .i64 n), recovered := true }] } :: cs) (by simp [recoverD, hu0]) rfl ?_
  refine lst_assert (r := .tuple [.int .i64 n, .bool true].toArray) rfl rfl (fun w => by simp [Instr.typeAssert, go_sem]) ?_
  refine lst_move rfl rfl ?_
  refine lst_extract rfl rfl rfl ?_
  refine lst_extract rfl rfl rfl ?_
  refine lst_assign rfl rfl ?_
  refine lst_assign rfl rfl ?_
  refine lst_nil (exS_then (codS_cod ?_))
  refine cod_seq (cod_region ?_)
  refine lst_move rfl rfl (lst_nil (ex_then ?_))
  refine cod_cond_true rfl (cod_region ?_)
  refine lst_move rfl rfl ?_
  refine lst_move rfl rfl ?_
  refine lst_nilCheck rfl rfl ?_
  refine lst_store (hp' := hp') rfl rfl (TI.of (P := Tryd.prog) (t := 35) (z := .int .i64 0) (size := 1) (bytes := 8) (by kernel_rfl)) rfl ?_
  exact lst_nil (fun a w' ha => ⟨ha.defs, _, rfl, _, res_none (C := ⟨Tryd.prog, _, _, 13, _⟩) rfl ha, rfl, rfl, ha0.back ha⟩)

/-- The deferred call of 'caught'. -/
def caughtD (b : Nat) : Deferred := { target := .fn (.func 74) #[], args := #[.pointer (some ⟨b, 0, none⟩)] }
theorem caught_enters (b : Nat) : Invokes Tryd.prog (.func 74) #[] #[.pointer (some ⟨b, 0, none⟩)] 74 #[.pointer (some ⟨b, 0, none⟩)] := by
  have h : Enters Tryd.prog 74 := enters_of Tryd.func74 rfl (by kernel_rfl)
  have e : (#[.pointer (some ⟨b, 0, none⟩)] : Array Value) ++ #[] = #[.pointer (some ⟨b, 0, none⟩)] := by simp
  exact invokes_of h e
section
variable {B N : Nat} {w0 : World} {fr : List (Nat × Value)} {hp hp' : List Res} {fn : Func} {R : Ending → World → Prop} {b : Nat}
theorem ex_ret_caught (k : ∀ a w, At ⟨Tryd.prog, B, w0, N, [caughtD b]⟩ fr hp a w → ∃ v, ResV Tryd.prog fn a.tmps v w ∧ R (.returned v) w) :
    Ex ⟨Tryd.prog, B, w0, N, [caughtD b]⟩ (bodyPostD Tryd.prog fn R) .ret fr hp := by
  intro a w ha
  show Leaves Tryd.prog fn a.tmps R a.defers .returning w
  rw [ha.defs]
  refine leaves_cons (by simp) (caught_enters b) ((caught_ret _ w).mono ?_)
  rintro e u w' ⟨rfl, rfl, hr⟩
  obtain ⟨v, h1, h2⟩ := k a w' (ha.rely hr)
  exact ⟨v, h1, h2⟩
theorem ex_panic_caught {n : Int} {x : Value} {t : TypeId} [hm : InB b (.cells [x].toArray t (0, 0)) hp] [hu : UpB b (.cells [x].toArray t (0, 0)) (.cells [Value.int .i64 n].toArray t (0, 0)) hp hp']
    (k : ∀ a w, At ⟨Tryd.prog, B, w0, N, [caughtD b]⟩ fr hp' a w → ∃ v, ResV Tryd.prog fn a.tmps v w ∧ R (.returned v) w) :
    Ex ⟨Tryd.prog, B, w0, N, [caughtD b]⟩ (bodyPostD Tryd.prog fn R) (.panic [{ v := .iface 133 (.int .i64 n), recovered := false }]) fr hp := by
  intro a w ha
  show Leaves Tryd.prog fn a.tmps R a.defers (.panicking [{ v := .iface 133 (.int .i64 n), recovered := false }]) w
  rw [ha.defs]
  refine leaves_cons (by simp) (caught_enters b) ((caught_panic (hp' := hp') rfl ha b n x t).mono ?_)
  rintro e u w' ⟨rfl, rfl, ha'⟩
  obtain ⟨v, h1, h2⟩ := k a _ ha'
  exact ⟨v, h1, h2⟩
theorem res_tc {ds : List Deferred} {a : Act} {w : World} (ha : At ⟨Tryd.prog, B, w0, N, ds⟩ fr hp a w) {t u : Nat} {ty ct : TypeId} {v x : Value} {b : Nat} (h : fn.results = #[.tmp t, .cell u ty]) (hv : look fr t = some v) (hu : look fr u = some (.pointer (some ⟨b, 0, none⟩))) (ht : One Tryd.prog ty)
    [hm : InB b (.cells [x].toArray ct (0, 0)) hp] : ResV Tryd.prog fn a.tmps (.tuple #[v, x]) w := res_tmp_cell (C := ⟨Tryd.prog, B, w0, N, ds⟩) h hv hu ht ha
theorem res_ttc {ds : List Deferred} {a : Act} {w : World} (ha : At ⟨Tryd.prog, B, w0, N, ds⟩ fr hp a w) {t t' u : Nat} {ty ct : TypeId} {v v' x : Value} {b : Nat} (h : fn.results = #[.tmp t, .tmp t', .cell u ty]) (hv : look fr t = some v) (hv' : look fr t' = some v') (hu : look fr u = some (.pointer (some ⟨b, 0, none⟩))) (ht : One Tryd.prog ty)
    [hm : InB b (.cells [x].toArray ct (0, 0)) hp] : ResV Tryd.prog fn a.tmps (.tuple #[v, v', x]) w := res_tmp2_cell (C := ⟨Tryd.prog, B, w0, N, ds⟩) h hv hv' hu ht ha
end
end Go.Proofs.YtofkhehcnfiopaaDoor.N
namespace Go.Proofs.YtofkhehcnfiopaaDoor.N
open Go Go.RowKit Go.Proofs
set_option linter.unusedSectionVars false
variable [I : Sys]
theorem F.ent102 : Enters Tryd.prog 102 := enters_of Tryd.func102 rfl (by kernel_rfl)
theorem F.ent122 : Enters Tryd.prog 122 := enters_of Tryd.func122 rfl (by kernel_rfl)
theorem F.ent75 : Enters Tryd.prog 75 := enters_of Tryd.func75 rfl (by kernel_rfl)
theorem F.ent76 : Enters Tryd.prog 76 := enters_of Tryd.func76 rfl (by kernel_rfl)
theorem F.ent77 : Enters Tryd.prog 77 := enters_of Tryd.func77 rfl (by kernel_rfl)
theorem F.ent84 : Enters Tryd.prog 84 := enters_of Tryd.func84 rfl (by kernel_rfl)
theorem F.one35 : One Tryd.prog 35 := ⟨by unfold aggB; rw [Tryd.underlying35], by rw [Tryd.underlying35]; simp⟩
theorem F.pl79 : Places Tryd.prog 79 [(0, 1), (1, 1), (2, 1)] := .inr ⟨_, _, 1, Tryd.underlying79, by kernel_rfl, rfl⟩
theorem F.ti35 : TI Tryd.prog 35 (.int .i64 0) 1 8 := TI.of (by kernel_rfl)
theorem shortest_c {C : Ctx} {fr : List (Nat × Value)} {T : List Res} {a : Act} {w : World} (hC : C.P = Tryd.prog) {ags : List Ag} {used f p cg : Nat} {aA : Option Addr} (hok : Oks ags) (hu : used < 256) (h0 : Tm.lo (f, 0, 0)) (hp : p < 256) (hAg : Res.row 89 5 aA ags.length cg (ags.flatMap Ag.cells) ∈ T) (ha : At C fr (T) a w) : Calls C.P 102 #[.agg [.slice aA ags.length cg, .int .u8 (used : Int)].toArray, .int .u8 (f : Int), .int .u8 (p : Int)] w fun e w' => ∃ o, FoundO ags used 1 (-1) (f, 0, 0) (fun t => decide (nn t.1 p = 0)) o ∧ e = .returned (.tuple #[.slice (wayO o).A (wayO o).how.length (wayO o).c, .bool o.isSome]) ∧ At C fr (.row 3 1 (wayO o).A (wayO o).how.length (wayO o).c (ints (wayO o).how) :: T) a w' := by
  obtain ⟨P, B, w0, N0, ds⟩ := C
  obtain rfl : P = Tryd.prog := hC
  refine enter_in (N := 15) [(0, .agg [.slice aA ags.length cg, .int .u8 (used : Int)].toArray), (1, .int .u8 (f : Int)), (2, .int .u8 (p : Int))] ha Tryd.func102 rfl Tryd.ntmps102 rfl rfl ?_
  refine cod_seq ?_
  refine cod_region ?_
  refine lst_box rfl rfl ?_
  intro b3
  refine lst_box rfl rfl ?_
  intro b5
  refine lst_assign rfl rfl ?_
  refine lst_assign rfl rfl ?_
  refine lst_nil ?_
  refine ex_then ?_
  refine cod_seq ?_
  refine cod_region ?_
  refine lst_loadN rfl rfl F.agg75 F.ti75 ?_
  refine lst_move rfl rfl ?_
  refine lst_struct (vs := [(0, _)]) (l' := [_, _, _]) rfl rfl F.ti79 F.pl79 (.cons rfl rfl (.nil _)) rfl ?_
  refine lst_makeFunc (fs := []) (cs := [_]) rfl rfl rfl ?_
  refine lst_call (X := Option Wk) (first := []) (cap := []) (vs := [_, _, _, _, _]) (p := FoundO ags (used) 1 (-1) (f, 0, 0) (fun t => decide (nn t.1 p = 0))) (val := fun o => .tuple #[.slice (wayO o).A (wayO o).how.length (wayO o).c, .bool o.isSome]) (rs := fun o => .row 3 1 (wayO o).A (wayO o).how.length (wayO o).c (ints (wayO o).how) :: endO (.blk b5 (.cells [.int .u8 (p : Int)].toArray 77 (0, 0))) ((fun _ => .blk b5 (.cells [.int .u8 (p : Int)].toArray 77 (0, 0)))) o :: .blk b3 (.cells [.slice aA ags.length cg, .int .u8 (used : Int)].toArray 75 (0, 0)) :: T) rfl rfl rfl F.ent77 (fun a w ha => (find_o (r := .blk b5 (.cells [.int .u8 (p : Int)].toArray 77 (0, 0))) (r' := (fun _ => .blk b5 (.cells [.int .u8 (p : Int)].toArray 77 (0, 0)))) (t0 := (f, 0, 0)) (n := 1) (goal := (fun t => decide (nn t.1 p = 0))) (cap := [.pointer (some ⟨b5, 0, none⟩)]) (fid := 122) rfl hok hu (by omega) (by omega) h0 (by simp [hAg]) F.ent122 (fun N fr Y a w t ht hY h => (shortest1_c (bp := b5) rfl ht.ok hp h).mono (fun e w' hh => ⟨hh.1, by rw [ite_self]; exact hh.2⟩)) ha).mono (fun e w' h => by obtain ⟨o, h1, h2, h3⟩ := h; exact ⟨o, h1, h2, h3⟩)) ?_
  intro o hfo
  dsimp only
  refine lst_extract rfl rfl rfl ?_
  refine lst_extract rfl rfl rfl ?_
  refine lst_assign rfl rfl ?_
  refine lst_assign rfl rfl ?_
  refine lst_nil ?_
  refine ex_then ?_
  refine cod_ret ?_
  exact ex_ret rfl (fun a w ha => res_two rfl rfl rfl ha) (fun _ _ ha' => ⟨o, hfo, rfl, ha.back (ha'.pck pkk)⟩)

theorem Shortest_ok (A : Option Addr) (c : Nat) (ags : List Ag) (hok : Oks ags) (f p : Nat) (hf : f < 64) (hp : p < 64) (w : World) (hA : RdL Ag.cells 5 w A ags) : Calls Tryd.prog 53 #[.slice A ags.length c, .int .i64 (f : Int), .int .i64 (p : Int)] w fun e w' => ∃ o, FoundO ags (usedAll ags.length) 1 (-1) (f, 0, 0) (fun t => decide (nn t.1 p = 0)) o ∧ e = .returned (.tuple #[.slice (wayO o).A (wayO o).how.length (wayO o).c, .int .i64 (if o.isSome then 0 else 11)]) ∧ Grew w w' [.row 3 1 (wayO o).A (wayO o).how.length (wayO o).c (ints (wayO o).how)] := by
  have hua : usedAll ags.length < 256 := by have := usedAll_lt hok.1; omega
  refine enter_defers (N := 24) [(0, .slice A ags.length c), (1, .int .i64 (f : Int)), (2, .int .i64 (p : Int))] Tryd.func53 rfl Tryd.ntmps53 rfl rfl ?_
  refine cod_seq ?_
  refine cod_region ?_
  refine lst_assign rfl rfl ?_
  refine lst_alloc rfl F.ti35 ?_
  intro b7
  refine lst_nil ?_
  refine ex_then ?_
  refine cod_seq ?_
  refine cod_region ?_
  refine lst_defer (first := []) (cap := []) (vs := [_]) rfl rfl ?_
  refine lst_nil ?_
  refine ex_then ?_
  refine cod_seq ?_
  refine cod_region ?_
  refine lst_move rfl rfl ?_
  refine lst_fn (X := Option Addr × Nat) (vs := [_]) (p := fun _ => True) (val := fun x => .agg [.slice x.1 ags.length x.2, .int .u8 (usedAll ags.length : Nat)].toArray) (rs := fun x => [.row 89 5 x.1 ags.length x.2 (ags.flatMap Ag.cells)]) rfl rfl F.ent75 (fun a w ha => (begin_ok A c ags hok w (hA.later ha.below)).mono (fun e w' h => by obtain ⟨A', c', h1, h2⟩ := h; exact ⟨(A', c'), trivial, h1, h2⟩)) ?_
  rintro ⟨aA, cg⟩ -
  dsimp only [List.cons_append, List.nil_append]
  refine lst_alloc rfl F.ti75 ?_
  intro b8
  refine lst_store rfl rfl F.ti75 rfl ?_
  refine lst_nil ?_
  refine ex_then ?_
  refine cod_seq ?_
  refine any_begin [] F.follows 11 rfl [false, false, false, false, false, false, false, false, false, false, false] rfl ?_
  refine any_tk 0 rfl rfl rfl (yld_loadN rfl F.agg75 F.ti75) ?_
  refine any_tk 1 rfl rfl rfl (yld_move rfl) ?_
  refine any_tk 3 rfl rfl rfl (yld_move rfl) ?_
  refine any_one 2 (by kernel_rfl) rfl rfl ?_
  refine lst_fn0 (vs := [_]) rfl rfl F.ent76 (fun a w ha => melt_ok f hf w) ?_
  refine lst_nil ?_
  refine any_next sbl ?_
  refine any_one 4 (by kernel_rfl) rfl rfl ?_
  refine lst_fn0 (vs := [_]) rfl rfl F.ent76 (fun a w ha => melt_ok p hp w) ?_
  refine lst_nil ?_
  refine any_next sbl ?_
  refine any_one 5 (by kernel_rfl) rfl rfl ?_
  refine lst_call (X := Option Wk) (first := []) (cap := []) (vs := [_, _, _]) (p := FoundO ags (usedAll ags.length) 1 (-1) (f, 0, 0) (fun t => decide (nn t.1 p = 0))) (val := fun o => .tuple #[.slice (wayO o).A (wayO o).how.length (wayO o).c, .bool o.isSome]) (rs := fun o => .row 3 1 (wayO o).A (wayO o).how.length (wayO o).c (ints (wayO o).how) :: .blk b8 (.cells [.slice aA ags.length cg, .int .u8 (usedAll ags.length : Nat)].toArray 75 (0, 0)) :: .row 89 5 aA ags.length cg (ags.flatMap Ag.cells) :: [.blk b7 (.cells [.int .i64 0].toArray 35 (0, 0))]) rfl rfl rfl F.ent102 (fun a w ha => (shortest_c rfl hok hua ⟨hf, show (0 : Nat) < 64 by omega, show (0 : Nat) < 64 by omega⟩ (by omega) (by simp) ha).mono (fun e w' h => by obtain ⟨o, h1, h2, h3⟩ := h; exact ⟨o, h1, h2, h3⟩)) ?_
  intro o hfo
  dsimp only
  refine lst_nil ?_
  refine any_next sbl ?_
  refine any_tk 6 rfl rfl rfl (yld_move rfl) ?_
  refine any_tk 7 rfl rfl rfl (yld_extract rfl rfl) ?_
  refine any_tk 8 rfl rfl rfl (yld_extract rfl rfl) ?_
  refine any_tk 9 rfl rfl rfl (yld_assign rfl) ?_
  refine any_tk 10 rfl rfl rfl (yld_assign rfl) ?_
  refine any_done rfl (by kernel_rfl) ?_
  refine ex_then ?_
  refine cod_seq ?_
  refine cod_seq ?_
  refine cod_region ?_
  refine lst_move rfl rfl ?_
  refine lst_not rfl rfl ?_
  refine lst_nil ?_
  refine ex_then ?_
  refine cod_cond_bool rfl (fun hc0 => ?_) (fun hc0 => ?_)
  · skip
    have ho : o = none := by cases o with
      | none => rfl
      | some k => cases hc0
    subst ho
    refine cod_seq ?_
    refine cod_region ?_
    refine lst_assign rfl rfl ?_
    refine lst_store rfl rfl F.ti35 rfl ?_
    refine lst_nil ?_
    refine ex_then ?_
    refine cod_ret ?_
    refine ex_then_ret ?_
    exact ex_ret_caught (fun a w ha => ⟨_, res_tc (fn := Tryd.f53) ha rfl rfl rfl F.one35, none, hfo, by simp [wayO], ha.grown sbl⟩)
  · skip
    obtain ⟨k, rfl⟩ : ∃ k, o = some k := by cases o with
      | none => cases hc0
      | some k => exact ⟨k, rfl⟩
    refine cod_skip ?_
    refine ex_then ?_
    refine cod_seq ?_
    refine cod_region ?_
    refine lst_move rfl rfl ?_
    refine lst_assign rfl rfl ?_
    refine lst_store rfl rfl F.ti35 rfl ?_
    refine lst_nil ?_
    refine ex_then ?_
    refine cod_ret ?_
    exact ex_ret_caught (fun a w ha => ⟨_, res_tc (fn := Tryd.f53) ha rfl rfl rfl F.one35, some k, hfo, by simp [wayO], ha.grown sbl⟩)

theorem Tells_ok (A : Option Addr) (c : Nat) (ags : List Ag) (hok : Oks ags) (f g : Nat) (hf : f < 64) (hg : g < 64) (w : World) (hA : RdL Ag.cells 5 w A ags) : Calls Tryd.prog 30 #[.slice A ags.length c, .int .i64 (f : Int), .int .i64 (g : Int)] w fun e w' => ∃ o A c, FoundO ags (usedAll ags.length) 2 4 (f, g, 0) (tellsG ags) o ∧ e = .returned (.tuple #[.slice A (tellsL ags o).length c, .int .i64 (if o.isSome then 0 else 11)]) ∧ Grew w w' [.row 3 1 A (tellsL ags o).length c (ints (tellsL ags o))] := by
  have hua : usedAll ags.length < 256 := by have := usedAll_lt hok.1; omega
  refine enter_defers (N := 32) [(0, .slice A ags.length c), (1, .int .i64 (f : Int)), (2, .int .i64 (g : Int))] Tryd.func30 rfl Tryd.ntmps30 rfl rfl ?_
  refine cod_seq ?_
  refine cod_region ?_
  refine lst_assign rfl rfl ?_
  refine lst_alloc rfl F.ti35 ?_
  intro b7
  refine lst_nil ?_
  refine ex_then ?_
  refine cod_seq ?_
  refine cod_region ?_
  refine lst_defer (first := []) (cap := []) (vs := [_]) rfl rfl ?_
  refine lst_nil ?_
  refine ex_then ?_
  refine cod_seq ?_
  refine cod_region ?_
  refine lst_move rfl rfl ?_
  refine lst_fn (X := Option Addr × Nat) (vs := [_]) (p := fun _ => True) (val := fun x => .agg [.slice x.1 ags.length x.2, .int .u8 (usedAll ags.length : Nat)].toArray) (rs := fun x => [.row 89 5 x.1 ags.length x.2 (ags.flatMap Ag.cells)]) rfl rfl F.ent75 (fun a w ha => (begin_ok A c ags hok w (hA.later ha.below)).mono (fun e w' h => by obtain ⟨A', c', h1, h2⟩ := h; exact ⟨(A', c'), trivial, h1, h2⟩)) ?_
  rintro ⟨aA, cg⟩ -
  dsimp only [List.cons_append, List.nil_append]
  refine lst_alloc rfl F.ti75 ?_
  intro b8
  refine lst_store rfl rfl F.ti75 rfl ?_
  refine lst_nil ?_
  refine ex_then ?_
  refine cod_seq ?_
  refine cod_region ?_
  refine lst_move rfl rfl ?_
  refine lst_fn0 (vs := [_]) rfl rfl F.ent76 (fun a w ha => melt_ok f hf w) ?_
  refine lst_move rfl rfl ?_
  refine lst_fn0 (vs := [_]) rfl rfl F.ent76 (fun a w ha => melt_ok g hg w) ?_
  refine lst_struct (vs := [(0, _), (1, _)]) (l' := [_, _, _]) rfl rfl F.ti79 F.pl79 (.cons rfl rfl (.cons rfl rfl (.nil _))) rfl ?_
  refine lst_alloc rfl F.ti79 ?_
  intro b9
  refine lst_store rfl rfl F.ti79 rfl ?_
  refine lst_nil ?_
  refine ex_then ?_
  refine cod_seq ?_
  refine cod_region ?_
  refine lst_alloc rfl F.ti3 ?_
  intro b10
  refine lst_store rfl rfl F.ti3 rfl ?_
  refine lst_nil ?_
  refine ex_then ?_
  refine cod_seq ?_
  refine cod_region ?_
  refine lst_loadN rfl rfl F.agg75 F.ti75 ?_
  refine lst_loadN rfl rfl F.agg79 F.ti79 ?_
  refine lst_makeFunc (fs := []) (cs := [_, _]) rfl rfl rfl ?_
  refine lst_call (X := Option Wk) (first := []) (cap := []) (vs := [_, _, _, _, _]) (p := FoundO ags (usedAll ags.length) 2 (4) (f, g, 0) (tellsG ags)) (val := fun o => .tuple #[.slice (wayO o).A (wayO o).how.length (wayO o).c, .bool o.isSome]) (rs := fun o => .row 3 1 (wayO o).A (wayO o).how.length (wayO o).c (ints (wayO o).how) :: .blk b10 (.cells [.int .i64 (idxO ags o)].toArray 3 (0, 0)) :: .blk b9 (.cells [.int .u8 (f : Int), .int .u8 (g : Int), .int .u8 0].toArray 79 (0, 0)) :: .blk b8 (.cells [.slice aA ags.length cg, .int .u8 (usedAll ags.length : Nat)].toArray 75 (0, 0)) :: .row 89 5 aA ags.length cg (ags.flatMap Ag.cells) :: [.blk b7 (.cells [.int .i64 0].toArray 35 (0, 0))]) rfl rfl rfl F.ent77 (fun a w ha => (find_o (r := .blk b10 (.cells [.int .i64 (-1)].toArray 3 (0, 0))) (r' := (fun t => .blk b10 (.cells [.int .i64 (tellsI ags t : Int)].toArray 3 (0, 0)))) (t0 := (f, g, 0)) (n := 2) (goal := (tellsG ags)) (cap := [.pointer (some ⟨b8, 0, none⟩), .pointer (some ⟨b10, 0, none⟩)]) (fid := 84) rfl hok hua (by omega) (by omega) ⟨hf, hg, show (0 : Nat) < 64 by omega⟩ (by simp) F.ent84 (fun N fr Y a w t ht hY h => tells1_c (bc := b8) (bi := b10) (aA := aA) (cg := cg) (used := usedAll ags.length) rfl hok ht.ok (hY _ (by simp)) (hY _ (by simp)) h) ha).mono (fun e w' h => by obtain ⟨o, h1, h2, h3⟩ := h; rw [endO_tells] at h3; exact ⟨o, h1, h2, h3⟩)) ?_
  intro o hfo
  dsimp only
  refine lst_move rfl rfl ?_
  refine lst_extract rfl rfl rfl ?_
  refine lst_extract rfl rfl rfl ?_
  refine lst_assign rfl rfl ?_
  refine lst_assign rfl rfl ?_
  refine lst_nil ?_
  refine ex_then ?_
  refine cod_seq ?_
  refine cod_seq ?_
  refine cod_region ?_
  refine lst_move rfl rfl ?_
  refine lst_not rfl rfl ?_
  refine lst_nil ?_
  refine ex_then ?_
  refine cod_cond_bool rfl (fun hc0 => ?_) (fun hc0 => ?_)
  · skip
    have ho : o = none := by cases o with
      | none => rfl
      | some k => cases hc0
    subst ho
    refine cod_seq ?_
    refine cod_region ?_
    refine lst_assign rfl rfl ?_
    refine lst_store rfl rfl F.ti35 rfl ?_
    refine lst_nil ?_
    refine ex_then ?_
    refine cod_ret ?_
    refine ex_then_ret ?_
    exact ex_ret_caught (fun a w ha => ⟨_, res_tc (fn := Tryd.f30) ha rfl rfl rfl F.one35, none, none, 0, hfo, by simp [tellsL], ha.grown sbl⟩)
  · skip
    obtain ⟨k, rfl⟩ : ∃ k, o = some k := by cases o with
      | none => cases hc0
      | some k => exact ⟨k, rfl⟩
    refine cod_skip ?_
    refine ex_then ?_
    refine cod_seq ?_
    refine cod_region ?_
    refine lst_move rfl rfl ?_
    refine lst_load rfl rfl F.one3 ?_
    refine lst_lit (vs := [(0, _)]) rfl rfl Tryd.underlying25 F.ti3 rfl rfl rfl ?_
    intro b30
    refine lst_append rfl rfl rfl Tryd.underlying25 F.ti3 rfl rfl rfl (by show k.how.length + 1 ≤ maxLen; unfold maxLen; have := found_len hfo; omega) (by show (k.how.length + 1) * 8 ≤ _; have := found_len hfo; omega) ?_
    intro An cn
    refine lst_assign rfl rfl ?_
    refine lst_store rfl rfl F.ti35 rfl ?_
    refine lst_nil ?_
    refine ex_then ?_
    refine cod_ret ?_
    exact ex_ret_caught (fun a w ha => ⟨_, res_tc (fn := Tryd.f30) ha rfl rfl rfl F.one35, some k, An, cn, hfo, by simp [tellsL, wayO, idxO], by have h := ha.grown (rs := [.row 3 1 An (k.how.length + 1) cn (ints k.how ++ [.int .i64 (tellsI ags k.team : Int)])]) sbl; simp only [tellsL, List.length_append, List.length_singleton, ints_snoc]; exact h⟩)

end Go.Proofs.YtofkhehcnfiopaaDoor.N
namespace Go.Proofs.YtofkhehcnfiopaaDoor.N
open Go Go.RowKit Go.Proofs
set_option linter.unusedSectionVars false
variable [I : Sys]
theorem F.ent78 : Enters Tryd.prog 78 := enters_of Tryd.func78 rfl (by kernel_rfl)
theorem Both_ok (A : Option Addr) (c : Nat) (ags : List Ag) (hok : Oks ags) (mA : Option Addr) (mc : Nat) (ms : List Nat) (p : Nat) (hm1 : 1 ≤ ms.length) (hm3 : ms.length ≤ 3) (hms : ∀ m ∈ ms, m < 64) (hp : p < 64) (w : World) (hA : RdL Ag.cells 5 w A ags) (hM : RdL ncell 1 w mA ms) : Calls Tryd.prog 28 #[.slice A ags.length c, .slice mA ms.length mc, .int .i64 (p : Int)] w fun e w' => ∃ o, FoundO ags (usedAll ags.length) ms.length 5 (teamOf ms ms.length) (fun t => clearT p t ms.length) o ∧ e = .returned (.tuple #[.slice (wayO o).A (wayO o).how.length (wayO o).c, .int .i64 (if o.isSome then 0 else 11)]) ∧ Grew w w' [.row 3 1 (wayO o).A (wayO o).how.length (wayO o).c (ints (wayO o).how)] := by
  have hua : usedAll ags.length < 256 := by have := usedAll_lt hok.1; omega
  refine enter_defers (N := 48) [(0, .slice A ags.length c), (1, .slice mA ms.length mc), (2, .int .i64 (p : Int))] Tryd.func28 rfl Tryd.ntmps28 rfl rfl ?_
  refine cod_seq ?_
  refine cod_region ?_
  refine lst_box rfl rfl ?_
  intro b4
  refine lst_assign rfl rfl ?_
  refine lst_alloc rfl F.ti35 ?_
  intro b7
  refine lst_nil ?_
  refine ex_then ?_
  refine cod_seq ?_
  refine cod_region ?_
  refine lst_defer (first := []) (cap := []) (vs := [_]) rfl rfl ?_
  refine lst_nil ?_
  refine ex_then ?_
  refine cod_seq ?_
  refine cod_region ?_
  refine lst_move rfl rfl ?_
  refine lst_fn (X := Option Addr × Nat) (vs := [_]) (p := fun _ => True) (val := fun x => .agg [.slice x.1 ags.length x.2, .int .u8 (usedAll ags.length : Nat)].toArray) (rs := fun x => [.row 89 5 x.1 ags.length x.2 (ags.flatMap Ag.cells)]) rfl rfl F.ent75 (fun a w ha => (begin_ok A c ags hok w (hA.later ha.below)).mono (fun e w' h => by obtain ⟨A', c', h1, h2⟩ := h; exact ⟨(A', c'), trivial, h1, h2⟩)) ?_
  rintro ⟨aA, cg⟩ -
  dsimp only [List.cons_append, List.nil_append]
  refine lst_alloc rfl F.ti75 ?_
  intro b8
  refine lst_store rfl rfl F.ti75 rfl ?_
  refine lst_nil ?_
  refine ex_then ?_
  refine cod_seq ?_
  refine cod_seq ?_
  refine cod_region ?_
  refine lst_load rfl rfl F.one25 ?_
  refine lst_len rfl rfl Tryd.underlying25 ?_
  refine lst_int rfl rfl rfl bin_eql ?_
  refine lst_nil ?_
  refine ex_then ?_
  refine cod_cond_dec rfl (fun hc0 => ?_) (fun hc0 => ?_)
  · skip
    exact absurd hc0 (by omega) -- done
  · skip
    refine cod_skip ?_
    refine ex_then ?_
    refine cod_seq ?_
    refine cod_seq ?_
    refine cod_region ?_
    refine lst_load rfl rfl F.one25 ?_
    refine lst_len rfl rfl Tryd.underlying25 ?_
    refine lst_int rfl rfl rfl bin_gtr ?_
    refine lst_nil ?_
    refine ex_then ?_
    refine cod_cond_dec rfl (fun hc1 => ?_) (fun hc1 => ?_)
    · skip
      exact absurd hc1 (by omega) -- done
    · skip
      refine cod_skip ?_
      refine ex_then ?_
      refine cod_seq ?_
      refine cod_region ?_
      refine lst_alloc rfl F.ti79 ?_
      intro b9
      refine lst_nil ?_
      refine ex_then ?_
      refine cod_seq ?_
      refine cod_seq ?_
      refine cod_region ?_
      refine lst_load rfl rfl F.one25 ?_
      refine lst_len rfl rfl Tryd.underlying25 ?_
      refine lst_move rfl rfl ?_
      refine lst_nil ?_
      refine ex_then ?_
      refine cod_block ?_
      refine cod_loop (G := Nat) (fun k => k ≤ ms.length) (fun k => ms.length - k) (fun k => [(2, .int .i64 (p : Int)), (4, .pointer (some ⟨b4, 0, none⟩)), (7, .pointer (some ⟨b7, 0, none⟩)), (8, .pointer (some ⟨b8, 0, none⟩)), (9, .pointer (some ⟨b9, 0, none⟩)), (22, .slice mA ms.length mc), (23, .int .i64 (ms.length : Int)), (24, .int .i64 (k : Int))]) (fun k => .blk b9 (.cells [.int .u8 ((teamOf ms k).1 : Int), .int .u8 ((teamOf ms k).2.1 : Int), .int .u8 ((teamOf ms k).2.2 : Int)].toArray 79 (0, 0)) :: .blk b8 (.cells [.slice aA ags.length cg, .int .u8 (usedAll ags.length : Nat)].toArray 75 (0, 0)) :: .row 89 5 aA ags.length cg (ags.flatMap Ag.cells) :: .blk b7 (.cells [.int .i64 0].toArray 35 (0, 0)) :: [.blk b4 (.cells [.slice mA ms.length mc].toArray 25 (0, 0))]) 0 (Nat.zero_le _) sbn sbl ?_
      intro k hk
      (try dsimp only at hk ⊢)
      refine cod_seq ?_
      refine cod_region ?_
      refine lst_int rfl rfl rfl bin_lss ?_
      refine lst_nil ?_
      refine ex_then ?_
      refine cod_seq ?_
      refine cod_cond_dec rfl (fun hc2 => ?_) (fun hc2 => ?_)
      · skip
        have hk' : k < ms.length := by omega
        obtain ⟨b, o, rfl, hb, hcell⟩ := hM (by omega)
        obtain ⟨m, hx⟩ : ∃ m, ms[k]? = some m := ⟨_, List.getElem?_eq_getElem hk'⟩
        have hm64 := hms m (List.mem_of_getElem? hx)
        have hmd : ms.getD k 0 = m := by rw [List.getD_eq_getElem?_getD, hx]; rfl
        refine cod_skip ?_
        refine ex_then ?_
        refine cod_seq ?_
        refine cod_block ?_
        refine cod_seq ?_
        refine cod_region ?_
        refine lst_move rfl rfl ?_
        refine lst_index (j := k) rfl rfl rfl Tryd.underlying25 F.ti3 rfl hk' ?_
        refine lst_load_at (v := .int .i64 (m : Int)) rfl rfl F.one3 (fun a w ha => ha.old (hcell k m hx 0 _ rfl) hb) ?_
        refine lst_assign rfl rfl ?_
        refine lst_assign rfl rfl ?_
        refine lst_nil ?_
        refine ex_then ?_
        refine cod_region ?_
        refine lst_move rfl rfl ?_
        refine lst_move rfl rfl ?_
        refine lst_fn0 (vs := [_]) rfl rfl F.ent76 (fun a w ha => melt_ok m hm64 w) ?_
        refine lst_index_arr (j := k) rfl rfl rfl Tryd.underlying79 F.ti77 rfl (by omega) ?_
        refine lst_store_any rfl rfl F.ti77 (by show 0 + k * 1 < 3; omega) (tput_cells (teamOf ms k) (by omega)) UpB.upd ?_
        rw [show tput (teamOf ms k) k m = teamOf ms (k + 1) from by rw [teamOf, hmd]]
        refine lst_nil ?_
        refine ex_block_normal ?_
        refine ex_then ?_
        refine cod_region ?_
        refine lst_int rfl rfl rfl (fun w => bin_add w (wrap_i64' _ (by omega) (by omega))) ?_
        refine lst_move rfl rfl ?_
        refine lst_nil ?_
        refine ex_round (k + 1) (by omega) (by (try dsimp only); omega) sbn sbl
      · skip
        obtain rfl : k = ms.length := by omega
        refine cod_exit ?_
        refine ex_then_exit ?_
        refine ex_then_exit ?_
        refine ex_block_exit ?_
        refine ex_then ?_
        refine cod_seq ?_
        refine cod_region ?_
        refine lst_move rfl rfl ?_
        refine lst_fn0 (vs := [_]) rfl rfl F.ent76 (fun a w ha => melt_ok p hp w) ?_
        refine lst_alloc rfl F.ti77 ?_
        intro b12
        refine lst_store rfl rfl F.ti77 rfl ?_
        refine lst_nil ?_
        refine ex_then ?_
        refine cod_seq ?_
        refine cod_region ?_
        refine lst_loadN rfl rfl F.agg75 F.ti75 ?_
        refine lst_loadN rfl rfl F.agg79 F.ti79 ?_
        refine lst_load rfl rfl F.one25 ?_
        refine lst_len rfl rfl Tryd.underlying25 ?_
        refine lst_makeFunc (fs := []) (cs := [_, _]) rfl rfl rfl ?_
        refine lst_call (X := Option Wk) (first := []) (cap := []) (vs := [_, _, _, _, _]) (p := FoundO ags (usedAll ags.length) ms.length (5) (teamOf ms ms.length) (fun t => clearT p t ms.length)) (val := fun o => .tuple #[.slice (wayO o).A (wayO o).how.length (wayO o).c, .bool o.isSome]) (rs := fun o => .row 3 1 (wayO o).A (wayO o).how.length (wayO o).c (ints (wayO o).how) :: endO (.blk b12 (.cells [.int .u8 (p : Int)].toArray 77 (0, 0))) ((fun _ => .blk b12 (.cells [.int .u8 (p : Int)].toArray 77 (0, 0)))) o :: .blk b9 (.cells [.int .u8 ((teamOf ms ms.length).1 : Int), .int .u8 ((teamOf ms ms.length).2.1 : Int), .int .u8 ((teamOf ms ms.length).2.2 : Int)].toArray 79 (0, 0)) :: .blk b8 (.cells [.slice aA ags.length cg, .int .u8 (usedAll ags.length : Nat)].toArray 75 (0, 0)) :: .row 89 5 aA ags.length cg (ags.flatMap Ag.cells) :: .blk b7 (.cells [.int .i64 0].toArray 35 (0, 0)) :: [.blk b4 (.cells [.slice mA ms.length mc].toArray 25 (0, 0))]) rfl rfl rfl F.ent77 (fun a w ha => (find_o (r := .blk b12 (.cells [.int .u8 (p : Int)].toArray 77 (0, 0))) (r' := (fun _ => .blk b12 (.cells [.int .u8 (p : Int)].toArray 77 (0, 0)))) (t0 := (teamOf ms ms.length)) (n := ms.length) (goal := (fun t => clearT p t ms.length)) (cap := [.pointer (some ⟨b4, 0, none⟩), .pointer (some ⟨b12, 0, none⟩)]) (fid := 78) rfl hok hua (by omega) (by omega) (teamOf_lo hms _) (by simp) F.ent78 (fun N fr Y a w t ht hY h => (both1_c (bl := b4) (bp := b12) (m := ms.length) (mA := mA) (mc := mc) rfl ht.ok (by omega) hm3 (hY _ (by simp)) h).mono (fun e w' hh => ⟨hh.1, by rw [ite_self]; exact hh.2⟩)) ha).mono (fun e w' h => by obtain ⟨o, h1, h2, h3⟩ := h; exact ⟨o, h1, h2, h3⟩)) ?_
        intro o hfo
        dsimp only
        refine lst_move rfl rfl ?_
        refine lst_extract rfl rfl rfl ?_
        refine lst_extract rfl rfl rfl ?_
        refine lst_assign rfl rfl ?_
        refine lst_assign rfl rfl ?_
        refine lst_nil ?_
        refine ex_then ?_
        refine cod_seq ?_
        refine cod_seq ?_
        refine cod_region ?_
        refine lst_move rfl rfl ?_
        refine lst_not rfl rfl ?_
        refine lst_nil ?_
        refine ex_then ?_
        refine cod_cond_bool rfl (fun hc3 => ?_) (fun hc3 => ?_)
        · skip
          have ho : o = none := by cases o with
            | none => rfl
            | some k => cases hc3
          subst ho
          refine cod_seq ?_
          refine cod_region ?_
          refine lst_assign rfl rfl ?_
          refine lst_store rfl rfl F.ti35 rfl ?_
          refine lst_nil ?_
          refine ex_then ?_
          refine cod_ret ?_
          refine ex_then_ret ?_
          exact ex_ret_caught (fun a w ha => ⟨_, res_tc (fn := Tryd.f28) ha rfl rfl rfl F.one35, none, hfo, by simp [wayO], ha.grown sbl⟩)
        · skip
          obtain ⟨k, rfl⟩ : ∃ k, o = some k := by cases o with
            | none => cases hc3
            | some k => exact ⟨k, rfl⟩
          refine cod_skip ?_
          refine ex_then ?_
          refine cod_seq ?_
          refine cod_region ?_
          refine lst_move rfl rfl ?_
          refine lst_assign rfl rfl ?_
          refine lst_store rfl rfl F.ti35 rfl ?_
          refine lst_nil ?_
          refine ex_then ?_
          refine cod_ret ?_
          exact ex_ret_caught (fun a w ha => ⟨_, res_tc (fn := Tryd.f28) ha rfl rfl rfl F.one35, some k, hfo, by simp [wayO], ha.grown sbl⟩)

theorem Farthest_ok (A : Option Addr) (c : Nat) (ags : List Ag) (hok : Oks ags) (p : Nat) (hp : p < 64) (w : World) (hA : RdL Ag.cells 5 w A ags) : Calls Tryd.prog 54 #[.slice A ags.length c, .int .i64 (p : Int)] w fun e w' => ∃ os : Nat → Option Wk, (∀ f, f < 64 → FoundO ags (usedAll ags.length) 1 (-1) (f, 0, 0) (fun t => decide (nn t.1 p = 0)) (os f)) ∧ e = .returned (.tuple #[.int .i64 ((farL os 64).1 : Int), .int .i64 ((farL os 64).2 : Int), .int .i64 0]) ∧ Grew w w' [] := by
  have hua : usedAll ags.length < 256 := by have := usedAll_lt hok.1; omega
  refine enter_defers (N := 40) [(0, .slice A ags.length c), (1, .int .i64 (p : Int))] Tryd.func54 rfl Tryd.ntmps54 rfl rfl ?_
  refine cod_seq ?_
  refine cod_region ?_
  refine lst_assign rfl rfl ?_
  refine lst_assign rfl rfl ?_
  refine lst_alloc rfl F.ti35 ?_
  intro b6
  refine lst_nil ?_
  refine ex_then ?_
  refine cod_seq ?_
  refine cod_region ?_
  refine lst_defer (first := []) (cap := []) (vs := [_]) rfl rfl ?_
  refine lst_nil ?_
  refine ex_then ?_
  refine cod_seq ?_
  refine cod_region ?_
  refine lst_move rfl rfl ?_
  refine lst_fn (X := Option Addr × Nat) (vs := [_]) (p := fun _ => True) (val := fun x => .agg [.slice x.1 ags.length x.2, .int .u8 (usedAll ags.length : Nat)].toArray) (rs := fun x => [.row 89 5 x.1 ags.length x.2 (ags.flatMap Ag.cells)]) rfl rfl F.ent75 (fun a w ha => (begin_ok A c ags hok w (hA.later ha.below)).mono (fun e w' h => by obtain ⟨A', c', h1, h2⟩ := h; exact ⟨(A', c'), trivial, h1, h2⟩)) ?_
  rintro ⟨aA, cg⟩ -
  dsimp only [List.cons_append, List.nil_append]
  refine lst_alloc rfl F.ti75 ?_
  intro b7
  refine lst_store rfl rfl F.ti75 rfl ?_
  refine lst_nil ?_
  refine ex_then ?_
  refine cod_seq ?_
  refine cod_region ?_
  refine lst_move rfl rfl ?_
  refine lst_fn0 (vs := [_]) rfl rfl F.ent76 (fun a w ha => melt_ok p hp w) ?_
  refine lst_assign rfl rfl ?_
  refine lst_nil ?_
  refine ex_then ?_
  refine cod_seq ?_
  refine cod_seq ?_
  refine cod_region ?_
  refine lst_move rfl rfl ?_
  refine lst_nil ?_
  refine ex_then ?_
  refine cod_block ?_
  refine cod_loop (G := Nat × (Nat → Option Wk)) (fun g => g.1 ≤ 64 ∧ ∀ f, f < g.1 → FoundO ags (usedAll ags.length) 1 (-1) (f, 0, 0) (fun t => decide (nn t.1 p = 0)) (g.2 f)) (fun g => 64 - g.1) (fun g => [(4, .int .i64 ((farL g.2 g.1).1 : Int)), (5, .int .i64 ((farL g.2 g.1).2 : Int)), (6, .pointer (some ⟨b6, 0, none⟩)), (7, .pointer (some ⟨b7, 0, none⟩)), (8, .int .u8 (p : Int)), (16, .int .i64 (g.1 : Int))]) (fun g => .blk b7 (.cells [.slice aA ags.length cg, .int .u8 (usedAll ags.length : Nat)].toArray 75 (0, 0)) :: .row 89 5 aA ags.length cg (ags.flatMap Ag.cells) :: [.blk b6 (.cells [.int .i64 0].toArray 35 (0, 0))]) (0, fun _ => none) ⟨by omega, fun f h => absurd h (by omega)⟩ sbn sbl ?_
  rintro ⟨k, os⟩ hk
  (try dsimp only at hk ⊢)
  refine cod_seq ?_
  refine cod_region ?_
  refine lst_int rfl rfl rfl bin_lss ?_
  refine lst_nil ?_
  refine ex_then ?_
  refine cod_seq ?_
  refine cod_cond_dec rfl (fun hc0 => ?_) (fun hc0 => ?_)
  · skip
    have hk64 : k < 64 := by omega
    refine cod_skip ?_
    refine ex_then ?_
    refine cod_seq ?_
    refine cod_block ?_
    refine cod_seq ?_
    refine cod_region ?_
    refine lst_move rfl rfl ?_
    refine lst_assign rfl rfl ?_
    refine lst_nil ?_
    refine ex_then ?_
    refine cod_seq ?_
    refine cod_region ?_
    refine lst_loadN rfl rfl F.agg75 F.ti75 ?_
    refine lst_move rfl rfl ?_
    refine lst_convert rfl rfl Tryd.underlying3 Tryd.underlying77 (wrap_u8 _ (by omega)) ?_
    refine lst_move rfl rfl ?_
    refine lst_call (X := Option Wk) (first := []) (cap := []) (vs := [_, _, _]) (p := FoundO ags (usedAll ags.length) 1 (-1) (k, 0, 0) (fun t => decide (nn t.1 p = 0))) (val := fun o => .tuple #[.slice (wayO o).A (wayO o).how.length (wayO o).c, .bool o.isSome]) (rs := fun o => .row 3 1 (wayO o).A (wayO o).how.length (wayO o).c (ints (wayO o).how) :: .blk b7 (.cells [.slice aA ags.length cg, .int .u8 (usedAll ags.length : Nat)].toArray 75 (0, 0)) :: .row 89 5 aA ags.length cg (ags.flatMap Ag.cells) :: [.blk b6 (.cells [.int .i64 0].toArray 35 (0, 0))]) rfl rfl rfl F.ent102 (fun a w ha => (shortest_c rfl hok hua ⟨hk64, show (0 : Nat) < 64 by omega, show (0 : Nat) < 64 by omega⟩ (by omega) (by simp) ha).mono (fun e w' h => by obtain ⟨o, h1, h2, h3⟩ := h; exact ⟨o, h1, h2, h3⟩)) ?_
    intro o hfo
    dsimp only
    refine lst_move rfl rfl ?_
    refine lst_extract rfl rfl rfl ?_
    refine lst_extract rfl rfl rfl ?_
    refine lst_assign rfl rfl ?_
    refine lst_assign rfl rfl ?_
    refine lst_nil ?_
    refine ex_then ?_
    refine cod_seq ?_
    refine cod_region ?_
    refine lst_cut1 7 33 (.bool (o.isSome && decide (((wayO o).how.length : Int) > ((farL os k).2 : Int)))) ?_ ?_
    · skip
      refine lst_move rfl rfl ?_
      refine lst_move rfl rfl ?_
      refine lst_split_bool (t := 28) rfl (fun hg28 => ?_) (fun hg28 => ?_)
      · skip
        refine lst_on rfl rfl ?_
        refine lst_move rfl rfl ?_
        refine lst_on rfl rfl ?_
        refine lst_len rfl rfl Tryd.underlying25 ?_
        refine lst_on rfl rfl ?_
        refine lst_move rfl rfl ?_
        refine lst_on rfl rfl ?_
        refine lst_int rfl rfl rfl bin_gtr ?_
        refine lst_pick_true rfl rfl rfl ?_
        refine lst_nil ?_
        exact ex_cut (.cons (by first | rfl | simp [look, *]) sbn) sbl
      · skip
        refine lst_off rfl rfl rfl ?_
        refine lst_off rfl rfl rfl ?_
        refine lst_off rfl rfl rfl ?_
        refine lst_off rfl rfl rfl ?_
        refine lst_pick_false rfl rfl rfl ?_
        refine lst_nil ?_
        exact ex_cut (.cons (by first | rfl | simp [look, *]) sbn) sbl
    refine lst_nil ?_
    refine ex_then ?_
    refine cod_cond_bool rfl (fun hc1 => ?_) (fun hc1 => ?_)
    · skip
      refine cod_region ?_
      refine lst_move rfl rfl ?_
      refine lst_move rfl rfl ?_
      refine lst_len rfl rfl Tryd.underlying25 ?_
      refine lst_assign rfl rfl ?_
      refine lst_assign rfl rfl ?_
      refine lst_nil ?_
      refine ex_block_normal ?_
      refine ex_then ?_
      refine cod_region ?_
      refine lst_int rfl rfl rfl (fun w => bin_add w (wrap_i64' _ (by omega) (by omega))) ?_
      refine lst_move rfl rfl ?_
      refine lst_nil ?_
      have hs := farL_yes os k o hc1
      refine ex_round (k + 1, upd os k o) ⟨by omega, far_found hk.2 hfo⟩ (by (try dsimp only); omega) (by dsimp only; rw [hs]; repeat (first | exact Sub.nil _ | refine Sub.cons rfl ?_)) (by (try dsimp only); repeat (first | exact List.Sublist.refl _ | exact List.nil_sublist _ | refine List.Sublist.cons_cons _ ?_ | refine List.Sublist.cons _ ?_))
    · skip
      refine cod_skip ?_
      refine ex_block_normal ?_
      refine ex_then ?_
      refine cod_region ?_
      refine lst_int rfl rfl rfl (fun w => bin_add w (wrap_i64' _ (by omega) (by omega))) ?_
      refine lst_move rfl rfl ?_
      refine lst_nil ?_
      have hs := farL_no os k o hc1
      refine ex_round (k + 1, upd os k o) ⟨by omega, far_found hk.2 hfo⟩ (by (try dsimp only); omega) (by dsimp only; rw [hs]; repeat (first | exact Sub.nil _ | refine Sub.cons rfl ?_)) (by (try dsimp only); repeat (first | exact List.Sublist.refl _ | exact List.nil_sublist _ | refine List.Sublist.cons_cons _ ?_ | refine List.Sublist.cons _ ?_))
  · skip
    refine cod_exit ?_
    refine ex_then_exit ?_
    refine ex_then_exit ?_
    refine ex_block_exit ?_
    refine ex_then ?_
    refine cod_seq ?_
    refine cod_region ?_
    refine lst_move rfl rfl ?_
    refine lst_move rfl rfl ?_
    refine lst_assign rfl rfl ?_
    refine lst_assign rfl rfl ?_
    refine lst_store rfl rfl F.ti35 rfl ?_
    refine lst_nil ?_
    refine ex_then ?_
    refine cod_ret ?_
    obtain rfl : k = 64 := by omega
    exact ex_ret_caught (fun a w ha => ⟨_, res_ttc (fn := Tryd.f54) ha rfl rfl rfl rfl F.one35, os, hk.2, rfl, ha.grown (List.nil_sublist _)⟩)

end Go.Proofs.YtofkhehcnfiopaaDoor.N
namespace Go.Proofs.YtofkhehcnfiopaaDoor.N
open Go Go.RowKit Go.Proofs
set_option linter.unusedSectionVars false
variable [I : Sys]
theorem F.ent95 : Enters Tryd.prog 95 := enters_of Tryd.func95 rfl (by kernel_rfl)
theorem F.ent96 : Enters Tryd.prog 96 := enters_of Tryd.func96 rfl (by kernel_rfl)
theorem F.ti111 : TI Tryd.prog 111 (.agg [.int .i64 0, .int .i64 0].toArray) 2 16 := TI.of (by kernel_rfl)
theorem along_ok {C : Ctx} {fr : List (Nat × Value)} {T : List Res} {a : Act} {w : World} (hC : C.P = Tryd.prog) {ags : List Ag} {used f cg wc : Nat} {aA wA : Option Addr} {way outs : List Nat} (hok : Oks ags) (hf : f < 64) (hwl : way.length ≤ 20) (hal : alongF ags f way = some outs) (hB : C.w0.heap.size = C.B) (hW : RdL ncell 1 C.w0 wA way) (hAg : Res.row 89 5 aA ags.length cg (ags.flatMap Ag.cells) ∈ T) (ha : At C fr (T) a w) : Calls C.P 95 #[.agg [.slice aA ags.length cg, .int .u8 (used : Int)].toArray, .int .u8 (f : Int), .slice wA way.length wc] w fun e w' => ∃ A' c', e = .returned (.tuple #[.slice A' outs.length c', .nilIface]) ∧ At C fr (.row 3 1 A' outs.length c' (ints outs) :: T) a w' := by
  obtain ⟨P, B, w0, N0, ds⟩ := C
  obtain rfl : P = Tryd.prog := hC
  refine enter_in (N := 52) [(0, .agg [.slice aA ags.length cg, .int .u8 (used : Int)].toArray), (1, .int .u8 (f : Int)), (2, .slice wA way.length wc)] ha Tryd.func95 rfl Tryd.ntmps95 rfl rfl ?_
  refine cod_seq ?_
  refine cod_region ?_
  refine lst_box rfl rfl ?_
  intro b3
  refine lst_assign rfl rfl ?_
  refine lst_assign rfl rfl ?_
  refine lst_nil ?_
  refine ex_then ?_
  refine cod_seq ?_
  refine cod_region ?_
  refine lst_assign rfl rfl ?_
  refine lst_nil ?_
  refine ex_then ?_
  refine cod_seq ?_
  refine cod_seq ?_
  refine cod_region ?_
  refine lst_move rfl rfl ?_
  refine lst_len rfl rfl Tryd.underlying25 ?_
  refine lst_move rfl rfl ?_
  refine lst_nil ?_
  refine ex_then ?_
  refine cod_block ?_
  refine cod_nil 3 1 ?_
  refine cod_loop' (G := Nat × Nat × Option Addr × Nat × List Nat) (fun g => g.1 ≤ way.length ∧ g.2.2.2.2.length = g.1 ∧ g.2.1 < 64 ∧ ∃ l2, alongF ags g.2.1 (way.drop g.1) = some l2 ∧ outs = g.2.2.2.2 ++ l2) (fun g => way.length - g.1) (fun g => [(3, .pointer (some ⟨b3, 0, none⟩)), (1, .int .u8 (g.2.1 : Int)), (8, .slice g.2.2.1 g.2.2.2.2.length g.2.2.2.1), (11, .slice wA way.length wc), (12, .int .i64 (way.length : Int)), (13, .int .i64 (g.1 : Int))]) (fun g => .row 3 1 g.2.2.1 g.2.2.2.2.length g.2.2.2.1 (ints g.2.2.2.2) :: .blk b3 (.cells [.slice aA ags.length cg, .int .u8 (used : Int)].toArray 75 (0, 0)) :: T) (0, f, none, 0, []) ⟨Nat.zero_le _, rfl, hf, outs, hal, rfl⟩ sbn pkk ?_
  rintro ⟨k, fk, A1, c1, l1⟩ ⟨hk, hl1, hfk, l2, hl2, hout⟩
  dsimp only at hk hl1 hfk hl2 ⊢
  refine cod_seq ?_
  refine cod_region ?_
  refine lst_int rfl rfl rfl bin_lss ?_
  refine lst_nil ?_
  refine ex_then ?_
  refine cod_seq ?_
  refine cod_cond_dec rfl (fun hc0 => ?_) (fun hc0 => ?_)
  · skip
    have hk' : k < way.length := by omega
    obtain ⟨b, o, rfl, hb, hcell⟩ := hW (by omega)
    obtain ⟨i, hwi⟩ : ∃ i, way[k]? = some i := ⟨_, List.getElem?_eq_getElem hk'⟩
    obtain ⟨hi', hmy, l3, hl3, rfl⟩ := alongF_step hwi hl2
    obtain ⟨gA, hgA⟩ := row_some (ha.own _ hAg) (show 0 < ags.length by omega)
    subst hgA
    obtain ⟨x, hx⟩ : ∃ x, ags[i]? = some x := ⟨_, List.getElem?_eq_getElem hi'⟩
    have hxo : x.ok := hok.2 x (List.mem_of_getElem? hx)
    have hxd : ags.getD i default = x := by rw [List.getD_eq_getElem?_getD, hx]; rfl
    rw [hxd] at hmy hl3 hout
    refine cod_skip ?_
    refine ex_then ?_
    refine cod_seq ?_
    refine cod_block ?_
    refine cod_seq ?_
    refine cod_region ?_
    refine lst_move rfl rfl ?_
    refine lst_index (j := k) rfl rfl rfl Tryd.underlying25 F.ti3 rfl hk' ?_
    refine lst_load_at (v := .int .i64 (i : Int)) rfl rfl F.one3 (fun a w ha => ha.old (hcell k i hwi 0 _ rfl) (Nat.lt_of_lt_of_le hb (Nat.le_of_eq hB))) ?_
    refine lst_assign rfl rfl ?_
    refine lst_assign rfl rfl ?_
    refine lst_nil ?_
    refine ex_then ?_
    refine cod_seq ?_
    refine cod_seq ?_
    refine cod_region ?_
    refine lst_move rfl rfl ?_
    refine lst_field_z rfl rfl F.fi75_0 F.ti72 ?_
    refine lst_load rfl rfl F.one72 ?_
    refine lst_len rfl rfl Tryd.underlying72 ?_
    refine lst_int rfl rfl rfl (fun w => bin_sub w (wrap_i64' _ (by omega) (by have := hok.1; omega))) ?_
    refine lst_fn0 (vs := [_, _, _]) rfl rfl F.ent99 (fun a w ha => outside_c (i : Int) 0 ((ags.length : Int) - 1) w) ?_
    refine lst_nil ?_
    refine ex_then ?_
    refine cod_cond_bool rfl (fun hc1 => ?_) (fun hc1 => ?_)
    · skip
      have : inB (i : Int) 0 ((ags.length : Int) - 1) = true := by rw [inB_true]; omega
      rw [this] at hc1; cases hc1 -- done
    · skip
      refine cod_skip ?_
      refine ex_then ?_
      refine cod_seq ?_
      refine cod_seq ?_
      refine cod_region ?_
      refine lst_field_z rfl rfl F.fi75_0 F.ti72 ?_
      refine lst_load rfl rfl F.one72 ?_
      refine lst_move rfl rfl ?_
      refine lst_index (j := i) rfl rfl rfl Tryd.underlying72 F.ti89 rfl hi' ?_
      refine lst_loadN_at (l := [.int .i64 (x.needs : Int), .int .i64 (x.no : Int), .int .i64 (x.takes : Int), .int .i64 (x.leaves : Int), .int .i64 (x.cost : Int)]) rfl rfl F.agg89 F.ti89 rfl (fun a w ha j u hu => row_at ha (e := 89) (n := ags.length) (c := cg) (cells := Ag.cells) (by simp [hAg]) (fun _ => rfl) hx hu) ?_
      refine lst_move rfl rfl ?_
      refine lst_fn0 (vs := [_, _]) rfl rfl F.ent85 (fun a w ha => may_c x fk hxo (by omega) w) ?_
      refine lst_not rfl rfl ?_
      refine lst_nil ?_
      refine ex_then ?_
      refine cod_cond_bool rfl (fun hc2 => ?_) (fun hc2 => ?_)
      · skip
        rw [hmy] at hc2; cases hc2 -- done
      · skip
        refine cod_skip ?_
        refine ex_then ?_
        refine cod_seq ?_
        refine cod_region ?_
        refine lst_field_z rfl rfl F.fi75_0 F.ti72 ?_
        refine lst_load rfl rfl F.one72 ?_
        refine lst_move rfl rfl ?_
        refine lst_index (j := i) rfl rfl rfl Tryd.underlying72 F.ti89 rfl hi' ?_
        refine lst_loadN_at (l := [.int .i64 (x.needs : Int), .int .i64 (x.no : Int), .int .i64 (x.takes : Int), .int .i64 (x.leaves : Int), .int .i64 (x.cost : Int)]) rfl rfl F.agg89 F.ti89 rfl (fun a w ha j u hu => row_at ha (e := 89) (n := ags.length) (c := cg) (cells := Ag.cells) (by simp [hAg]) (fun _ => rfl) hx hu) ?_
        refine lst_move rfl rfl ?_
        refine lst_fn0 (vs := [_, _]) rfl rfl F.ent91 (fun a w ha => put_c x fk hxo (by omega) w) ?_
        refine lst_assign rfl rfl ?_
        refine lst_nil ?_
        refine ex_then ?_
        refine cod_region ?_
        refine lst_move rfl rfl ?_
        refine lst_move rfl rfl ?_
        refine lst_convert rfl rfl Tryd.underlying77 Tryd.underlying3 (wrap_i64' _ (by omega) (by have := putN_lt hxo hfk; omega)) ?_
        refine lst_lit (vs := [(0, _)]) rfl rfl Tryd.underlying25 F.ti3 rfl rfl rfl ?_
        intro b48
        refine lst_append rfl rfl rfl Tryd.underlying25 F.ti3 rfl rfl rfl (by unfold maxLen; omega) (by omega) ?_
        intro A2 c2
        refine lst_assign rfl rfl ?_
        refine lst_nil ?_
        refine ex_block_normal ?_
        refine ex_then ?_
        refine cod_region ?_
        refine lst_int rfl rfl rfl (fun w => bin_add w (wrap_i64' _ (by omega) (by omega))) ?_
        refine lst_move rfl rfl ?_
        refine lst_nil ?_
        refine ex_round' (k + 1, putN x fk, A2, c2, l1 ++ [putN x fk]) ⟨by omega, by simp; omega, putN_lt hxo hfk, l3, hl3, by rw [hout, List.append_assoc]; rfl⟩ (by (try dsimp only); omega) (by dsimp only; rw [List.length_append, List.length_singleton]; repeat (first | exact Sub.nil _ | refine Sub.cons rfl ?_)) (by dsimp only; rw [List.length_append, List.length_singleton, ints_snoc]; repeat (first | exact Pck.nil _ | exact Pck.refl _ | (apply Pck.cons; focus ((repeat (first | exact Rem.here _ | apply Rem.there)); done)) | refine Pck.skip _ ?_))
  · skip
    refine cod_exit ?_
    refine ex_then_exit ?_
    refine ex_then_exit ?_
    refine ex_block_exit ?_
    refine ex_then ?_
    refine cod_seq ?_
    refine cod_region ?_
    refine lst_move rfl rfl ?_
    refine lst_assign rfl rfl ?_
    refine lst_assign rfl rfl ?_
    refine lst_nil ?_
    refine ex_then ?_
    refine cod_ret ?_
    obtain rfl : k = way.length := by omega
    rw [List.drop_length] at hl2
    obtain rfl : l2 = [] := (Option.some.inj hl2).symm
    rw [List.append_nil] at hout
    subst hout
    exact ex_ret rfl (fun a w ha => res_two rfl rfl rfl ha) (fun _ _ ha' => ⟨A1, c1, rfl, ha.back (ha'.pck pkk)⟩)

theorem as_nil (v : Value) (w : World) : Calls Tryd.prog 96 #[.nilIface, v] w fun e w' => e = .returned (.bool false) ∧ Grew w w' [] := by
  refine enter (N := 42) [(0, .nilIface), (1, v)] Tryd.func96 rfl Tryd.ntmps96 rfl rfl ?_
  refine cod_seq ?_
  refine cod_region ?_
  refine lst_assign rfl rfl ?_
  refine lst_nil ?_
  refine ex_then ?_
  refine cod_seq ?_
  refine cod_seq ?_
  refine cod_region ?_
  refine lst_move rfl rfl ?_
  refine lst_bin rfl rfl rfl (run_eql_nilIface Tryd.underlying107 _) ?_
  refine lst_nil ?_
  refine ex_then ?_
  refine cod_cond_true rfl ?_
  refine cod_seq ?_
  refine cod_region ?_
  refine lst_assign rfl rfl ?_
  refine lst_nil ?_
  refine ex_then ?_
  refine cod_ret ?_
  refine ex_then_ret ?_
  exact ex_ret rfl (fun a w ha => res_one rfl rfl ha) (fun a w ha => ⟨rfl, ha.grown (List.nil_sublist _)⟩)

theorem Put_ok (A : Option Addr) (c : Nat) (ags : List Ag) (hok : Oks ags) (wA : Option Addr) (wc f : Nat) (way outs : List Nat) (hf : f < 64) (hwl : way.length ≤ 20) (hal : alongF ags f way = some outs) (w : World) (hA : RdL Ag.cells 5 w A ags) (hW : RdL ncell 1 w wA way) : Calls Tryd.prog 40 #[.slice A ags.length c, .int .i64 (f : Int), .slice wA way.length wc] w fun e w' => ∃ A' c', e = .returned (.tuple #[.slice A' outs.length c', .int .i64 0]) ∧ Grew w w' [.row 3 1 A' outs.length c' (ints outs)] := by
  have hua : usedAll ags.length < 256 := by have := usedAll_lt hok.1; omega
  refine enter_defers (N := 32) [(0, .slice A ags.length c), (1, .int .i64 (f : Int)), (2, .slice wA way.length wc)] Tryd.func40 rfl Tryd.ntmps40 rfl rfl ?_
  refine cod_seq ?_
  refine cod_region ?_
  refine lst_assign rfl rfl ?_
  refine lst_alloc rfl F.ti35 ?_
  intro b7
  refine lst_nil ?_
  refine ex_then ?_
  refine cod_seq ?_
  refine cod_region ?_
  refine lst_defer (first := []) (cap := []) (vs := [_]) rfl rfl ?_
  refine lst_nil ?_
  refine ex_then ?_
  refine cod_seq ?_
  refine cod_region ?_
  refine lst_move rfl rfl ?_
  refine lst_fn (X := Option Addr × Nat) (vs := [_]) (p := fun _ => True) (val := fun x => .agg [.slice x.1 ags.length x.2, .int .u8 (usedAll ags.length : Nat)].toArray) (rs := fun x => [.row 89 5 x.1 ags.length x.2 (ags.flatMap Ag.cells)]) rfl rfl F.ent75 (fun a w ha => (begin_ok A c ags hok w (hA.later ha.below)).mono (fun e w' h => by obtain ⟨A', c', h1, h2⟩ := h; exact ⟨(A', c'), trivial, h1, h2⟩)) ?_
  rintro ⟨aA, cg⟩ -
  dsimp only [List.cons_append, List.nil_append]
  refine lst_alloc rfl F.ti75 ?_
  intro b8
  refine lst_store rfl rfl F.ti75 rfl ?_
  refine lst_nil ?_
  refine ex_then ?_
  refine cod_seq ?_
  refine cod_region ?_
  refine lst_move rfl rfl ?_
  refine lst_fn0 (vs := [_]) rfl rfl F.ent76 (fun a w ha => melt_ok f hf w) ?_
  refine lst_assign rfl rfl ?_
  refine lst_nil ?_
  refine ex_then ?_
  refine cod_seq ?_
  refine cod_seq ?_
  refine cod_region ?_
  refine lst_move rfl rfl ?_
  refine lst_len rfl rfl Tryd.underlying25 ?_
  refine lst_int rfl rfl rfl bin_gtr ?_
  refine lst_nil ?_
  refine ex_then ?_
  refine cod_cond_dec rfl (fun hc0 => ?_) (fun hc0 => ?_)
  · skip
    exact absurd hc0 (by omega) -- done
  · skip
    refine cod_skip ?_
    refine ex_then ?_
    refine cod_seq ?_
    refine cod_region ?_
    refine lst_loadN rfl rfl F.agg75 F.ti75 ?_
    refine lst_move rfl rfl ?_
    refine lst_move rfl rfl ?_
    refine lst_call (X := Option Addr × Nat) (first := []) (cap := []) (vs := [_, _, _]) (p := fun _ => True) (val := fun x => .tuple #[.slice x.1 outs.length x.2, .nilIface]) (rs := fun x => .row 3 1 x.1 outs.length x.2 (ints outs) :: .blk b8 (.cells [.slice aA ags.length cg, .int .u8 (usedAll ags.length : Nat)].toArray 75 (0, 0)) :: .row 89 5 aA ags.length cg (ags.flatMap Ag.cells) :: [.blk b7 (.cells [.int .i64 0].toArray 35 (0, 0))]) rfl rfl rfl F.ent95 (fun a w ha => (along_ok rfl hok hf hwl hal rfl hW (by simp) ha).mono (fun e w' h => by obtain ⟨A', c', h1, h2⟩ := h; exact ⟨(A', c'), trivial, h1, h2⟩)) ?_
    rintro ⟨A1, c1⟩ -
    dsimp only
    refine lst_move rfl rfl ?_
    refine lst_extract rfl rfl rfl ?_
    refine lst_extract rfl rfl rfl ?_
    refine lst_assign rfl rfl ?_
    refine lst_assign rfl rfl ?_
    refine lst_nil ?_
    refine ex_then ?_
    refine cod_seq ?_
    refine cod_region ?_
    refine lst_alloc rfl F.ti111 ?_
    intro b11
    refine lst_nil ?_
    refine ex_then ?_
    refine cod_seq ?_
    refine cod_seq ?_
    refine cod_region ?_
    refine lst_move rfl rfl ?_
    refine lst_makeInterface rfl rfl Tryd.underlying113 rfl ?_
    refine lst_fn0 (vs := [_, _]) rfl rfl F.ent96 (fun a w ha => as_nil _ w) ?_
    refine lst_nil ?_
    refine ex_then ?_
    refine cod_cond_false rfl ?_
    refine cod_skip ?_
    refine ex_then ?_
    refine cod_seq ?_
    refine cod_region ?_
    refine lst_move rfl rfl ?_
    refine lst_assign rfl rfl ?_
    refine lst_store rfl rfl F.ti35 rfl ?_
    refine lst_nil ?_
    refine ex_then ?_
    refine cod_ret ?_
    exact ex_ret_caught (fun a w ha => ⟨_, res_tc (fn := Tryd.f40) ha rfl rfl rfl F.one35, A1, c1, rfl, ha.grown sbl⟩)

end Go.Proofs.YtofkhehcnfiopaaDoor.N
namespace Go.Proofs.YtofkhehcnfiopaaDoor.N
open Go Go.RowKit Go.Proofs
set_option linter.unusedSectionVars false
variable [I : Sys]
theorem F.agg95 : aggB Tryd.prog 95 = true := by unfold aggB; rw [Tryd.underlying95]
theorem F.ent116 : Enters Tryd.prog 116 := enters_of Tryd.func116 rfl (by kernel_rfl)
theorem F.ent89 : Enters Tryd.prog 89 := enters_of Tryd.func89 rfl (by kernel_rfl)
theorem F.ent90 : Enters Tryd.prog 90 := enters_of Tryd.func90 rfl (by kernel_rfl)
theorem F.fi95_0 : FI Tryd.prog 95 0 3 0 := ⟨_, _, Tryd.underlying95, rfl, rfl, rfl⟩
theorem F.fi95_1 : FI Tryd.prog 95 1 3 1 := ⟨_, _, Tryd.underlying95, rfl, rfl, rfl⟩
theorem F.fi95_2 : FI Tryd.prog 95 2 4 2 := ⟨_, _, Tryd.underlying95, rfl, rfl, rfl⟩
theorem F.fi99_0 : FI Tryd.prog 99 0 96 0 := ⟨_, _, Tryd.underlying99, rfl, rfl, rfl⟩
theorem F.fi99_1 : FI Tryd.prog 99 1 97 1 := ⟨_, _, Tryd.underlying99, rfl, rfl, rfl⟩
theorem F.one4 : One Tryd.prog 4 := ⟨by unfold aggB; rw [Tryd.underlying4], by rw [Tryd.underlying4]; simp⟩
theorem F.one96 : One Tryd.prog 96 := ⟨by unfold aggB; rw [Tryd.underlying96], by rw [Tryd.underlying96]; simp⟩
theorem F.pl95 : Places Tryd.prog 95 [(0, 1), (1, 1), (2, 1)] := .inl ⟨_, Tryd.underlying95, by kernel_rfl⟩
theorem F.ti4 : TI Tryd.prog 4 (.bool false) 1 1 := TI.of (by kernel_rfl)
theorem F.ti95 : TI Tryd.prog 95 (.agg [.int .i64 0, .int .i64 0, .bool false].toArray) 3 24 := TI.of (by kernel_rfl)
theorem F.ti96 : TI Tryd.prog 96 (.nilFunc) 1 8 := TI.of (by kernel_rfl)
theorem F.ti97 : TI Tryd.prog 97 (.agg [.int .i64 0, .int .i64 0, .bool false, .int .i64 0, .int .i64 0, .bool false, .int .i64 0, .int .i64 0, .bool false, .int .i64 0, .int .i64 0, .bool false, .int .i64 0, .int .i64 0, .bool false, .int .i64 0, .int .i64 0, .bool false, .int .i64 0, .int .i64 0, .bool false, .int .i64 0, .int .i64 0, .bool false, .int .i64 0, .int .i64 0, .bool false, .int .i64 0, .int .i64 0, .bool false, .int .i64 0, .int .i64 0, .bool false, .int .i64 0, .int .i64 0, .bool false, .int .i64 0, .int .i64 0, .bool false, .int .i64 0, .int .i64 0, .bool false, .int .i64 0, .int .i64 0, .bool false, .int .i64 0, .int .i64 0, .bool false, .int .i64 0, .int .i64 0, .bool false, .int .i64 0, .int .i64 0, .bool false, .int .i64 0, .int .i64 0, .bool false, .int .i64 0, .int .i64 0, .bool false, .int .i64 0, .int .i64 0, .bool false, .int .i64 0, .int .i64 0, .bool false, .int .i64 0, .int .i64 0, .bool false, .int .i64 0, .int .i64 0, .bool false, .int .i64 0, .int .i64 0, .bool false, .int .i64 0, .int .i64 0, .bool false, .int .i64 0, .int .i64 0, .bool false, .int .i64 0, .int .i64 0, .bool false, .int .i64 0, .int .i64 0, .bool false, .int .i64 0, .int .i64 0, .bool false, .int .i64 0, .int .i64 0, .bool false, .int .i64 0, .int .i64 0, .bool false, .int .i64 0, .int .i64 0, .bool false, .int .i64 0, .int .i64 0, .bool false, .int .i64 0, .int .i64 0, .bool false, .int .i64 0, .int .i64 0, .bool false, .int .i64 0, .int .i64 0, .bool false, .int .i64 0, .int .i64 0, .bool false, .int .i64 0, .int .i64 0, .bool false, .int .i64 0, .int .i64 0, .bool false, .int .i64 0, .int .i64 0, .bool false, .int .i64 0, .int .i64 0, .bool false, .int .i64 0, .int .i64 0, .bool false, .int .i64 0, .int .i64 0, .bool false, .int .i64 0, .int .i64 0, .bool false, .int .i64 0, .int .i64 0, .bool false, .int .i64 0, .int .i64 0, .bool false, .int .i64 0, .int .i64 0, .bool false, .int .i64 0, .int .i64 0, .bool false, .int .i64 0, .int .i64 0, .bool false, .int .i64 0, .int .i64 0, .bool false, .int .i64 0, .int .i64 0, .bool false, .int .i64 0, .int .i64 0, .bool false, .int .i64 0, .int .i64 0, .bool false, .int .i64 0, .int .i64 0, .bool false, .int .i64 0, .int .i64 0, .bool false, .int .i64 0, .int .i64 0, .bool false, .int .i64 0, .int .i64 0, .bool false, .int .i64 0, .int .i64 0, .bool false, .int .i64 0, .int .i64 0, .bool false, .int .i64 0, .int .i64 0, .bool false, .int .i64 0, .int .i64 0, .bool false, .int .i64 0, .int .i64 0, .bool false, .int .i64 0, .int .i64 0, .bool false].toArray) 192 1536 := TI.of (by kernel_rfl)
theorem less_c (u v : Pr) (w : World) : Calls Tryd.prog 116 #[.agg [.int .i64 (u.cost : Int), .int .i64 (u.puts : Int), .bool u.known].toArray, .agg [.int .i64 (v.cost : Int), .int .i64 (v.puts : Int), .bool v.known].toArray] w fun e w' => e = .returned (.bool (lessP u v)) ∧ Grew w w' [] := by
  refine enter (N := 33) [(0, .agg [.int .i64 (u.cost : Int), .int .i64 (u.puts : Int), .bool u.known].toArray), (1, .agg [.int .i64 (v.cost : Int), .int .i64 (v.puts : Int), .bool v.known].toArray)] Tryd.func116 rfl Tryd.ntmps116 rfl rfl ?_
  refine cod_seq ?_
  refine cod_region ?_
  refine lst_box rfl rfl ?_
  intro b2
  refine lst_box rfl rfl ?_
  intro b3
  refine lst_assign rfl rfl ?_
  refine lst_nil ?_
  refine ex_then ?_
  refine cod_seq ?_
  refine cod_region ?_
  refine lst_cut1 28 32 (.bool (lessP u v)) ?_ ?_
  · skip
    refine lst_field_z rfl rfl F.fi95_2 F.ti4 ?_
    refine lst_load rfl rfl F.one4 ?_
    refine lst_move rfl rfl ?_
    refine lst_split_bool (t := 7) rfl (fun hg7 => ?_) (fun hg7 => ?_)
    · skip
      refine lst_on rfl rfl ?_
      refine lst_field_z rfl rfl F.fi95_2 F.ti4 ?_
      refine lst_on rfl rfl ?_
      refine lst_load rfl rfl F.one4 ?_
      refine lst_on rfl rfl ?_
      refine lst_not rfl rfl ?_
      refine lst_on rfl rfl ?_
      refine lst_move rfl rfl ?_
      refine lst_split_bool (t := 11) rfl (fun hg11 => ?_) (fun hg11 => ?_)
      · skip
        refine lst_off rfl rfl rfl ?_
        refine lst_off rfl rfl rfl ?_
        refine lst_off rfl rfl rfl ?_
        refine lst_off rfl rfl rfl ?_
        refine lst_off rfl rfl rfl ?_
        refine lst_on rfl rfl ?_
        refine lst_pick_true rfl rfl rfl ?_
        refine lst_on rfl rfl ?_
        refine lst_move rfl rfl ?_
        refine lst_split_bool (t := 18) rfl (fun hg18 => ?_) (fun hg18 => ?_)
        · skip
          refine lst_off rfl rfl rfl ?_
          refine lst_off rfl rfl rfl ?_
          refine lst_off rfl rfl rfl ?_
          refine lst_off rfl rfl rfl ?_
          refine lst_off rfl rfl rfl ?_
          refine lst_off rfl rfl rfl ?_
          refine lst_offu rfl rfl rfl ?_
          refine lst_offu rfl rfl rfl ?_
          refine lst_offu rfl rfl rfl ?_
          refine lst_offu rfl rfl rfl ?_
          refine lst_offu rfl rfl rfl ?_
          refine lst_off rfl rfl rfl ?_
          refine lst_on rfl rfl ?_
          refine lst_pick_true rfl rfl rfl ?_
          refine lst_pick_true rfl rfl rfl ?_
          refine lst_nil ?_
          exact ex_cut (.cons (by simp_all [look, lessP] <;> (try rw [Bool.eq_iff_iff]) <;> (try simp) <;> omega) sbn) sbl
        · skip
          refine lst_on rfl rfl ?_
          refine lst_field_z rfl rfl F.fi95_0 F.ti3 ?_
          refine lst_on rfl rfl ?_
          refine lst_load rfl rfl F.one3 ?_
          refine lst_on rfl rfl ?_
          refine lst_field_z rfl rfl F.fi95_0 F.ti3 ?_
          refine lst_on rfl rfl ?_
          refine lst_load rfl rfl F.one3 ?_
          refine lst_on rfl rfl ?_
          refine lst_int rfl rfl rfl bin_eql ?_
          refine lst_on rfl rfl ?_
          refine lst_move rfl rfl ?_
          refine lst_split (t := 24) rfl (fun hg24 => ?_) (fun hg24 => ?_)
          · skip
            refine lst_on rfl rfl ?_
            refine lst_field_z rfl rfl F.fi95_1 F.ti3 ?_
            refine lst_on rfl rfl ?_
            refine lst_load rfl rfl F.one3 ?_
            refine lst_on rfl rfl ?_
            refine lst_field_z rfl rfl F.fi95_1 F.ti3 ?_
            refine lst_on rfl rfl ?_
            refine lst_load rfl rfl F.one3 ?_
            refine lst_on rfl rfl ?_
            refine lst_int rfl rfl rfl bin_lss ?_
            refine lst_on rfl rfl ?_
            refine lst_pick_true rfl rfl rfl ?_
            refine lst_on rfl rfl ?_
            refine lst_pick_false rfl rfl rfl ?_
            refine lst_pick_true rfl rfl rfl ?_
            refine lst_nil ?_
            exact ex_cut (.cons (by simp_all [look, lessP] <;> (try rw [Bool.eq_iff_iff]) <;> (try simp) <;> omega) sbn) sbl
          · skip
            refine lst_off rfl rfl rfl ?_
            refine lst_off rfl rfl rfl ?_
            refine lst_off rfl rfl rfl ?_
            refine lst_off rfl rfl rfl ?_
            refine lst_off rfl rfl rfl ?_
            refine lst_on rfl rfl ?_
            refine lst_pick_false rfl rfl rfl ?_
            refine lst_on rfl rfl ?_
            refine lst_pick_false rfl rfl rfl ?_
            refine lst_pick_true rfl rfl rfl ?_
            refine lst_nil ?_
            exact ex_cut (.cons (by simp_all [look, lessP] <;> (try rw [Bool.eq_iff_iff]) <;> (try simp) <;> omega) sbn) sbl
      · skip
        refine lst_on rfl rfl ?_
        refine lst_field_z rfl rfl F.fi95_0 F.ti3 ?_
        refine lst_on rfl rfl ?_
        refine lst_load rfl rfl F.one3 ?_
        refine lst_on rfl rfl ?_
        refine lst_field_z rfl rfl F.fi95_0 F.ti3 ?_
        refine lst_on rfl rfl ?_
        refine lst_load rfl rfl F.one3 ?_
        refine lst_on rfl rfl ?_
        refine lst_int rfl rfl rfl bin_lss ?_
        refine lst_on rfl rfl ?_
        refine lst_pick_false rfl rfl rfl ?_
        refine lst_on rfl rfl ?_
        refine lst_move rfl rfl ?_
        refine lst_split_bool (t := 18) rfl (fun hg18 => ?_) (fun hg18 => ?_)
        · skip
          refine lst_off rfl rfl rfl ?_
          refine lst_off rfl rfl rfl ?_
          refine lst_off rfl rfl rfl ?_
          refine lst_off rfl rfl rfl ?_
          refine lst_off rfl rfl rfl ?_
          refine lst_off rfl rfl rfl ?_
          refine lst_offu rfl rfl rfl ?_
          refine lst_offu rfl rfl rfl ?_
          refine lst_offu rfl rfl rfl ?_
          refine lst_offu rfl rfl rfl ?_
          refine lst_offu rfl rfl rfl ?_
          refine lst_off rfl rfl rfl ?_
          refine lst_on rfl rfl ?_
          refine lst_pick_true rfl rfl rfl ?_
          refine lst_pick_true rfl rfl rfl ?_
          refine lst_nil ?_
          exact ex_cut (.cons (by simp_all [look, lessP] <;> (try rw [Bool.eq_iff_iff]) <;> (try simp) <;> omega) sbn) sbl
        · skip
          refine lst_on rfl rfl ?_
          refine lst_field_z rfl rfl F.fi95_0 F.ti3 ?_
          refine lst_on rfl rfl ?_
          refine lst_load rfl rfl F.one3 ?_
          refine lst_on rfl rfl ?_
          refine lst_field_z rfl rfl F.fi95_0 F.ti3 ?_
          refine lst_on rfl rfl ?_
          refine lst_load rfl rfl F.one3 ?_
          refine lst_on rfl rfl ?_
          refine lst_int rfl rfl rfl bin_eql ?_
          refine lst_on rfl rfl ?_
          refine lst_move rfl rfl ?_
          refine lst_split (t := 24) rfl (fun hg24 => ?_) (fun hg24 => ?_)
          · skip
            refine lst_on rfl rfl ?_
            refine lst_field_z rfl rfl F.fi95_1 F.ti3 ?_
            refine lst_on rfl rfl ?_
            refine lst_load rfl rfl F.one3 ?_
            refine lst_on rfl rfl ?_
            refine lst_field_z rfl rfl F.fi95_1 F.ti3 ?_
            refine lst_on rfl rfl ?_
            refine lst_load rfl rfl F.one3 ?_
            refine lst_on rfl rfl ?_
            refine lst_int rfl rfl rfl bin_lss ?_
            refine lst_on rfl rfl ?_
            refine lst_pick_true rfl rfl rfl ?_
            refine lst_on rfl rfl ?_
            refine lst_pick_false rfl rfl rfl ?_
            refine lst_pick_true rfl rfl rfl ?_
            refine lst_nil ?_
            exact ex_cut (.cons (by simp_all [look, lessP] <;> (try rw [Bool.eq_iff_iff]) <;> (try simp) <;> omega) sbn) sbl
          · skip
            refine lst_off rfl rfl rfl ?_
            refine lst_off rfl rfl rfl ?_
            refine lst_off rfl rfl rfl ?_
            refine lst_off rfl rfl rfl ?_
            refine lst_off rfl rfl rfl ?_
            refine lst_on rfl rfl ?_
            refine lst_pick_false rfl rfl rfl ?_
            refine lst_on rfl rfl ?_
            refine lst_pick_false rfl rfl rfl ?_
            refine lst_pick_true rfl rfl rfl ?_
            refine lst_nil ?_
            exact ex_cut (.cons (by simp_all [look, lessP] <;> (try rw [Bool.eq_iff_iff]) <;> (try simp) <;> omega) sbn) sbl
    · skip
      refine lst_off rfl rfl rfl ?_
      refine lst_off rfl rfl rfl ?_
      refine lst_off rfl rfl rfl ?_
      refine lst_off rfl rfl rfl ?_
      refine lst_offu rfl rfl rfl ?_
      refine lst_offu rfl rfl rfl ?_
      refine lst_offu rfl rfl rfl ?_
      refine lst_offu rfl rfl rfl ?_
      refine lst_offu rfl rfl rfl ?_
      refine lst_off rfl rfl rfl ?_
      refine lst_off rfl rfl rfl ?_
      refine lst_offu rfl rfl rfl ?_
      refine lst_offu rfl rfl rfl ?_
      refine lst_offu rfl rfl rfl ?_
      refine lst_offu rfl rfl rfl ?_
      refine lst_offu rfl rfl rfl ?_
      refine lst_offu rfl rfl rfl ?_
      refine lst_offu rfl rfl rfl ?_
      refine lst_offu rfl rfl rfl ?_
      refine lst_offu rfl rfl rfl ?_
      refine lst_offu rfl rfl rfl ?_
      refine lst_offu rfl rfl rfl ?_
      refine lst_offu rfl rfl rfl ?_
      refine lst_off rfl rfl rfl ?_
      refine lst_pick_false rfl rfl rfl ?_
      refine lst_nil ?_
      exact ex_cut (.cons (by simp_all [look, lessP] <;> (try rw [Bool.eq_iff_iff]) <;> (try simp) <;> omega) sbn) sbl
  refine lst_assign rfl rfl ?_
  refine lst_nil ?_
  refine ex_then ?_
  refine cod_ret ?_
  refine ex_ret rfl (fun a w ha => res_one rfl rfl ha) (fun a w ha => ?_)
  exact ⟨by rfl, ha.grown (List.nil_sublist _)⟩

theorem after_c {C : Ctx} {fr : List (Nat × Value)} {T : List Res} {a : Act} {w : World} (hC : C.P = Tryd.prog) {bm f m : Nat} {fn : Value} {ps : List Pr} {x : Ag} (hxo : x.ok) (hf : f < 64) (hps : Bd ps m) (hm : m ≤ 100000000) (ha : At C fr (.blk bm (.cells (mcells fn ps).toArray 99 (0, 0)) :: T) a w) : Calls C.P 90 #[.pointer (some ⟨bm, 0, none⟩), .agg [.int .i64 (x.needs : Int), .int .i64 (x.no : Int), .int .i64 (x.takes : Int), .int .i64 (x.leaves : Int), .int .i64 (x.cost : Int)].toArray, .int .u8 (f : Int)] w fun e w' => e = .returned (.agg [.int .i64 ((afterP ps x f).cost : Int), .int .i64 ((afterP ps x f).puts : Int), .bool (afterP ps x f).known].toArray) ∧ At C fr (.blk bm (.cells (mcells fn ps).toArray 99 (0, 0)) :: T) a w' := by
  have hp64 : putN x f < 64 := putN_lt hxo hf
  obtain ⟨q, hq⟩ : ∃ q, ps[putN x f]? = some q := ⟨_, List.getElem?_eq_getElem (by rw [hps.1]; exact hp64)⟩
  have hqd : ps.getD (putN x f) default = q := by rw [List.getD_eq_getElem?_getD, hq]; rfl
  have hqb := hps.2 q (List.mem_of_getElem? hq)
  have hxc := hxo.cost
  have haf : afterP ps x f = ⟨q.cost + x.cost, q.puts + 1, q.known⟩ := by unfold afterP; rw [hqd]
  obtain ⟨P, B, w0, N0, ds⟩ := C
  obtain rfl : P = Tryd.prog := hC
  refine enter_in (N := 28) [(0, .pointer (some ⟨bm, 0, none⟩)), (1, .agg [.int .i64 (x.needs : Int), .int .i64 (x.no : Int), .int .i64 (x.takes : Int), .int .i64 (x.leaves : Int), .int .i64 (x.cost : Int)].toArray), (2, .int .u8 (f : Int))] ha Tryd.func90 rfl Tryd.ntmps90 rfl rfl ?_
  refine cod_seq ?_
  refine cod_region ?_
  refine lst_box rfl rfl ?_
  intro b4
  refine lst_alloc rfl F.ti95 ?_
  intro b6
  refine lst_nil ?_
  refine ex_then ?_
  refine cod_seq ?_
  refine any_begin [] F.follows 10 rfl [false, false, false, false, false, false, false, false, false, false] rfl ?_
  refine any_tk 0 rfl rfl rfl (yld_move rfl) ?_
  refine any_tk 1 rfl rfl rfl (yld_loadN rfl F.agg89 F.ti89) ?_
  refine any_tk 2 rfl rfl rfl (yld_move rfl) ?_
  refine any_tk 4 rfl rfl rfl (yld_nilCheck rfl) ?_
  refine any_tk 5 rfl rfl rfl (yld_field_z rfl F.fi99_1 F.ti97) ?_
  refine any_two 3 8 (by kernel_rfl) rfl rfl rfl rfl ?_ ?_
  · skip
    refine lst_fn0 (vs := [_, _]) rfl rfl F.ent91 (fun a w ha => put_c x f hxo (by omega) w) ?_
    refine lst_nil ?_
    refine any_next sbl ?_
    refine any_tk 6 rfl rfl rfl (yld_index_arr (j := putN x f) rfl rfl Tryd.underlying97 F.ti95 rfl hp64) ?_
    refine any_tk 7 rfl rfl rfl (yld_loadN_at (l := [.int .i64 (q.cost : Int), .int .i64 (q.puts : Int), .bool q.known]) rfl F.agg95 F.ti95 rfl (fun a w ha j u hu => cell_of_blk (ha.mem_blk (InB.mem (b := bm))) (mcells_get fn ps hq hu))) ?_
    refine any_one 8 (by kernel_rfl) rfl rfl ?_
    refine lst_alloc rfl F.ti95 ?_
    intro b7
    refine lst_nil ?_
    refine any_next sbl ?_
    refine any_one 9 (by kernel_rfl) rfl rfl ?_
    refine lst_store rfl rfl F.ti95 rfl ?_
    refine lst_nil ?_
    refine any_next sbl ?_
    refine any_done rfl (by kernel_rfl) ?_
    refine ex_then ?_
    refine cod_seq ?_
    refine cod_region ?_
    refine lst_field_z rfl rfl F.fi95_0 F.ti3 ?_
    refine lst_load rfl rfl F.one3 ?_
    refine lst_field_z rfl rfl F.fi89_0 F.ti24 ?_
    refine lst_field_z rfl rfl F.fi24_4 F.ti3 ?_
    refine lst_load rfl rfl F.one3 ?_
    refine lst_int rfl rfl rfl (fun w => bin_add w (wrap_i64' _ (by omega) (by omega))) ?_
    refine lst_field_z rfl rfl F.fi95_1 F.ti3 ?_
    refine lst_load rfl rfl F.one3 ?_
    refine lst_int rfl rfl rfl (fun w => bin_add w (wrap_i64' _ (by omega) (by omega))) ?_
    refine lst_field_z rfl rfl F.fi95_2 F.ti4 ?_
    refine lst_load rfl rfl F.one4 ?_
    refine lst_struct (vs := [(0, _), (1, _), (2, _)]) (l' := [_, _, _]) rfl rfl F.ti95 F.pl95 (.cons rfl rfl (.cons rfl rfl (.cons rfl rfl (.nil _)))) rfl ?_
    refine lst_store rfl rfl F.ti95 rfl ?_
    refine lst_nil ?_
    refine ex_then ?_
    refine cod_ret ?_
    exact ex_ret rfl (fun a w ha => by exact res_cellN (ha := ha) rfl rfl F.agg95 F.ti95 rfl) (fun _ _ ha' => ⟨by rw [haf]; simp, ha.back (ha'.pck pkk)⟩)
  · skip
    refine lst_alloc rfl F.ti95 ?_
    intro b7
    refine lst_nil ?_
    refine any_next sbl ?_
    refine any_one 3 (by kernel_rfl) rfl rfl ?_
    refine lst_fn0 (vs := [_, _]) rfl rfl F.ent91 (fun a w ha => put_c x f hxo (by omega) w) ?_
    refine lst_nil ?_
    refine any_next sbl ?_
    refine any_tk 6 rfl rfl rfl (yld_index_arr (j := putN x f) rfl rfl Tryd.underlying97 F.ti95 rfl hp64) ?_
    refine any_tk 7 rfl rfl rfl (yld_loadN_at (l := [.int .i64 (q.cost : Int), .int .i64 (q.puts : Int), .bool q.known]) rfl F.agg95 F.ti95 rfl (fun a w ha j u hu => cell_of_blk (ha.mem_blk (InB.mem (b := bm))) (mcells_get fn ps hq hu))) ?_
    refine any_one 9 (by kernel_rfl) rfl rfl ?_
    refine lst_store rfl rfl F.ti95 rfl ?_
    refine lst_nil ?_
    refine any_next sbl ?_
    refine any_done rfl (by kernel_rfl) ?_
    refine ex_then ?_
    refine cod_seq ?_
    refine cod_region ?_
    refine lst_field_z rfl rfl F.fi95_0 F.ti3 ?_
    refine lst_load rfl rfl F.one3 ?_
    refine lst_field_z rfl rfl F.fi89_0 F.ti24 ?_
    refine lst_field_z rfl rfl F.fi24_4 F.ti3 ?_
    refine lst_load rfl rfl F.one3 ?_
    refine lst_int rfl rfl rfl (fun w => bin_add w (wrap_i64' _ (by omega) (by omega))) ?_
    refine lst_field_z rfl rfl F.fi95_1 F.ti3 ?_
    refine lst_load rfl rfl F.one3 ?_
    refine lst_int rfl rfl rfl (fun w => bin_add w (wrap_i64' _ (by omega) (by omega))) ?_
    refine lst_field_z rfl rfl F.fi95_2 F.ti4 ?_
    refine lst_load rfl rfl F.one4 ?_
    refine lst_struct (vs := [(0, _), (1, _), (2, _)]) (l' := [_, _, _]) rfl rfl F.ti95 F.pl95 (.cons rfl rfl (.cons rfl rfl (.cons rfl rfl (.nil _)))) rfl ?_
    refine lst_store rfl rfl F.ti95 rfl ?_
    refine lst_nil ?_
    refine ex_then ?_
    refine cod_ret ?_
    exact ex_ret rfl (fun a w ha => by exact res_cellN (ha := ha) rfl rfl F.agg95 F.ti95 rfl) (fun _ _ ha' => ⟨by rw [haf]; simp, ha.back (ha'.pck pkk)⟩)

theorem prices_c {C : Ctx} {fr : List (Nat × Value)} {T : List Res} {a : Act} {w : World} (hC : C.P = Tryd.prog) {ags : List Ag} {used p cg N : Nat} {aA : Option Addr} (hok : Oks ags) (hu : used < 256) (hp : p < 64) (hN64 : N ≤ 1000) (hN : (roundP ags used (iterP ags used p N) 64).2 = false) (hAg : Res.row 89 5 aA ags.length cg (ags.flatMap Ag.cells) ∈ T) (ha : At C fr (T) a w) : Calls C.P 88 #[.agg [.slice aA ags.length cg, .int .u8 (used : Int)].toArray, .int .u8 (p : Int)] w fun e w' => ∃ j b, j ≤ N ∧ (roundP ags used (iterP ags used p j) 64).2 = false ∧ e = .returned (.pointer (some ⟨b, 0, none⟩)) ∧ At C fr (.blk b (.cells (mcells (.func (.func 116) #[] #[]) (iterP ags used p (j + 1))).toArray 99 (0, 0)) :: T) a w' := by
  obtain ⟨P, B, w0, N0, ds⟩ := C
  obtain rfl : P = Tryd.prog := hC
  refine enter_in (N := 71) [(0, .agg [.slice aA ags.length cg, .int .u8 (used : Int)].toArray), (1, .int .u8 (p : Int))] ha Tryd.func88 rfl Tryd.ntmps88 rfl rfl ?_
  refine cod_seq ?_
  refine cod_region ?_
  refine lst_box rfl rfl ?_
  intro b2
  refine lst_assign rfl rfl ?_
  refine lst_nil ?_
  refine ex_then ?_
  refine cod_scope_jumps 0 (G := Nat × Nat) (fun g => g.1 ≤ N) (fun g => N - g.1) (fun g => [(1, .int .u8 (p : Int)), (2, .pointer (some ⟨b2, 0, none⟩)), (5, .pointer (some ⟨g.2, 0, none⟩))]) (fun g => .blk g.2 (.cells (mcells (.func (.func 116) #[] #[]) (iterP ags used p g.1)).toArray 99 (0, 0)) :: .blk b2 (.cells [.slice aA ags.length cg, .int .u8 (used : Int)].toArray 75 (0, 0)) :: T) rfl ?_ ?_
  · skip
    refine cod_seq ?_
    refine cod_region ?_
    refine lst_build (vs := [(0, _)]) (l := mcells (.func (.func 116) #[] #[]) (initP p 0)) rfl rfl (fun w => Go.run_build w 99 _ _ (by kernel_rfl)) ?_
    refine lst_box (l := mcells (.func (.func 116) #[] #[]) (initP p 0)) (hl := mcells_box _ rfl _) rfl rfl ?_
    intro b13
    refine lst_assign rfl rfl ?_
    refine lst_nil ?_
    refine ex_then ?_
    refine cod_seq ?_
    refine cod_seq ?_
    refine cod_region ?_
    refine lst_move rfl rfl ?_
    refine lst_nil ?_
    refine ex_then ?_
    refine cod_block ?_
    refine cod_loop (G := Nat) (fun k => k ≤ 64) (fun k => 64 - k) (fun k => [(1, .int .u8 (p : Int)), (2, .pointer (some ⟨b2, 0, none⟩)), (5, .pointer (some ⟨b13, 0, none⟩)), (14, .int .i64 (k : Int))]) (fun k => .blk b13 (.cells (mcells (.func (.func 116) #[] #[]) (initP p k)).toArray 99 (0, 0)) :: .blk b2 (.cells [.slice aA ags.length cg, .int .u8 (used : Int)].toArray 75 (0, 0)) :: T) 0 (Nat.zero_le _) sbn sbl ?_
    intro k hk
    (try dsimp only at hk ⊢)
    refine cod_seq ?_
    refine cod_region ?_
    refine lst_int rfl rfl rfl bin_lss ?_
    refine lst_nil ?_
    refine ex_then ?_
    refine cod_seq ?_
    refine cod_cond_dec rfl (fun hc0 => ?_) (fun hc0 => ?_)
    · skip
      have hk64 : k < 64 := by omega
      refine cod_skip ?_
      refine ex_then ?_
      refine cod_seq ?_
      refine cod_block ?_
      refine cod_seq ?_
      refine cod_region ?_
      refine lst_move rfl rfl ?_
      refine lst_assign rfl rfl ?_
      refine lst_nil ?_
      refine ex_then ?_
      refine any_begin [.b b13] F.follows 11 rfl [false, false, false, false, false, false, false, false, false, false, false] rfl ?_
      refine any_tk 0 rfl rfl rfl (yld_move rfl) ?_
      refine any_tk 1 rfl rfl rfl (yld_move rfl) ?_
      refine any_tk 2 rfl rfl rfl (yld_move rfl) ?_
      refine any_tk 3 rfl rfl rfl (yld_convert rfl Tryd.underlying3 Tryd.underlying77 (wrap_u8 _ (by omega))) ?_
      refine any_tk 4 rfl rfl rfl (yld_move rfl) ?_
      refine any_tk 6 rfl rfl rfl (yld_nilCheck rfl) ?_
      refine any_tk 7 rfl rfl rfl (yld_field_z rfl F.fi99_1 F.ti97) ?_
      refine any_one 5 (by kernel_rfl) rfl rfl ?_
      refine lst_fn0 (vs := [_, _]) rfl rfl F.ent81 (fun a w ha => clear_c k p (by omega) (by omega) w) ?_
      refine lst_nil ?_
      refine any_next sbl ?_
      refine any_tk 8 rfl rfl rfl (yld_index_arr (j := _) rfl rfl Tryd.underlying97 F.ti95 rfl (by omega)) ?_
      refine any_tk 9 rfl rfl rfl (yld_field rfl F.fi95_2 F.ti4) ?_
      refine any_one 10 (by kernel_rfl) rfl rfl ?_
      refine lst_store_any rfl rfl F.ti4 (by rw [mcells_len, (Bd.init p k).1]; omega) (show mcells (.func (.func 116) #[] #[]) (initP p (k + 1)) = _ from by rw [← initP_set p hk64]; exact mcells_known (.func (.func 116) #[] #[]) (initP p k) (initP_get p hk64) _) UpB.upd ?_
      refine lst_nil ?_
      refine any_next sbl ?_
      refine any_done rfl (by kernel_rfl) ?_
      refine ex_block_normal ?_
      refine ex_then ?_
      refine cod_region ?_
      refine lst_int rfl rfl rfl (fun w => bin_add w (wrap_i64' _ (by omega) (by omega))) ?_
      refine lst_move rfl rfl ?_
      refine lst_nil ?_
      refine ex_round (k + 1) (by omega) (by (try dsimp only); omega) sbn sbl
    · skip
      refine cod_exit ?_
      refine ex_then_exit ?_
      refine ex_then_exit ?_
      refine ex_block_exit ?_
      refine ex_then ?_
      refine cod_seq ?_
      refine cod_label ?_
      refine ex_then ?_
      refine cod_seq ?_
      refine cod_region ?_
      obtain rfl : k = 64 := by omega
      obtain ⟨j, hj⟩ : ∃ j, j = 0 := ⟨0, rfl⟩
      have hjN : j ≤ N := by omega
      rw [show initP p 64 = iterP ags used p j from by rw [hj]; rfl]
      refine lst_assign rfl rfl ?_
      refine lst_nil ?_
      refine ex_then ?_
      refine cod_seq ?_
      refine cod_seq ?_
      refine cod_region ?_
      refine lst_move rfl rfl ?_
      refine lst_nil ?_
      refine ex_then ?_
      refine cod_block ?_
      refine cod_loop (G := Nat) (fun k => k ≤ 64) (fun k => 64 - k) (fun k => [(1, .int .u8 (p : Int)), (2, .pointer (some ⟨b2, 0, none⟩)), (5, .pointer (some ⟨b13, 0, none⟩)), (7, .bool (roundP ags used (iterP ags used p j) k).2), (28, .int .i64 (k : Int))]) (fun k => .blk b13 (.cells (mcells (.func (.func 116) #[] #[]) (roundP ags used (iterP ags used p j) k).1).toArray 99 (0, 0)) :: .blk b2 (.cells [.slice aA ags.length cg, .int .u8 (used : Int)].toArray 75 (0, 0)) :: T) 0 (Nat.zero_le _) sbn sbl ?_
      intro k hk
      (try dsimp only at hk ⊢)
      refine cod_seq ?_
      refine cod_region ?_
      refine lst_int rfl rfl rfl bin_lss ?_
      refine lst_nil ?_
      refine ex_then ?_
      refine cod_seq ?_
      refine cod_cond_dec rfl (fun hc1 => ?_) (fun hc1 => ?_)
      · skip
        have hk64 : k < 64 := by omega
        refine cod_skip ?_
        refine ex_then ?_
        refine cod_seq ?_
        refine cod_block ?_
        refine cod_seq ?_
        refine cod_region ?_
        refine lst_move rfl rfl ?_
        refine lst_assign rfl rfl ?_
        refine lst_nil ?_
        refine ex_then ?_
        refine cod_seq ?_
        refine cod_region ?_
        refine lst_loadN rfl rfl F.agg75 F.ti75 ?_
        refine lst_move rfl rfl ?_
        refine lst_convert rfl rfl Tryd.underlying3 Tryd.underlying77 (wrap_u8 _ (by omega)) ?_
        refine lst_fn (X := Option Addr × Nat) (vs := [_, _]) (p := fun _ => True) (val := fun x => .slice x.1 (canTo ags used k ags.length).length x.2) (rs := fun x => [.row 3 1 x.1 (canTo ags used k ags.length).length x.2 (ints (canTo ags used k ags.length))]) rfl rfl F.ent89 (fun a w ha => (can_c aA cg ags used k hok hu (by omega) w (row_reads ha (cells := Ag.cells) (e := 89) (c := cg) (n := ags.length) (fun _ => rfl) (by simp [hAg]) rfl)).mono (fun e w' h => by obtain ⟨A', c', h1, h2⟩ := h; exact ⟨(A', c'), trivial, h1, h2⟩)) ?_
        rintro ⟨cA, cc⟩ -
        dsimp only [List.cons_append, List.nil_append]
        refine lst_len rfl rfl Tryd.underlying25 ?_
        refine lst_move rfl rfl ?_
        refine lst_nil ?_
        refine ex_then ?_
        refine cod_block ?_
        refine cod_loop (G := Nat) (fun t => t ≤ (canTo ags used k ags.length).length) (fun t => (canTo ags used k ags.length).length - t) (fun t => [(1, .int .u8 (p : Int)), (2, .pointer (some ⟨b2, 0, none⟩)), (5, .pointer (some ⟨b13, 0, none⟩)), (7, .bool (relaxF ags k (roundP ags used (iterP ags used p j) k) ((canTo ags used k ags.length).take t)).2), (28, .int .i64 (k : Int)), (8, .int .i64 (k : Int)), (34, .slice cA (canTo ags used k ags.length).length cc), (35, .int .i64 ((canTo ags used k ags.length).length : Int)), (36, .int .i64 (t : Int))]) (fun t => .row 3 1 cA (canTo ags used k ags.length).length cc (ints (canTo ags used k ags.length)) :: .blk b13 (.cells (mcells (.func (.func 116) #[] #[]) (relaxF ags k (roundP ags used (iterP ags used p j) k) ((canTo ags used k ags.length).take t)).1).toArray 99 (0, 0)) :: .blk b2 (.cells [.slice aA ags.length cg, .int .u8 (used : Int)].toArray 75 (0, 0)) :: T) 0 (Nat.zero_le _) sbn sbl ?_
        intro t ht
        (try dsimp only at hk ⊢)
        refine cod_seq ?_
        refine cod_region ?_
        refine lst_int rfl rfl rfl bin_lss ?_
        refine lst_nil ?_
        refine ex_then ?_
        refine cod_seq ?_
        refine cod_cond_dec rfl (fun hc2 => ?_) (fun hc2 => ?_)
        · skip
          have ht' : t < (canTo ags used k ags.length).length := by omega
          have hcl := canTo_len ags used k ags.length
          have hol := hok.1
          obtain ⟨i, hci⟩ : ∃ i, (canTo ags used k ags.length)[t]? = some i := ⟨_, List.getElem?_eq_getElem ht'⟩
          obtain ⟨hi', _, _⟩ := canTo_mem (List.mem_of_getElem? hci)
          obtain ⟨gA, hgA⟩ := row_some (ha.own _ hAg) (show 0 < ags.length by omega)
          subst hgA
          obtain ⟨x, hx⟩ : ∃ x, ags[i]? = some x := ⟨_, List.getElem?_eq_getElem hi'⟩
          have hxo : x.ok := hok.2 x (List.mem_of_getElem? hx)
          have hxd : ags.getD i default = x := by rw [List.getD_eq_getElem?_getD, hx]; rfl
          have hBd := Bd.at (used := used) (p := p) hok j k t (by omega)
          have hsn := relaxF_snoc (ags := ags) (f := k) (s := (roundP ags used (iterP ags used p j) k)) hci
          obtain ⟨ps, ch, hpc⟩ : ∃ ps ch, (relaxF ags k (roundP ags used (iterP ags used p j) k) ((canTo ags used k ags.length).take t)) = (ps, ch) := ⟨_, _, rfl⟩
          rw [hpc] at hBd hsn ⊢
          have hps : ps[k]? = some (ps.getD k default) := getD_some (by rw [hBd.1]; exact hk64)
          have hkl : k < ps.length := by rw [hBd.1]; exact hk64
          dsimp only
          refine cod_skip ?_
          refine ex_then ?_
          refine cod_seq ?_
          refine cod_block ?_
          refine cod_seq ?_
          refine cod_region ?_
          refine lst_index_row (j := t) rfl rfl rfl Tryd.underlying25 F.ti3 rfl ht' rfl rfl ?_
          intro gC hgC
          refine lst_load_row (v := .int .i64 (i : Int)) rfl rfl F.one3 hgC (ints_get hci) ?_
          refine lst_assign rfl rfl ?_
          refine lst_nil ?_
          refine ex_then ?_
          refine cod_seq ?_
          refine cod_region ?_
          refine lst_move rfl rfl ?_
          refine lst_field_z rfl rfl F.fi75_0 F.ti72 ?_
          refine lst_load rfl rfl F.one72 ?_
          refine lst_move rfl rfl ?_
          refine lst_index (j := i) rfl rfl rfl Tryd.underlying72 F.ti89 rfl hi' ?_
          refine lst_loadN_at (l := [.int .i64 (x.needs : Int), .int .i64 (x.no : Int), .int .i64 (x.takes : Int), .int .i64 (x.leaves : Int), .int .i64 (x.cost : Int)]) rfl rfl F.agg89 F.ti89 rfl (fun a w ha j u hu => row_at ha (e := 89) (n := ags.length) (c := cg) (cells := Ag.cells) (by simp [hAg]) (fun _ => rfl) hx hu) ?_
          refine lst_move rfl rfl ?_
          refine lst_convert rfl rfl Tryd.underlying3 Tryd.underlying77 (wrap_u8 _ (by omega)) ?_
          refine lst_call (X := Unit) (first := []) (cap := []) (vs := [_, _, _]) (p := fun _ => True) (val := fun _ => .agg [.int .i64 ((afterP ps x k).cost : Int), .int .i64 ((afterP ps x k).puts : Int), .bool (afterP ps x k).known].toArray) (rs := fun _ => .blk b13 (.cells (mcells (.func (.func 116) #[] #[]) ps).toArray 99 (0, 0)) :: .row 3 1 cA (canTo ags used k ags.length).length cc (ints (canTo ags used k ags.length)) :: .blk b2 (.cells [.slice (some ⟨gA, 0, none⟩) ags.length cg, .int .u8 (used : Int)].toArray 75 (0, 0)) :: T) rfl rfl rfl F.ent90 (fun a w ha => (after_c (bm := b13) (x := x) (f := k) (T := .row 3 1 cA (canTo ags used k ags.length).length cc (ints (canTo ags used k ags.length)) :: .blk b2 (.cells [.slice (some ⟨gA, 0, none⟩) ags.length cg, .int .u8 (used : Int)].toArray 75 (0, 0)) :: T) rfl hxo hk64 hBd (by omega) (ha.pck pkk)).mono (fun e w' h => ⟨(), trivial, h.1, h.2⟩)) ?_
          rintro ⟨⟩ -
          dsimp only
          refine lst_alloc rfl F.ti95 ?_
          intro b11
          refine lst_store rfl rfl F.ti95 rfl ?_
          refine lst_nil ?_
          refine ex_then ?_
          refine cod_seq ?_
          refine any_begin [] F.follows 12 rfl [false, false, false, false, false, false, false, false, false, false, false, false] rfl ?_
          refine any_tk 0 rfl rfl rfl (yld_move rfl) ?_
          refine any_tk 1 rfl rfl rfl (yld_nilCheck rfl) ?_
          refine any_tk 2 rfl rfl rfl (yld_field_z rfl F.fi99_0 F.ti96) ?_
          refine any_tk 3 rfl rfl rfl (yld_load_at rfl F.one96 (fun a w ha => cell_of_blk (ha.mem_blk (InB.mem (b := b13))) rfl)) ?_
          refine any_tk 4 rfl rfl rfl (yld_loadN rfl F.agg95 F.ti95) ?_
          refine any_tk 5 rfl rfl rfl (yld_move rfl) ?_
          refine any_tk 6 rfl rfl rfl (yld_move rfl) ?_
          refine any_tk 7 rfl rfl rfl (yld_nilCheck rfl) ?_
          refine any_tk 8 rfl rfl rfl (yld_field_z rfl F.fi99_1 F.ti97) ?_
          refine any_tk 9 rfl rfl rfl (yld_index_arr (j := k) rfl rfl Tryd.underlying97 F.ti95 rfl hk64) ?_
          refine any_tk 10 rfl rfl rfl (yld_loadN_at (l := [.int .i64 ((ps.getD k default).cost : Int), .int .i64 ((ps.getD k default).puts : Int), .bool (ps.getD k default).known]) rfl F.agg95 F.ti95 rfl (fun a w ha j u hu => cell_of_blk (ha.mem_blk (InB.mem (b := b13))) (mcells_get _ ps hps hu))) ?_
          refine any_one 11 (by kernel_rfl) rfl rfl ?_
          refine lst_call (X := Unit) (first := []) (cap := []) (vs := [_, _]) (p := fun _ => True) (val := fun _ => .bool (lessP (afterP ps x k) (ps.getD k default))) (rs := fun _ => .blk b11 (.cells [.int .i64 ((afterP ps x k).cost : Int), .int .i64 ((afterP ps x k).puts : Int), .bool (afterP ps x k).known].toArray 95 (0, 0)) :: .blk b13 (.cells (mcells (.func (.func 116) #[] #[]) ps).toArray 99 (0, 0)) :: .row 3 1 cA (canTo ags used k ags.length).length cc (ints (canTo ags used k ags.length)) :: .blk b2 (.cells [.slice (some ⟨gA, 0, none⟩) ags.length cg, .int .u8 (used : Int)].toArray 75 (0, 0)) :: T) rfl rfl rfl F.ent116 (fun a w ha => (less_c (afterP ps x k) (ps.getD k default) w).mono (fun e w' h => by exact ⟨(), trivial, h.1, ha.more h.2⟩)) ?_
          rintro ⟨⟩ -
          dsimp only
          refine lst_nil ?_
          refine any_next sbl ?_
          refine any_done rfl (by kernel_rfl) ?_
          refine ex_then ?_
          refine cod_cond_bool rfl (fun hc3 => ?_) (fun hc3 => ?_)
          · skip
            have hr : relax ags k (ps, ch) i = (ps.set k (afterP ps x k), true) := by unfold relax; rw [hxd]; exact if_pos hc3
            rw [hr] at hsn
            refine any_begin [.b b13] F.follows 8 rfl [false, false, false, false, false, false, false, false] rfl ?_
            refine any_tk 0 rfl rfl rfl (yld_move rfl) ?_
            refine any_tk 1 rfl rfl rfl (yld_move rfl) ?_
            refine any_tk 2 rfl rfl rfl (yld_loadN rfl F.agg95 F.ti95) ?_
            refine any_tk 3 rfl rfl rfl (yld_nilCheck rfl) ?_
            refine any_tk 4 rfl rfl rfl (yld_field_z rfl F.fi99_1 F.ti97) ?_
            refine any_tk 5 rfl rfl rfl (yld_index_arr (j := k) rfl rfl Tryd.underlying97 F.ti95 rfl hk64) ?_
            refine any_one 6 (by kernel_rfl) rfl rfl ?_
            refine lst_store (hs := mcells_splice (.func (.func 116) #[] #[]) ps hkl (afterP ps x k)) rfl rfl F.ti95 rfl ?_
            refine lst_nil ?_
            refine any_next sbl ?_
            refine any_tk 7 rfl rfl rfl (yld_assign rfl) ?_
            refine any_done rfl (by kernel_rfl) ?_
            refine ex_block_normal ?_
            refine ex_then ?_
            refine cod_region ?_
            refine lst_int rfl rfl rfl (fun w => bin_add w (wrap_i64' _ (by omega) (by omega))) ?_
            refine lst_move rfl rfl ?_
            refine lst_nil ?_
            refine ex_round' (t + 1) (by omega) (by (try dsimp only); omega) (by (try dsimp only); rw [hsn]; repeat (first | exact Sub.nil _ | refine Sub.cons rfl ?_)) (by (try dsimp only); rw [hsn]; repeat (first | exact Pck.nil _ | exact Pck.refl _ | (apply Pck.cons; focus ((repeat (first | exact Rem.here _ | apply Rem.there)); done)) | refine Pck.skip _ ?_))
          · skip
            have hr : relax ags k (ps, ch) i = (ps, ch) := by unfold relax; rw [hxd]; exact if_neg (by rw [hc3]; exact Bool.false_ne_true)
            rw [hr] at hsn
            refine cod_skip ?_
            refine ex_block_normal ?_
            refine ex_then ?_
            refine cod_region ?_
            refine lst_int rfl rfl rfl (fun w => bin_add w (wrap_i64' _ (by omega) (by omega))) ?_
            refine lst_move rfl rfl ?_
            refine lst_nil ?_
            refine ex_round' (t + 1) (by omega) (by (try dsimp only); omega) (by (try dsimp only); rw [hsn]; repeat (first | exact Sub.nil _ | refine Sub.cons rfl ?_)) (by (try dsimp only); rw [hsn]; repeat (first | exact Pck.nil _ | exact Pck.refl _ | (apply Pck.cons; focus ((repeat (first | exact Rem.here _ | apply Rem.there)); done)) | refine Pck.skip _ ?_))
        · skip
          obtain rfl : t = (canTo ags used k ags.length).length := by omega
          rw [List.take_length]
          refine cod_exit ?_
          refine ex_then_exit ?_
          refine ex_then_exit ?_
          refine ex_block_exit ?_
          refine ex_block_normal ?_
          refine ex_then ?_
          refine cod_region ?_
          refine lst_int rfl rfl rfl (fun w => bin_add w (wrap_i64' _ (by omega) (by omega))) ?_
          refine lst_move rfl rfl ?_
          refine lst_nil ?_
          refine ex_round (k + 1) (by omega) (by (try dsimp only); omega) sbn sbl
      · skip
        obtain rfl : k = 64 := by omega
        refine cod_exit ?_
        refine ex_then_exit ?_
        refine ex_then_exit ?_
        refine ex_block_exit ?_
        refine ex_then ?_
        refine cod_seq ?_
        refine cod_seq ?_
        refine cod_region ?_
        refine lst_move rfl rfl ?_
        refine lst_nil ?_
        refine ex_then ?_
        refine cod_cond_bool rfl (fun hc4 => ?_) (fun hc4 => ?_)
        · skip
          have hjN' : j < N := by
            rcases Nat.lt_or_ge j N with h | h
            · exact h
            · obtain rfl : j = N := by omega
              rw [hN] at hc4; cases hc4
          refine cod_goto ?_
          refine ex_then_goto ?_
          exact ex_jump_goto (j + 1, b13) (by (try dsimp only); omega) sbn pkk
        · skip
          refine cod_skip ?_
          refine ex_then ?_
          refine cod_seq ?_
          refine cod_region ?_
          refine lst_move rfl rfl ?_
          refine lst_assign rfl rfl ?_
          refine lst_nil ?_
          refine ex_then ?_
          refine cod_ret ?_
          refine ex_jump_ret ?_
          exact ex_ret rfl (fun a w ha => res_one rfl rfl ha) (fun _ _ ha' => ⟨j, b13, hjN, hc4, rfl, ha.back (ha'.pck pkk)⟩)
  · skip
    rintro ⟨j, b13⟩ hjN
    dsimp only at hjN ⊢
    refine cod_seq ?_
    refine cod_skip ?_
    refine ex_then ?_
    refine cod_seq ?_
    refine cod_region ?_
    refine lst_assign rfl rfl ?_
    refine lst_nil ?_
    refine ex_then ?_
    refine cod_seq ?_
    refine cod_seq ?_
    refine cod_region ?_
    refine lst_move rfl rfl ?_
    refine lst_nil ?_
    refine ex_then ?_
    refine cod_block ?_
    refine cod_loop (G := Nat) (fun k => k ≤ 64) (fun k => 64 - k) (fun k => [(1, .int .u8 (p : Int)), (2, .pointer (some ⟨b2, 0, none⟩)), (5, .pointer (some ⟨b13, 0, none⟩)), (7, .bool (roundP ags used (iterP ags used p j) k).2), (28, .int .i64 (k : Int))]) (fun k => .blk b13 (.cells (mcells (.func (.func 116) #[] #[]) (roundP ags used (iterP ags used p j) k).1).toArray 99 (0, 0)) :: .blk b2 (.cells [.slice aA ags.length cg, .int .u8 (used : Int)].toArray 75 (0, 0)) :: T) 0 (Nat.zero_le _) sbn sbl ?_
    intro k hk
    (try dsimp only at hk ⊢)
    refine cod_seq ?_
    refine cod_region ?_
    refine lst_int rfl rfl rfl bin_lss ?_
    refine lst_nil ?_
    refine ex_then ?_
    refine cod_seq ?_
    refine cod_cond_dec rfl (fun hc1 => ?_) (fun hc1 => ?_)
    · skip
      have hk64 : k < 64 := by omega
      refine cod_skip ?_
      refine ex_then ?_
      refine cod_seq ?_
      refine cod_block ?_
      refine cod_seq ?_
      refine cod_region ?_
      refine lst_move rfl rfl ?_
      refine lst_assign rfl rfl ?_
      refine lst_nil ?_
      refine ex_then ?_
      refine cod_seq ?_
      refine cod_region ?_
      refine lst_loadN rfl rfl F.agg75 F.ti75 ?_
      refine lst_move rfl rfl ?_
      refine lst_convert rfl rfl Tryd.underlying3 Tryd.underlying77 (wrap_u8 _ (by omega)) ?_
      refine lst_fn (X := Option Addr × Nat) (vs := [_, _]) (p := fun _ => True) (val := fun x => .slice x.1 (canTo ags used k ags.length).length x.2) (rs := fun x => [.row 3 1 x.1 (canTo ags used k ags.length).length x.2 (ints (canTo ags used k ags.length))]) rfl rfl F.ent89 (fun a w ha => (can_c aA cg ags used k hok hu (by omega) w (row_reads ha (cells := Ag.cells) (e := 89) (c := cg) (n := ags.length) (fun _ => rfl) (by simp [hAg]) rfl)).mono (fun e w' h => by obtain ⟨A', c', h1, h2⟩ := h; exact ⟨(A', c'), trivial, h1, h2⟩)) ?_
      rintro ⟨cA, cc⟩ -
      dsimp only [List.cons_append, List.nil_append]
      refine lst_len rfl rfl Tryd.underlying25 ?_
      refine lst_move rfl rfl ?_
      refine lst_nil ?_
      refine ex_then ?_
      refine cod_block ?_
      refine cod_loop (G := Nat) (fun t => t ≤ (canTo ags used k ags.length).length) (fun t => (canTo ags used k ags.length).length - t) (fun t => [(1, .int .u8 (p : Int)), (2, .pointer (some ⟨b2, 0, none⟩)), (5, .pointer (some ⟨b13, 0, none⟩)), (7, .bool (relaxF ags k (roundP ags used (iterP ags used p j) k) ((canTo ags used k ags.length).take t)).2), (28, .int .i64 (k : Int)), (8, .int .i64 (k : Int)), (34, .slice cA (canTo ags used k ags.length).length cc), (35, .int .i64 ((canTo ags used k ags.length).length : Int)), (36, .int .i64 (t : Int))]) (fun t => .row 3 1 cA (canTo ags used k ags.length).length cc (ints (canTo ags used k ags.length)) :: .blk b13 (.cells (mcells (.func (.func 116) #[] #[]) (relaxF ags k (roundP ags used (iterP ags used p j) k) ((canTo ags used k ags.length).take t)).1).toArray 99 (0, 0)) :: .blk b2 (.cells [.slice aA ags.length cg, .int .u8 (used : Int)].toArray 75 (0, 0)) :: T) 0 (Nat.zero_le _) sbn sbl ?_
      intro t ht
      (try dsimp only at hk ⊢)
      refine cod_seq ?_
      refine cod_region ?_
      refine lst_int rfl rfl rfl bin_lss ?_
      refine lst_nil ?_
      refine ex_then ?_
      refine cod_seq ?_
      refine cod_cond_dec rfl (fun hc2 => ?_) (fun hc2 => ?_)
      · skip
        have ht' : t < (canTo ags used k ags.length).length := by omega
        have hcl := canTo_len ags used k ags.length
        have hol := hok.1
        obtain ⟨i, hci⟩ : ∃ i, (canTo ags used k ags.length)[t]? = some i := ⟨_, List.getElem?_eq_getElem ht'⟩
        obtain ⟨hi', _, _⟩ := canTo_mem (List.mem_of_getElem? hci)
        obtain ⟨gA, hgA⟩ := row_some (ha.own _ hAg) (show 0 < ags.length by omega)
        subst hgA
        obtain ⟨x, hx⟩ : ∃ x, ags[i]? = some x := ⟨_, List.getElem?_eq_getElem hi'⟩
        have hxo : x.ok := hok.2 x (List.mem_of_getElem? hx)
        have hxd : ags.getD i default = x := by rw [List.getD_eq_getElem?_getD, hx]; rfl
        have hBd := Bd.at (used := used) (p := p) hok j k t (by omega)
        have hsn := relaxF_snoc (ags := ags) (f := k) (s := (roundP ags used (iterP ags used p j) k)) hci
        obtain ⟨ps, ch, hpc⟩ : ∃ ps ch, (relaxF ags k (roundP ags used (iterP ags used p j) k) ((canTo ags used k ags.length).take t)) = (ps, ch) := ⟨_, _, rfl⟩
        rw [hpc] at hBd hsn ⊢
        have hps : ps[k]? = some (ps.getD k default) := getD_some (by rw [hBd.1]; exact hk64)
        have hkl : k < ps.length := by rw [hBd.1]; exact hk64
        dsimp only
        refine cod_skip ?_
        refine ex_then ?_
        refine cod_seq ?_
        refine cod_block ?_
        refine cod_seq ?_
        refine cod_region ?_
        refine lst_index_row (j := t) rfl rfl rfl Tryd.underlying25 F.ti3 rfl ht' rfl rfl ?_
        intro gC hgC
        refine lst_load_row (v := .int .i64 (i : Int)) rfl rfl F.one3 hgC (ints_get hci) ?_
        refine lst_assign rfl rfl ?_
        refine lst_nil ?_
        refine ex_then ?_
        refine cod_seq ?_
        refine cod_region ?_
        refine lst_move rfl rfl ?_
        refine lst_field_z rfl rfl F.fi75_0 F.ti72 ?_
        refine lst_load rfl rfl F.one72 ?_
        refine lst_move rfl rfl ?_
        refine lst_index (j := i) rfl rfl rfl Tryd.underlying72 F.ti89 rfl hi' ?_
        refine lst_loadN_at (l := [.int .i64 (x.needs : Int), .int .i64 (x.no : Int), .int .i64 (x.takes : Int), .int .i64 (x.leaves : Int), .int .i64 (x.cost : Int)]) rfl rfl F.agg89 F.ti89 rfl (fun a w ha j u hu => row_at ha (e := 89) (n := ags.length) (c := cg) (cells := Ag.cells) (by simp [hAg]) (fun _ => rfl) hx hu) ?_
        refine lst_move rfl rfl ?_
        refine lst_convert rfl rfl Tryd.underlying3 Tryd.underlying77 (wrap_u8 _ (by omega)) ?_
        refine lst_call (X := Unit) (first := []) (cap := []) (vs := [_, _, _]) (p := fun _ => True) (val := fun _ => .agg [.int .i64 ((afterP ps x k).cost : Int), .int .i64 ((afterP ps x k).puts : Int), .bool (afterP ps x k).known].toArray) (rs := fun _ => .blk b13 (.cells (mcells (.func (.func 116) #[] #[]) ps).toArray 99 (0, 0)) :: .row 3 1 cA (canTo ags used k ags.length).length cc (ints (canTo ags used k ags.length)) :: .blk b2 (.cells [.slice (some ⟨gA, 0, none⟩) ags.length cg, .int .u8 (used : Int)].toArray 75 (0, 0)) :: T) rfl rfl rfl F.ent90 (fun a w ha => (after_c (bm := b13) (x := x) (f := k) (T := .row 3 1 cA (canTo ags used k ags.length).length cc (ints (canTo ags used k ags.length)) :: .blk b2 (.cells [.slice (some ⟨gA, 0, none⟩) ags.length cg, .int .u8 (used : Int)].toArray 75 (0, 0)) :: T) rfl hxo hk64 hBd (by omega) (ha.pck pkk)).mono (fun e w' h => ⟨(), trivial, h.1, h.2⟩)) ?_
        rintro ⟨⟩ -
        dsimp only
        refine lst_alloc rfl F.ti95 ?_
        intro b11
        refine lst_store rfl rfl F.ti95 rfl ?_
        refine lst_nil ?_
        refine ex_then ?_
        refine cod_seq ?_
        refine any_begin [] F.follows 12 rfl [false, false, false, false, false, false, false, false, false, false, false, false] rfl ?_
        refine any_tk 0 rfl rfl rfl (yld_move rfl) ?_
        refine any_tk 1 rfl rfl rfl (yld_nilCheck rfl) ?_
        refine any_tk 2 rfl rfl rfl (yld_field_z rfl F.fi99_0 F.ti96) ?_
        refine any_tk 3 rfl rfl rfl (yld_load_at rfl F.one96 (fun a w ha => cell_of_blk (ha.mem_blk (InB.mem (b := b13))) rfl)) ?_
        refine any_tk 4 rfl rfl rfl (yld_loadN rfl F.agg95 F.ti95) ?_
        refine any_tk 5 rfl rfl rfl (yld_move rfl) ?_
        refine any_tk 6 rfl rfl rfl (yld_move rfl) ?_
        refine any_tk 7 rfl rfl rfl (yld_nilCheck rfl) ?_
        refine any_tk 8 rfl rfl rfl (yld_field_z rfl F.fi99_1 F.ti97) ?_
        refine any_tk 9 rfl rfl rfl (yld_index_arr (j := k) rfl rfl Tryd.underlying97 F.ti95 rfl hk64) ?_
        refine any_tk 10 rfl rfl rfl (yld_loadN_at (l := [.int .i64 ((ps.getD k default).cost : Int), .int .i64 ((ps.getD k default).puts : Int), .bool (ps.getD k default).known]) rfl F.agg95 F.ti95 rfl (fun a w ha j u hu => cell_of_blk (ha.mem_blk (InB.mem (b := b13))) (mcells_get _ ps hps hu))) ?_
        refine any_one 11 (by kernel_rfl) rfl rfl ?_
        refine lst_call (X := Unit) (first := []) (cap := []) (vs := [_, _]) (p := fun _ => True) (val := fun _ => .bool (lessP (afterP ps x k) (ps.getD k default))) (rs := fun _ => .blk b11 (.cells [.int .i64 ((afterP ps x k).cost : Int), .int .i64 ((afterP ps x k).puts : Int), .bool (afterP ps x k).known].toArray 95 (0, 0)) :: .blk b13 (.cells (mcells (.func (.func 116) #[] #[]) ps).toArray 99 (0, 0)) :: .row 3 1 cA (canTo ags used k ags.length).length cc (ints (canTo ags used k ags.length)) :: .blk b2 (.cells [.slice (some ⟨gA, 0, none⟩) ags.length cg, .int .u8 (used : Int)].toArray 75 (0, 0)) :: T) rfl rfl rfl F.ent116 (fun a w ha => (less_c (afterP ps x k) (ps.getD k default) w).mono (fun e w' h => by exact ⟨(), trivial, h.1, ha.more h.2⟩)) ?_
        rintro ⟨⟩ -
        dsimp only
        refine lst_nil ?_
        refine any_next sbl ?_
        refine any_done rfl (by kernel_rfl) ?_
        refine ex_then ?_
        refine cod_cond_bool rfl (fun hc3 => ?_) (fun hc3 => ?_)
        · skip
          have hr : relax ags k (ps, ch) i = (ps.set k (afterP ps x k), true) := by unfold relax; rw [hxd]; exact if_pos hc3
          rw [hr] at hsn
          refine any_begin [.b b13] F.follows 8 rfl [false, false, false, false, false, false, false, false] rfl ?_
          refine any_tk 0 rfl rfl rfl (yld_move rfl) ?_
          refine any_tk 1 rfl rfl rfl (yld_move rfl) ?_
          refine any_tk 2 rfl rfl rfl (yld_loadN rfl F.agg95 F.ti95) ?_
          refine any_tk 3 rfl rfl rfl (yld_nilCheck rfl) ?_
          refine any_tk 4 rfl rfl rfl (yld_field_z rfl F.fi99_1 F.ti97) ?_
          refine any_tk 5 rfl rfl rfl (yld_index_arr (j := k) rfl rfl Tryd.underlying97 F.ti95 rfl hk64) ?_
          refine any_one 6 (by kernel_rfl) rfl rfl ?_
          refine lst_store (hs := mcells_splice (.func (.func 116) #[] #[]) ps hkl (afterP ps x k)) rfl rfl F.ti95 rfl ?_
          refine lst_nil ?_
          refine any_next sbl ?_
          refine any_tk 7 rfl rfl rfl (yld_assign rfl) ?_
          refine any_done rfl (by kernel_rfl) ?_
          refine ex_block_normal ?_
          refine ex_then ?_
          refine cod_region ?_
          refine lst_int rfl rfl rfl (fun w => bin_add w (wrap_i64' _ (by omega) (by omega))) ?_
          refine lst_move rfl rfl ?_
          refine lst_nil ?_
          refine ex_round' (t + 1) (by omega) (by (try dsimp only); omega) (by (try dsimp only); rw [hsn]; repeat (first | exact Sub.nil _ | refine Sub.cons rfl ?_)) (by (try dsimp only); rw [hsn]; repeat (first | exact Pck.nil _ | exact Pck.refl _ | (apply Pck.cons; focus ((repeat (first | exact Rem.here _ | apply Rem.there)); done)) | refine Pck.skip _ ?_))
        · skip
          have hr : relax ags k (ps, ch) i = (ps, ch) := by unfold relax; rw [hxd]; exact if_neg (by rw [hc3]; exact Bool.false_ne_true)
          rw [hr] at hsn
          refine cod_skip ?_
          refine ex_block_normal ?_
          refine ex_then ?_
          refine cod_region ?_
          refine lst_int rfl rfl rfl (fun w => bin_add w (wrap_i64' _ (by omega) (by omega))) ?_
          refine lst_move rfl rfl ?_
          refine lst_nil ?_
          refine ex_round' (t + 1) (by omega) (by (try dsimp only); omega) (by (try dsimp only); rw [hsn]; repeat (first | exact Sub.nil _ | refine Sub.cons rfl ?_)) (by (try dsimp only); rw [hsn]; repeat (first | exact Pck.nil _ | exact Pck.refl _ | (apply Pck.cons; focus ((repeat (first | exact Rem.here _ | apply Rem.there)); done)) | refine Pck.skip _ ?_))
      · skip
        obtain rfl : t = (canTo ags used k ags.length).length := by omega
        rw [List.take_length]
        refine cod_exit ?_
        refine ex_then_exit ?_
        refine ex_then_exit ?_
        refine ex_block_exit ?_
        refine ex_block_normal ?_
        refine ex_then ?_
        refine cod_region ?_
        refine lst_int rfl rfl rfl (fun w => bin_add w (wrap_i64' _ (by omega) (by omega))) ?_
        refine lst_move rfl rfl ?_
        refine lst_nil ?_
        refine ex_round (k + 1) (by omega) (by (try dsimp only); omega) sbn sbl
    · skip
      obtain rfl : k = 64 := by omega
      refine cod_exit ?_
      refine ex_then_exit ?_
      refine ex_then_exit ?_
      refine ex_block_exit ?_
      refine ex_then ?_
      refine cod_seq ?_
      refine cod_seq ?_
      refine cod_region ?_
      refine lst_move rfl rfl ?_
      refine lst_nil ?_
      refine ex_then ?_
      refine cod_cond_bool rfl (fun hc4 => ?_) (fun hc4 => ?_)
      · skip
        have hjN' : j < N := by
          rcases Nat.lt_or_ge j N with h | h
          · exact h
          · obtain rfl : j = N := by omega
            rw [hN] at hc4; cases hc4
        refine cod_goto ?_
        refine ex_then_goto ?_
        exact ex_jump_again (j + 1, b13) (by (try dsimp only); omega) (by (try dsimp only); omega) sbn pkk
      · skip
        refine cod_skip ?_
        refine ex_then ?_
        refine cod_seq ?_
        refine cod_region ?_
        refine lst_move rfl rfl ?_
        refine lst_assign rfl rfl ?_
        refine lst_nil ?_
        refine ex_then ?_
        refine cod_ret ?_
        refine ex_jump_ret ?_
        exact ex_ret rfl (fun a w ha => res_one rfl rfl ha) (fun _ _ ha' => ⟨j, b13, hjN, hc4, rfl, ha.back (ha'.pck pkk)⟩)

end Go.Proofs.YtofkhehcnfiopaaDoor.N
namespace Go.Proofs.YtofkhehcnfiopaaDoor.N
open Go Go.RowKit Go.Proofs
set_option linter.unusedSectionVars false
variable [I : Sys]
theorem F.ent88 : Enters Tryd.prog 88 := enters_of Tryd.func88 rfl (by kernel_rfl)
theorem Cheapest_ok (A : Option Addr) (c : Nat) (ags : List Ag) (hok : Oks ags) (f p N : Nat) (hf : f < 64) (hp : p < 64) (hN64 : N ≤ 1000) (hN : (roundP ags (usedAll ags.length) (iterP ags (usedAll ags.length) p N) 64).2 = false) (w : World) (hA : RdL Ag.cells 5 w A ags) : Calls Tryd.prog 35 #[.slice A ags.length c, .int .i64 (f : Int), .int .i64 (p : Int)] w fun e w' => ∃ j ps A' c', j ≤ N ∧ iterP ags (usedAll ags.length) p j = ps ∧ (roundP ags (usedAll ags.length) ps 64).2 = false ∧ e = .returned (.tuple #[.slice A' (cheapW ags (usedAll ags.length) ps f).length c', .int .i64 (cheapC ps f : Int), .int .i64 (cheapE ps f : Int)]) ∧ Grew w w' [.row 3 1 A' (cheapW ags (usedAll ags.length) ps f).length c' (ints (cheapW ags (usedAll ags.length) ps f))] := by
  have hua : usedAll ags.length < 256 := by have := usedAll_lt hok.1; omega
  refine enter_defers (N := 84) [(0, .slice A ags.length c), (1, .int .i64 (f : Int)), (2, .int .i64 (p : Int))] Tryd.func35 rfl Tryd.ntmps35 rfl rfl ?_
  refine cod_seq ?_
  refine cod_region ?_
  refine lst_assign rfl rfl ?_
  refine lst_assign rfl rfl ?_
  refine lst_alloc rfl F.ti35 ?_
  intro b8
  refine lst_nil ?_
  refine ex_then ?_
  refine cod_seq ?_
  refine cod_region ?_
  refine lst_defer (first := []) (cap := []) (vs := [_]) rfl rfl ?_
  refine lst_nil ?_
  refine ex_then ?_
  refine cod_seq ?_
  refine cod_region ?_
  refine lst_move rfl rfl ?_
  refine lst_fn (X := Option Addr × Nat) (vs := [_]) (p := fun _ => True) (val := fun x => .agg [.slice x.1 ags.length x.2, .int .u8 (usedAll ags.length : Nat)].toArray) (rs := fun x => [.row 89 5 x.1 ags.length x.2 (ags.flatMap Ag.cells)]) rfl rfl F.ent75 (fun a w ha => (begin_ok A c ags hok w (hA.later ha.below)).mono (fun e w' h => by obtain ⟨A', c', h1, h2⟩ := h; exact ⟨(A', c'), trivial, h1, h2⟩)) ?_
  rintro ⟨aA, cg⟩ -
  dsimp only [List.cons_append, List.nil_append]
  refine lst_know (φ := 0 < ags.length → ∃ g, aA = some ⟨g, 0, none⟩) (fun a w ha h => row_some (ha.own (.row 89 5 aA ags.length cg (ags.flatMap Ag.cells)) (by simp)) h) (fun hsome => ?_)
  refine lst_alloc rfl F.ti75 ?_
  intro b9
  refine lst_store rfl rfl F.ti75 rfl ?_
  refine lst_nil ?_
  refine ex_then ?_
  refine cod_seq ?_
  refine cod_region ?_
  refine lst_move rfl rfl ?_
  refine lst_fn0 (vs := [_]) rfl rfl F.ent76 (fun a w ha => melt_ok f hf w) ?_
  refine lst_move rfl rfl ?_
  refine lst_fn0 (vs := [_]) rfl rfl F.ent76 (fun a w ha => melt_ok p hp w) ?_
  refine lst_assign rfl rfl ?_
  refine lst_assign rfl rfl ?_
  refine lst_nil ?_
  refine ex_then ?_
  refine cod_seq ?_
  refine cod_region ?_
  refine lst_loadN rfl rfl F.agg75 F.ti75 ?_
  refine lst_move rfl rfl ?_
  refine lst_call (X := Nat × Nat) (first := []) (cap := []) (vs := [_, _]) (p := fun y => y.1 ≤ N ∧ (roundP ags (usedAll ags.length) (iterP ags (usedAll ags.length) p y.1) 64).2 = false) (val := fun y => .pointer (some ⟨y.2, 0, none⟩)) (rs := fun y => .blk y.2 (.cells (mcells (.func (.func 116) #[] #[]) (iterP ags (usedAll ags.length) p (y.1 + 1))).toArray 99 (0, 0)) :: .blk b9 (.cells [.slice aA ags.length cg, .int .u8 (usedAll ags.length : Nat)].toArray 75 (0, 0)) :: .row 89 5 aA ags.length cg (ags.flatMap Ag.cells) :: [.blk b8 (.cells [.int .i64 0].toArray 35 (0, 0))]) rfl rfl rfl F.ent88 (fun a w ha => (prices_c rfl hok hua hp hN64 hN (by simp) ha).mono (fun e w' h => by obtain ⟨j, b, h1, h2, h3, h4⟩ := h; exact ⟨(j, b), ⟨h1, h2⟩, h3, h4⟩)) ?_
  rintro ⟨j, bm⟩ ⟨hjN, hfx⟩
  dsimp only at hjN hfx ⊢
  have hsame : iterP ags (usedAll ags.length) p (j + 1) = iterP ags (usedAll ags.length) p j := (round_ch 64 hfx).1
  rw [hsame]
  have hBd := Bd.iter (used := usedAll ags.length) (p := p) hok j
  have hreal := real_of (Held.iter (used := usedAll ags.length) (p := p) (fun x hx => (hok.2 x hx).cost.1) j) hfx
  obtain ⟨ps, hpsd⟩ : ∃ ps, iterP ags (usedAll ags.length) p j = ps := ⟨_, rfl⟩
  rw [hpsd] at hBd hreal hfx ⊢
  have hmM : 256 * j ≤ 100000000 := by omega
  have hget : ∀ g, g < 64 → ps[g]? = some (ps.getD g default) := fun g hg => getD_some (by rw [hBd.1]; exact hg)
  refine lst_assign rfl rfl ?_
  refine lst_nil ?_
  refine ex_then ?_
  refine cod_seq ?_
  refine cod_seq ?_
  refine cod_region ?_
  refine lst_move rfl rfl ?_
  refine lst_move rfl rfl ?_
  refine lst_nilCheck rfl rfl ?_
  refine lst_field_z rfl rfl F.fi99_1 F.ti97 ?_
  refine lst_index_arr (j := f) rfl rfl rfl Tryd.underlying97 F.ti95 rfl hf ?_
  refine lst_field rfl rfl F.fi95_2 F.ti4 ?_
  refine lst_load_at (v := .bool (ps.getD f default).known) rfl rfl F.one4 (fun a w ha => cell_of_blk (ha.mem_blk (InB.mem (b := bm))) (mcells_get _ ps (j := 2) (hget f hf) rfl)) ?_
  refine lst_not rfl rfl ?_
  refine lst_nil ?_
  refine ex_then ?_
  refine cod_cond_bool rfl (fun hc0 => ?_) (fun hc0 => ?_)
  · skip
    have hkn : ¬ (ps.getD f default).known = true := by intro h; rw [h] at hc0; cases hc0
    refine cod_seq ?_
    refine cod_region ?_
    refine lst_assign rfl rfl ?_
    refine lst_assign rfl rfl ?_
    refine lst_store rfl rfl F.ti35 rfl ?_
    refine lst_nil ?_
    refine ex_then ?_
    refine cod_ret ?_
    refine ex_then_ret ?_
    exact ex_ret_caught (fun a w ha => ⟨_, res_ttc (fn := Tryd.f35) ha rfl rfl rfl rfl F.one35, j, ps, none, 0, hjN, hpsd, hfx, by rw [show cheapW ags (usedAll ags.length) ps f = [] from if_neg hkn, show cheapC ps f = 0 from if_neg hkn, show cheapE ps f = 11 from if_neg hkn]; rfl, by rw [show cheapW ags (usedAll ags.length) ps f = [] from if_neg hkn]; exact (ha.add_nil 3 1).grown sbl⟩)
  · skip
    have hkn : (ps.getD f default).known = true := by simpa using hc0
    refine cod_skip ?_
    refine ex_then ?_
    refine cod_seq ?_
    refine cod_region ?_
    refine lst_move rfl rfl ?_
    refine lst_move rfl rfl ?_
    refine lst_nilCheck rfl rfl ?_
    refine lst_field_z rfl rfl F.fi99_1 F.ti97 ?_
    refine lst_index_arr (j := f) rfl rfl rfl Tryd.underlying97 F.ti95 rfl hf ?_
    refine lst_field rfl rfl F.fi95_0 F.ti3 ?_
    refine lst_load_at (v := .int .i64 ((ps.getD f default).cost : Int)) rfl rfl F.one3 (fun a w ha => cell_of_blk (ha.mem_blk (InB.mem (b := bm))) (mcells_get _ ps (j := 0) (hget f hf) rfl)) ?_
    refine lst_assign rfl rfl ?_
    refine lst_nil ?_
    refine ex_then ?_
    refine cod_seq ?_
    refine cod_block ?_
    refine cod_nil 3 1 ?_
    refine cod_loop' (G := Nat × List Nat × Option Addr × Nat) (fun g => g.1 < 64 ∧ (ps.getD g.1 default).known = true ∧ wayP ags (usedAll ags.length) ps (ps.getD f default).puts f = g.2.1 ++ wayP ags (usedAll ags.length) ps (ps.getD g.1 default).puts g.1 ∧ g.2.1.length + (ps.getD g.1 default).puts = (ps.getD f default).puts) (fun g => (ps.getD g.1 default).puts) (fun g => [(6, .slice g.2.2.1 g.2.1.length g.2.2.2), (7, .int .i64 ((ps.getD f default).cost : Int)), (8, .pointer (some ⟨b8, 0, none⟩)), (9, .pointer (some ⟨b9, 0, none⟩)), (10, .int .u8 (g.1 : Int)), (12, .pointer (some ⟨bm, 0, none⟩))]) (fun g => .row 3 1 g.2.2.1 g.2.1.length g.2.2.2 (ints g.2.1) :: .blk bm (.cells (mcells (.func (.func 116) #[] #[]) ps).toArray 99 (0, 0)) :: .blk b9 (.cells [.slice aA ags.length cg, .int .u8 (usedAll ags.length : Nat)].toArray 75 (0, 0)) :: .row 89 5 aA ags.length cg (ags.flatMap Ag.cells) :: [.blk b8 (.cells [.int .i64 0].toArray 35 (0, 0))]) (f, [], none, 0) ⟨hf, hkn, rfl, by simp⟩ sbn pkk ?_
    rintro ⟨f1, l, A1, c1⟩ ⟨hf1, hk1, hw1, hl1⟩
    dsimp only at hf1 hk1 hw1 hl1 ⊢
    refine cod_seq ?_
    refine cod_seq ?_
    refine cod_region ?_
    refine lst_move rfl rfl ?_
    refine lst_move rfl rfl ?_
    refine lst_nilCheck rfl rfl ?_
    refine lst_field_z rfl rfl F.fi99_1 F.ti97 ?_
    refine lst_index_arr (j := f1) rfl rfl rfl Tryd.underlying97 F.ti95 rfl hf1 ?_
    refine lst_field rfl rfl F.fi95_1 F.ti3 ?_
    refine lst_load_at (v := .int .i64 ((ps.getD f1 default).puts : Int)) rfl rfl F.one3 (fun a w ha => cell_of_blk (ha.mem_blk (InB.mem (b := bm))) (mcells_get _ ps (j := 1) (hget f1 hf1) rfl)) ?_
    refine lst_int rfl rfl rfl bin_gtr ?_
    refine lst_nil ?_
    refine ex_then ?_
    refine cod_cond_dec rfl (fun hc1 => ?_) (fun hc1 => ?_)
    · skip
      have hpb := hBd.get f
      refine cod_skip ?_
      refine ex_then ?_
      refine cod_block ?_
      refine cod_seq ?_
      refine cod_region ?_
      refine lst_loadN rfl rfl F.agg75 F.ti75 ?_
      refine lst_move rfl rfl ?_
      refine lst_fn (X := Option Addr × Nat) (vs := [_, _]) (p := fun _ => True) (val := fun x => .slice x.1 (canTo ags (usedAll ags.length) f1 ags.length).length x.2) (rs := fun x => [.row 3 1 x.1 (canTo ags (usedAll ags.length) f1 ags.length).length x.2 (ints (canTo ags (usedAll ags.length) f1 ags.length))]) rfl rfl F.ent89 (fun a w ha => (can_c aA cg ags (usedAll ags.length) f1 hok hua (by omega) w (row_reads ha (cells := Ag.cells) (e := 89) (c := cg) (n := ags.length) (fun _ => rfl) (by simp) rfl)).mono (fun e w' h => by obtain ⟨A', c', h1, h2⟩ := h; exact ⟨(A', c'), trivial, h1, h2⟩)) ?_
      rintro ⟨cA, cc⟩ -
      dsimp only [List.cons_append, List.nil_append]
      refine lst_len rfl rfl Tryd.underlying25 ?_
      refine lst_move rfl rfl ?_
      refine lst_nil ?_
      refine ex_then ?_
      refine cod_block ?_
      refine cod_loop (G := Nat) (fun t => t ≤ (canTo ags (usedAll ags.length) f1 ags.length).length ∧ ∀ i ∈ (canTo ags (usedAll ags.length) f1 ags.length).take t, afterP ps (ags.getD i default) f1 ≠ ps.getD f1 default) (fun t => (canTo ags (usedAll ags.length) f1 ags.length).length - t) (fun t => [(6, .slice A1 l.length c1), (7, .int .i64 ((ps.getD f default).cost : Int)), (8, .pointer (some ⟨b8, 0, none⟩)), (9, .pointer (some ⟨b9, 0, none⟩)), (10, .int .u8 (f1 : Int)), (12, .pointer (some ⟨bm, 0, none⟩)), (49, .slice cA (canTo ags (usedAll ags.length) f1 ags.length).length cc), (50, .int .i64 ((canTo ags (usedAll ags.length) f1 ags.length).length : Int)), (51, .int .i64 (t : Int))]) (fun t => .row 3 1 cA (canTo ags (usedAll ags.length) f1 ags.length).length cc (ints (canTo ags (usedAll ags.length) f1 ags.length)) :: .row 3 1 A1 l.length c1 (ints l) :: .blk bm (.cells (mcells (.func (.func 116) #[] #[]) ps).toArray 99 (0, 0)) :: .blk b9 (.cells [.slice aA ags.length cg, .int .u8 (usedAll ags.length : Nat)].toArray 75 (0, 0)) :: .row 89 5 aA ags.length cg (ags.flatMap Ag.cells) :: [.blk b8 (.cells [.int .i64 0].toArray 35 (0, 0))]) 0 ⟨Nat.zero_le _, by simp⟩ sbn sbl ?_
      intro t ht
      (try dsimp only at hk ⊢)
      refine cod_seq ?_
      refine cod_region ?_
      refine lst_int rfl rfl rfl bin_lss ?_
      refine lst_nil ?_
      refine ex_then ?_
      refine cod_seq ?_
      refine cod_cond_dec rfl (fun hc2 => ?_) (fun hc2 => ?_)
      · skip
        have ht' : t < (canTo ags (usedAll ags.length) f1 ags.length).length := by omega
        obtain ⟨i, hci⟩ : ∃ i, (canTo ags (usedAll ags.length) f1 ags.length)[t]? = some i := ⟨_, List.getElem?_eq_getElem ht'⟩
        obtain ⟨hi', _, _⟩ := canTo_mem (List.mem_of_getElem? hci)
        have hol := hok.1
        obtain ⟨gA, hgA⟩ : ∃ g, aA = some ⟨g, 0, none⟩ := hsome (by omega)
        subst hgA
        obtain ⟨x, hx⟩ : ∃ x, ags[i]? = some x := ⟨_, List.getElem?_eq_getElem hi'⟩
        have hxo : x.ok := hok.2 x (List.mem_of_getElem? hx)
        have hxd : ags.getD i default = x := by rw [List.getD_eq_getElem?_getD, hx]; rfl
        have hcl := canTo_len ags (usedAll ags.length) f1 ags.length
        refine cod_skip ?_
        refine ex_then ?_
        refine cod_seq ?_
        refine cod_block ?_
        refine cod_seq ?_
        refine cod_region ?_
        refine lst_index_row (j := t) rfl rfl rfl Tryd.underlying25 F.ti3 rfl ht' rfl rfl ?_
        intro gC hgC
        refine lst_load_row (v := .int .i64 (i : Int)) rfl rfl F.one3 hgC (ints_get hci) ?_
        refine lst_assign rfl rfl ?_
        refine lst_nil ?_
        refine ex_then ?_
        refine cod_seq ?_
        refine any_begin [] F.follows 15 rfl [false, false, false, false, false, false, false, false, false, false, false, false, false, false, false] rfl ?_
        refine any_tk 0 rfl rfl rfl (yld_move rfl) ?_
        refine any_tk 1 rfl rfl rfl (yld_field_z rfl F.fi75_0 F.ti72) ?_
        refine any_tk 2 rfl rfl rfl (yld_load rfl F.one72) ?_
        refine any_tk 3 rfl rfl rfl (yld_move rfl) ?_
        refine any_tk 4 rfl rfl rfl (yld_index (j := i) rfl rfl Tryd.underlying72 F.ti89 rfl hi') ?_
        refine any_tk 5 rfl rfl rfl (yld_loadN_at (l := [.int .i64 (x.needs : Int), .int .i64 (x.no : Int), .int .i64 (x.takes : Int), .int .i64 (x.leaves : Int), .int .i64 (x.cost : Int)]) rfl F.agg89 F.ti89 rfl (fun a w ha j u hu => row_at ha (e := 89) (n := ags.length) (c := cg) (cells := Ag.cells) (by simp) (fun _ => rfl) hx hu)) ?_
        refine any_tk 6 rfl rfl rfl (yld_move rfl) ?_
        refine any_tk 8 rfl rfl rfl (yld_move rfl) ?_
        refine any_tk 9 rfl rfl rfl (yld_move rfl) ?_
        refine any_tk 10 rfl rfl rfl (yld_nilCheck rfl) ?_
        refine any_tk 11 rfl rfl rfl (yld_field_z rfl F.fi99_1 F.ti97) ?_
        refine any_tk 12 rfl rfl rfl (yld_index_arr (j := f1) rfl rfl Tryd.underlying97 F.ti95 rfl hf1) ?_
        refine any_tk 13 rfl rfl rfl (yld_loadN_at (l := [.int .i64 ((ps.getD f1 default).cost : Int), .int .i64 ((ps.getD f1 default).puts : Int), .bool (ps.getD f1 default).known]) rfl F.agg95 F.ti95 rfl (fun a w ha j u hu => cell_of_blk (ha.mem_blk (InB.mem (b := bm))) (mcells_get _ ps (hget f1 hf1) hu))) ?_
        refine any_one 7 (by kernel_rfl) rfl rfl ?_
        refine lst_call (X := Unit) (first := []) (cap := []) (vs := [_, _, _]) (p := fun _ => True) (val := fun _ => .agg [.int .i64 ((afterP ps x f1).cost : Int), .int .i64 ((afterP ps x f1).puts : Int), .bool (afterP ps x f1).known].toArray) (rs := fun _ => .row 3 1 cA (canTo ags (usedAll ags.length) f1 ags.length).length cc (ints (canTo ags (usedAll ags.length) f1 ags.length)) :: .row 3 1 A1 l.length c1 (ints l) :: .blk bm (.cells (mcells (.func (.func 116) #[] #[]) ps).toArray 99 (0, 0)) :: .blk b9 (.cells [.slice (some ⟨gA, 0, none⟩) ags.length cg, .int .u8 (usedAll ags.length : Nat)].toArray 75 (0, 0)) :: .row 89 5 (some ⟨gA, 0, none⟩) ags.length cg (ags.flatMap Ag.cells) :: [.blk b8 (.cells [.int .i64 0].toArray 35 (0, 0))]) rfl rfl rfl F.ent90 (fun a w ha => (after_c (bm := bm) (x := x) (f := f1) (T := .row 3 1 cA (canTo ags (usedAll ags.length) f1 ags.length).length cc (ints (canTo ags (usedAll ags.length) f1 ags.length)) :: .row 3 1 A1 l.length c1 (ints l) :: .blk b9 (.cells [.slice (some ⟨gA, 0, none⟩) ags.length cg, .int .u8 (usedAll ags.length : Nat)].toArray 75 (0, 0)) :: .row 89 5 (some ⟨gA, 0, none⟩) ags.length cg (ags.flatMap Ag.cells) :: [.blk b8 (.cells [.int .i64 0].toArray 35 (0, 0))]) rfl hxo hf1 hBd hmM (ha.pck pkk)).mono (fun e w' h => by exact ⟨(), trivial, h.1, h.2.pck pkk⟩)) ?_
        rintro ⟨⟩ -
        dsimp only
        refine lst_nil ?_
        refine any_next sbl ?_
        refine any_tk 14 rfl rfl rfl (yld_bin rfl rfl (run_eq_price (p := afterP ps x f1) (q := ps.getD f1 default) (hBd.aok hmM hxo f1) (hBd.pok hmM f1) _ _)) ?_
        refine any_done rfl (by kernel_rfl) ?_
        refine ex_then ?_
        refine cod_cond_dec rfl (fun hc3 => ?_) (fun hc3 => ?_)
        · skip
          refine cod_seq ?_
          refine any_begin [.r A1] F.follows 13 rfl [false, false, false, false, false, false, false, false, false, false, false, false, false] rfl ?_
          refine any_tk 0 rfl rfl rfl (yld_move rfl) ?_
          refine any_tk 1 rfl rfl rfl (yld_move rfl) ?_
          refine any_tk 4 rfl rfl rfl (yld_field_z rfl F.fi75_0 F.ti72) ?_
          refine any_tk 5 rfl rfl rfl (yld_load rfl F.one72) ?_
          refine any_tk 6 rfl rfl rfl (yld_move rfl) ?_
          refine any_tk 7 rfl rfl rfl (yld_index (j := i) rfl rfl Tryd.underlying72 F.ti89 rfl hi') ?_
          refine any_tk 8 rfl rfl rfl (yld_loadN_at (l := [.int .i64 (x.needs : Int), .int .i64 (x.no : Int), .int .i64 (x.takes : Int), .int .i64 (x.leaves : Int), .int .i64 (x.cost : Int)]) rfl F.agg89 F.ti89 rfl (fun a w ha j u hu => row_at ha (e := 89) (n := ags.length) (c := cg) (cells := Ag.cells) (by simp) (fun _ => rfl) hx hu)) ?_
          refine any_tk 9 rfl rfl rfl (yld_move rfl) ?_
          refine any_one 2 (by kernel_rfl) rfl rfl ?_
          refine lst_lit (vs := [(0, _)]) rfl rfl Tryd.underlying25 F.ti3 rfl rfl rfl ?_
          intro b72
          refine lst_nil ?_
          refine any_next sbl ?_
          refine any_one 3 (by kernel_rfl) rfl rfl ?_
          refine lst_append rfl rfl rfl Tryd.underlying25 F.ti3 rfl rfl rfl (by unfold maxLen; omega) (by omega) ?_
          intro A2 c2
          refine lst_nil ?_
          refine any_next sbl ?_
          refine any_one 10 (by kernel_rfl) rfl rfl ?_
          refine lst_fn0 (vs := [_, _]) rfl rfl F.ent91 (fun a w ha => put_c x f1 hxo (by omega) w) ?_
          refine lst_nil ?_
          refine any_next sbl ?_
          refine any_tk 11 rfl rfl rfl (yld_assign rfl) ?_
          refine any_tk 12 rfl rfl rfl (yld_assign rfl) ?_
          refine any_done rfl (by kernel_rfl) ?_
          refine ex_then ?_
          refine cod_exit ?_
          refine ex_block_other rfl ?_
          refine ex_then_exit ?_
          refine ex_then_exit ?_
          refine ex_block_exit ?_
          refine ex_block_normal ?_
          obtain ⟨hn1, hn2⟩ := after_next hc3 hk1
          have hws := wayP_step (k := (ps.getD (putN x f1) default).puts) hci ht.2 (by rw [hxd]; exact hc3)
          rw [hxd, hn2] at hws
          rw [hws] at hw1
          refine ex_round' (putN x f1, l ++ [i], A2, c2) ⟨putN_lt hxo hf1, hn1, by rw [hw1, List.append_assoc]; rfl, by dsimp only; rw [List.length_append, List.length_singleton]; omega⟩ (by (try dsimp only); omega) (by dsimp only; rw [List.length_append, List.length_singleton]; repeat (first | exact Sub.nil _ | refine Sub.cons rfl ?_)) (by dsimp only; rw [List.length_append, List.length_singleton, ints_snoc]; repeat (first | exact Pck.nil _ | exact Pck.refl _ | (apply Pck.cons; focus ((repeat (first | exact Rem.here _ | apply Rem.there)); done)) | refine Pck.skip _ ?_))
        · skip
          refine cod_skip ?_
          refine ex_block_normal ?_
          refine ex_then ?_
          refine cod_region ?_
          refine lst_int rfl rfl rfl (fun w => bin_add w (wrap_i64' _ (by omega) (by omega))) ?_
          refine lst_move rfl rfl ?_
          refine lst_nil ?_
          refine ex_round (t + 1) ⟨by omega, fun i' hi2 => ?_⟩ (by (try dsimp only); omega) sbn sbl
          rw [List.take_add_one, hci] at hi2
          rcases List.mem_append.1 hi2 with h | h
          · exact ht.2 i' h
          · simp at h; subst h; rw [hxd]; exact hc3
      · skip
        exfalso
        obtain ⟨i, hi, he⟩ := hreal f1 hf1 hk1 (by omega)
        exact ht.2 i (by rw [List.take_of_length_le (by omega)]; exact hi) he -- done
    · skip
      have hp0 : (ps.getD f1 default).puts = 0 := by omega
      rw [hp0] at hw1
      have hlW : l = cheapW ags (usedAll ags.length) ps f := by
        rw [cheapW, if_pos hkn, hw1, wayP, List.append_nil]
      refine cod_exit ?_
      refine ex_then_exit ?_
      refine ex_then_exit ?_
      refine ex_block_exit ?_
      refine ex_then ?_
      refine cod_seq ?_
      refine cod_region ?_
      refine lst_move rfl rfl ?_
      refine lst_move rfl rfl ?_
      refine lst_assign rfl rfl ?_
      refine lst_assign rfl rfl ?_
      refine lst_store rfl rfl F.ti35 rfl ?_
      refine lst_nil ?_
      refine ex_then ?_
      refine cod_ret ?_
      exact ex_ret_caught (fun a w ha => ⟨_, res_ttc (fn := Tryd.f35) ha rfl rfl rfl rfl F.one35, j, ps, A1, c1, hjN, hpsd, hfx, by rw [← hlW, show cheapC ps f = (ps.getD f default).cost from if_pos hkn, show cheapE ps f = 0 from if_pos hkn]; rfl, by rw [← hlW]; exact ha.grown sbl⟩)

end Go.Proofs.YtofkhehcnfiopaaDoor.N
namespace Go.Proofs.YtofkhehcnfiopaaDoor.N
open Go Go.RowKit Go.Proofs
set_option linter.unusedSectionVars false
variable [I : Sys]
theorem eq_ints_ne {l m : List Int} {k : Nat} {x y : Int} (hx : l[k]? = some x) (hy : m[k]? = some y) (h : x ≠ y) : l ≠ m := fun e => by
  subst e
  rw [hx] at hy
  exact h (Option.some.inj hy)
theorem eq_ints_end {l m : List Int} {k : Nat} (h1 : k ≤ l.length) (h2 : k ≤ m.length) (ht : l.take k = m.take k) (hk : ¬ (k < l.length ∧ k < m.length)) : decide ((l.length : Int) = (m.length : Int)) = decide (l = m) := by
  by_cases e : l.length = m.length
  · have hk1 : k = l.length := by omega
    have : l = m := by
      rw [List.take_of_length_le (by omega), List.take_of_length_le (by omega)] at ht
      exact ht
    simp [this]
  · have : l ≠ m := fun h => e (by rw [h])
    simp [this, e]
    omega
theorem take_eq_succ {l m : List Int} {k : Nat} {x : Int} (ht : l.take k = m.take k) (hx : l[k]? = some x) (hy : m[k]? = some x) : l.take (k + 1) = m.take (k + 1) := by
  rw [List.take_add_one, List.take_add_one, ht, hx, hy]
/-- The agents of the examples. -/
def sAgs : List Ag := [⟨1, 0, 1, 2, 1⟩, ⟨2, 4, 2, 0, 2⟩, ⟨4, 0, 4, 1, 1⟩, ⟨6, 1, 6, 0, 5⟩]
theorem sOks : Oks sAgs := by
  refine ⟨by decide, ?_⟩
  intro a ha
  simp [sAgs] at ha
  rcases ha with rfl | rfl | rfl | rfl <;> exact ⟨by decide, by decide, by decide, by decide, by decide, by decide⟩
end Go.Proofs.YtofkhehcnfiopaaDoor.N
namespace Go.Proofs.YtofkhehcnfiopaaDoor.N
open Go Go.RowKit Go.Proofs
set_option linter.unusedSectionVars false
variable [I : Sys]
theorem F.pl24 : Places Tryd.prog 24 [(0, 1), (1, 1), (2, 1), (3, 1), (4, 1)] := .inl ⟨_, Tryd.underlying24, by kernel_rfl⟩
theorem eqInts_c (A B : Option Addr) (c c2 : Nat) (l m : List Int) (hl : l.length ≤ 140737488355328) (w : World) (hA : RdL icell 1 w A l) (hB : RdL icell 1 w B m) : Calls Tryd.prog 32 #[.slice A l.length c, .slice B m.length c2] w fun e w' => e = .returned (.bool (decide (l = m))) ∧ Grew w w' [] := by
  refine enter (N := 32) [(0, .slice A l.length c), (1, .slice B m.length c2)] Tryd.func32 rfl Tryd.ntmps32 rfl rfl ?_
  refine cod_seq ?_
  refine cod_region ?_
  refine lst_assign rfl rfl ?_
  refine lst_nil ?_
  refine ex_then ?_
  refine cod_seq ?_
  refine cod_seq ?_
  refine cod_region ?_
  refine lst_assign rfl rfl ?_
  refine lst_nil ?_
  refine ex_then ?_
  refine cod_block ?_
  refine cod_loop (G := Nat) (fun k => k ≤ l.length ∧ k ≤ m.length ∧ l.take k = m.take k) (fun k => l.length - k) (fun k => [(0, .slice A l.length c), (1, .slice B m.length c2), (5, .int .i64 (k : Int))]) (fun k => []) 0 ⟨Nat.zero_le _, Nat.zero_le _, rfl⟩ sbn sbl ?_
  intro k hk
  (try dsimp only at hk ⊢)
  refine cod_seq ?_
  refine cod_seq ?_
  refine cod_region ?_
  refine lst_cut1 10 15 (.bool (decide ((k : Int) < (l.length : Int)) && decide ((k : Int) < (m.length : Int)))) ?_ ?_
  · skip
    refine lst_move rfl rfl ?_
    refine lst_move rfl rfl ?_
    refine lst_len rfl rfl Tryd.underlying25 ?_
    refine lst_int rfl rfl rfl bin_lss ?_
    refine lst_move rfl rfl ?_
    refine lst_split (t := 10) rfl (fun hg10 => ?_) (fun hg10 => ?_)
    · skip
      refine lst_on rfl rfl ?_
      refine lst_move rfl rfl ?_
      refine lst_on rfl rfl ?_
      refine lst_move rfl rfl ?_
      refine lst_on rfl rfl ?_
      refine lst_len rfl rfl Tryd.underlying25 ?_
      refine lst_on rfl rfl ?_
      refine lst_int rfl rfl rfl bin_lss ?_
      refine lst_pick_true rfl rfl rfl ?_
      refine lst_nil ?_
      exact ex_cut (.cons (by first | rfl | simp [look, *]) sbn) sbl
    · skip
      refine lst_off rfl rfl rfl ?_
      refine lst_off rfl rfl rfl ?_
      refine lst_off rfl rfl rfl ?_
      refine lst_off rfl rfl rfl ?_
      refine lst_pick_false rfl rfl rfl ?_
      refine lst_nil ?_
      exact ex_cut (.cons (by first | rfl | simp [look, *]) sbn) sbl
  refine lst_nil ?_
  refine ex_then ?_
  refine cod_cond_bool rfl (fun hc0 => ?_) (fun hc0 => ?_)
  · skip
    have hb2 : k < l.length ∧ k < m.length := by simp at hc0; omega
    obtain ⟨b, o, rfl, hb, hcell⟩ := hA (by omega)
    obtain ⟨b', o', rfl, hb', hcell'⟩ := hB (by omega)
    obtain ⟨x, hx⟩ : ∃ x, l[k]? = some x := ⟨_, List.getElem?_eq_getElem hb2.1⟩
    obtain ⟨y, hy⟩ : ∃ y, m[k]? = some y := ⟨_, List.getElem?_eq_getElem hb2.2⟩
    refine cod_skip ?_
    refine ex_then ?_
    refine cod_seq ?_
    refine cod_block ?_
    refine cod_seq ?_
    refine any_begin [] F.follows 9 rfl [false, false, false, false, false, false, false, false, false] rfl ?_
    refine any_tk 0 rfl rfl rfl (yld_move rfl) ?_
    refine any_tk 1 rfl rfl rfl (yld_move rfl) ?_
    refine any_tk 2 rfl rfl rfl (yld_index (j := k) rfl rfl Tryd.underlying25 F.ti3 rfl hb2.1) ?_
    refine any_tk 3 rfl rfl rfl (yld_load_at (v := .int .i64 x) rfl F.one3 (fun a w ha => ha.old (hcell k x hx 0 _ rfl) hb)) ?_
    refine any_tk 4 rfl rfl rfl (yld_move rfl) ?_
    refine any_tk 5 rfl rfl rfl (yld_move rfl) ?_
    refine any_tk 6 rfl rfl rfl (yld_index (j := k) rfl rfl Tryd.underlying25 F.ti3 rfl hb2.2) ?_
    refine any_tk 7 rfl rfl rfl (yld_load_at (v := .int .i64 y) rfl F.one3 (fun a w ha => ha.old (hcell' k y hy 0 _ rfl) hb')) ?_
    refine any_tk 8 rfl rfl rfl (yld_int rfl rfl bin_neq) ?_
    refine any_done rfl (by kernel_rfl) ?_
    refine ex_then ?_
    refine cod_cond_dec rfl (fun hc1 => ?_) (fun hc1 => ?_)
    · skip
      refine cod_seq ?_
      refine cod_region ?_
      refine lst_assign rfl rfl ?_
      refine lst_nil ?_
      refine ex_then ?_
      refine cod_ret ?_
      refine ex_block_ret ?_
      refine ex_then_ret ?_
      refine ex_then_ret ?_
      refine ex_block_ret ?_
      refine ex_then_ret ?_
      have hne := eq_ints_ne hx hy hc1
      exact ex_ret rfl (fun a w ha => res_one rfl rfl ha) (fun a w ha => ⟨by rw [decide_eq_false hne], ha.grown (List.nil_sublist _)⟩)
    · skip
      obtain rfl : x = y := Classical.not_not.1 hc1
      refine cod_skip ?_
      refine ex_block_normal ?_
      refine ex_then ?_
      refine cod_region ?_
      refine lst_move rfl rfl ?_
      refine lst_int rfl rfl rfl (fun w => bin_add w (wrap_i64' _ (by omega) (by omega))) ?_
      refine lst_assign rfl rfl ?_
      refine lst_nil ?_
      refine ex_round (k + 1) ⟨by omega, by omega, take_eq_succ hk.2.2 hx hy⟩ (by (try dsimp only); omega) sbn sbl
  · skip
    have hb2 : ¬ (k < l.length ∧ k < m.length) := by simp at hc0; omega
    have he := eq_ints_end hk.1 hk.2.1 hk.2.2 hb2
    refine cod_exit ?_
    refine ex_then_exit ?_
    refine ex_then_exit ?_
    refine ex_block_exit ?_
    refine ex_then ?_
    refine cod_seq ?_
    refine cod_region ?_
    refine lst_move rfl rfl ?_
    refine lst_len rfl rfl Tryd.underlying25 ?_
    refine lst_move rfl rfl ?_
    refine lst_len rfl rfl Tryd.underlying25 ?_
    refine lst_int rfl rfl rfl bin_eql ?_
    refine lst_assign rfl rfl ?_
    refine lst_nil ?_
    refine ex_then ?_
    refine cod_ret ?_
    exact ex_ret rfl (fun a w ha => res_one rfl rfl ha) (fun a w ha => ⟨by rw [he], ha.grown (List.nil_sublist _)⟩)

theorem s_c  (w : World) : Calls Tryd.prog 71 #[] w fun e w' => ∃ b, e = .returned (.slice (some ⟨b, 0, none⟩) 4 4) ∧ Grew w w' [.blk b (.cells (sAgs.flatMap Ag.cells).toArray 24 (0, 0))] := by
  refine enter (N := 6) [] Tryd.func71 rfl Tryd.ntmps71 rfl rfl ?_
  refine cod_seq ?_
  refine cod_region ?_
  refine lst_assign rfl rfl ?_
  refine lst_nil ?_
  refine ex_then ?_
  refine cod_seq ?_
  refine cod_region ?_
  refine lst_struct (vs := [(0, _), (2, _), (3, _), (4, _)]) (l' := [_, _, _, _, _]) rfl rfl F.ti24 F.pl24 (.cons rfl rfl (.cons rfl rfl (.cons rfl rfl (.cons rfl rfl (.nil _))))) rfl ?_
  refine lst_struct (vs := [(0, _), (1, _), (2, _), (4, _)]) (l' := [_, _, _, _, _]) rfl rfl F.ti24 F.pl24 (.cons rfl rfl (.cons rfl rfl (.cons rfl rfl (.cons rfl rfl (.nil _))))) rfl ?_
  refine lst_struct (vs := [(0, _), (2, _), (3, _), (4, _)]) (l' := [_, _, _, _, _]) rfl rfl F.ti24 F.pl24 (.cons rfl rfl (.cons rfl rfl (.cons rfl rfl (.cons rfl rfl (.nil _))))) rfl ?_
  refine lst_struct (vs := [(0, _), (1, _), (2, _), (4, _)]) (l' := [_, _, _, _, _]) rfl rfl F.ti24 F.pl24 (.cons rfl rfl (.cons rfl rfl (.cons rfl rfl (.cons rfl rfl (.nil _))))) rfl ?_
  refine lst_litN (vs := [(0, _), (1, _), (2, _), (3, _)]) _ rfl rfl Tryd.underlying22 F.ti24 rfl rfl rfl (Lit.agg rfl (Lit.agg rfl (Lit.agg rfl (Lit.agg rfl rfl)))) ?_
  intro b5
  refine lst_assign rfl rfl ?_
  refine lst_nil ?_
  refine ex_then ?_
  refine cod_ret ?_
  exact ex_ret rfl (fun a w ha => res_one rfl rfl ha) (fun a w ha => ⟨b5, rfl, ha.grown sbl⟩)

end Go.Proofs.YtofkhehcnfiopaaDoor.N
namespace Go.Proofs.YtofkhehcnfiopaaDoor.N
open Go Go.RowKit Go.Proofs
set_option linter.unusedSectionVars false
variable [I : Sys]
/-- The word of a code. -/
def decodeF (n : Nat) : Nat → Nat → List Nat
  | 0, _ => []
  | _ + 1, 0 => []
  | k + 1, c + 1 => decodeF n k (c / n) ++ [c % n]
theorem decodeF_spec {n : Nat} (hn : 1 ≤ n) : ∀ k c, c ≤ k → Wd n (decodeF n k c) ∧ code n (decodeF n k c) = c
  | 0, c, h => by
    obtain rfl : c = 0 := by omega
    exact ⟨fun i hi => by simp [decodeF] at hi, rfl⟩
  | k + 1, 0, _ => ⟨fun i hi => by simp [decodeF] at hi, rfl⟩
  | k + 1, c + 1, h => by
    have hc : c / n ≤ k := Nat.le_trans (Nat.div_le_self c n) (by omega)
    obtain ⟨h1, h2⟩ := decodeF_spec hn k (c / n) hc
    refine ⟨Wd.snoc.2 ⟨h1, Nat.mod_lt c (by omega)⟩, ?_⟩
    show code n (decodeF n k (c / n) ++ [c % n]) = c + 1
    rw [code_snoc, h2, Nat.mul_comm]
    have := Nat.div_add_mod c n
    omega
def decode (n c : Nat) : List Nat := decodeF n c c
theorem decode_code {n : Nat} (hn : 1 ≤ n) {v : List Nat} (hv : Wd n v) : decode n (code n v) = v := by
  obtain ⟨h1, h2⟩ := decodeF_spec hn (code n v) (code n v) (Nat.le_refl _)
  exact code_inj n _ _ _ rfl h1 hv h2
/-- Does a word lead to a goal, and is it short enough? -/
def hitB (ags : List Ag) (used n : Nat) (most : Int) (t0 : Tm) (goal : Tm → Bool) (w : List Nat) : Bool :=
  (match run (stepT ags used n) t0 w with
  | some t => goal t
  | none => false) && (decide (most < 0) || decide ((w.length : Int) ≤ most))
theorem hitB_iff {ags : List Ag} {used n : Nat} {most : Int} {t0 : Tm} {goal : Tm → Bool} {w : List Nat} : hitB ags used n most t0 goal w = true ↔ (∃ t, run (stepT ags used n) t0 w = some t ∧ goal t = true) ∧ Fits most w := by
  unfold hitB Fits
  cases h : run (stepT ags used n) t0 w with
  | none => simp
  | some t => simp
def firstB (ags : List Ag) (used n : Nat) (most : Int) (t0 : Tm) (goal : Tm → Bool) (w : List Nat) : Bool :=
  hitB ags used n most t0 goal w && (List.range (code ags.length w)).all fun c => !(hitB ags used n most t0 goal (decode ags.length c))
theorem firstB_spec {ags : List Ag} {used n : Nat} {most : Int} {t0 : Tm} {goal : Tm → Bool} {w : List Nat} (hn : 1 ≤ ags.length) (h : firstB ags used n most t0 goal w = true) : IsFirst (stepT ags used n) ags.length most t0 goal w := by
  unfold firstB at h
  rw [Bool.and_eq_true] at h
  obtain ⟨h1, h2⟩ := hitB_iff.1 h.1
  refine ⟨h1, h2, fun v t hr hg hf => ?_⟩
  rcases Nat.lt_or_ge (code ags.length v) (code ags.length w) with hlt | hge
  · exfalso
    have := List.all_eq_true.1 h.2 (code ags.length v) (List.mem_range.2 hlt)
    rw [decode_code hn (run_wd _ stepT_none v t0 t hr)] at this
    rw [hitB_iff.2 ⟨⟨t, hr, hg⟩, hf⟩] at this
    cases this
  · exact hge
theorem found_first {ags : List Ag} {used n : Nat} {most : Int} {t0 : Tm} {goal : Tm → Bool} {o : Option Wk} (ho : FoundO ags used n most t0 goal o) {w : List Nat} (hw : IsFirst (stepT ags used n) ags.length most t0 goal w) : ∃ k, o = some k ∧ k.how = w := by
  cases o with
  | none => exact absurd ho (fun h => IsFirst.not_none (stepT ags used n) hw h)
  | some k => exact ⟨k, rfl, IsFirst.unique (stepT ags used n) stepT_none ho.1 hw⟩
theorem found_firstB {ags : List Ag} {used n : Nat} {most : Int} {t0 : Tm} {goal : Tm → Bool} {o : Option Wk} (ho : FoundO ags used n most t0 goal o) {w : List Nat} (hn : 1 ≤ ags.length) (h : firstB ags used n most t0 goal w = true) : ∃ k, o = some k ∧ k.how = w := found_first ho (firstB_spec hn h)
/-! The examples. -/
theorem ex_put : alongF sAgs 7 [2, 0, 1] = some [3, 2, 0] := by decide +kernel
theorem ex_short : firstB sAgs 15 1 (-1) (7, 0, 0) (fun t => decide (nn t.1 0 = 0)) [0, 3] = true := by decide +kernel
theorem ex_both : firstB sAgs 15 2 5 (1, 3, 0) (fun t => clearT 0 t 2) [0, 1] = true := by decide +kernel
theorem ex_tells : firstB sAgs 15 2 4 (2, 6, 0) (tellsG sAgs) [] = true := by decide +kernel
theorem ex_tellsI : tellsI sAgs (2, 6, 0) = 1 := by decide +kernel
theorem ex_cheapN : (roundP sAgs 15 (iterP sAgs 15 0 4) 64).2 = false := by decide +kernel
theorem ex_cheap : ∀ j, j ≤ 4 → (roundP sAgs 15 (iterP sAgs 15 0 j) 64).2 = false → cheapW sAgs 15 (iterP sAgs 15 0 j) 7 = [2, 0, 1] ∧ cheapC (iterP sAgs 15 0 j) 7 = 4 ∧ cheapE (iterP sAgs 15 0 j) 7 = 0 := by decide +kernel
end Go.Proofs.YtofkhehcnfiopaaDoor.N
