/- Parts of the walks of the laws on fining, those that FiningKnown needs: Step, F4, Goals, F5, Found, Found2, Far, Along, Market, Market2, Market3, Price, Price2, Opt, Srec. -/
import Derived.Test.YtofkhehcnfiopaaDoorSFiningKnown02
import Derived.Test.YtofkhehcnfiopaaDoorProg
import Derived.DeepKeys3
namespace Go.Proofs.YtofkhehcnfiopaaDoor.N
open Go Go.RowKit Go.Proofs
set_option linter.unusedSectionVars false
variable [I : Sys]
def tget (t : Tm) : Nat → Nat
  | 0 => t.1
  | 1 => t.2.1
  | _ => t.2.2
def tput (t : Tm) (j v : Nat) : Tm :=
  match j with
  | 0 => (v, t.2.1, t.2.2)
  | 1 => (t.1, v, t.2.2)
  | _ => (t.1, t.2.1, v)
/-- The first j sets of a team, behind an agent. -/
def putT (x : Ag) (t : Tm) : Nat → Tm
  | 0 => t
  | j + 1 => tput (putT x t j) j (putN x (tget t j))
def mayT (x : Ag) (t : Tm) (n : Nat) : Bool := (List.range n).all fun j => mayN x (tget t j)
theorem mayT_succ (x : Ag) (t : Tm) (n : Nat) : mayT x t (n + 1) = (mayT x t n && mayN x (tget t n)) := by
  simp [mayT, List.range_succ]
/-- One agent's step. -/
def stepT (ags : List Ag) (used n : Nat) (t : Tm) (i : Nat) : Option Tm :=
  if i < ags.length ∧ used.testBit i = true ∧ mayT (ags.getD i default) t n = true then some (putT (ags.getD i default) t n) else none
theorem stepT_none {ags : List Ag} {used n : Nat} : ∀ (t : Tm) (i : Nat), ags.length ≤ i → stepT ags used n t i = none := by
  intro t i h
  exact if_neg (fun h' => by omega)
def Tm.lo (t : Tm) : Prop := t.1 < 64 ∧ t.2.1 < 64 ∧ t.2.2 < 64
theorem Tm.lo.ok {t : Tm} (h : Tm.lo t) : Tm.ok t := ⟨by have := h.1; omega, by have := h.2.1; omega, by have := h.2.2; omega⟩
theorem tget_lo {t : Tm} (h : Tm.lo t) (j : Nat) : tget t j < 64 := by
  rcases j with _ | _ | j
  · exact h.1
  · exact h.2.1
  · exact h.2.2
theorem tput_lo {t : Tm} (h : Tm.lo t) (j : Nat) {v : Nat} (hv : v < 64) : Tm.lo (tput t j v) := by
  rcases j with _ | _ | j
  · exact ⟨hv, h.2.1, h.2.2⟩
  · exact ⟨h.1, hv, h.2.2⟩
  · exact ⟨h.1, h.2.1, hv⟩
theorem putT_lo {x : Ag} (hx : x.ok) {t : Tm} (h : Tm.lo t) : ∀ j, Tm.lo (putT x t j)
  | 0 => h
  | j + 1 => tput_lo (putT_lo hx h j) j (putN_lt hx (tget_lo h j))
theorem tput_cells (t : Tm) {j v : Nat} (hj : j < 3) : ([.int .u8 ((tput t j v).1 : Int), .int .u8 ((tput t j v).2.1 : Int), .int .u8 ((tput t j v).2.2 : Int)] : List Value) =
    ([.int .u8 (t.1 : Int), .int .u8 (t.2.1 : Int), .int .u8 (t.2.2 : Int)] : List Value).set (0 + j * 1) (.int .u8 (v : Int)) := by
  rcases j with _ | _ | _ | j
  · rfl
  · rfl
  · rfl
  · omega
theorem tget_cell (t : Tm) {j : Nat} (hj : j < 3) : ([.int .u8 (t.1 : Int), .int .u8 (t.2.1 : Int), .int .u8 (t.2.2 : Int)] : List Value)[j]? = some (.int .u8 (tget t j : Int)) := by
  rcases j with _ | _ | _ | j
  · rfl
  · rfl
  · rfl
  · omega
theorem wk_get (k : Wk) {j : Nat} (hj : j < 3) : ([.slice k.A k.how.length k.c, .int .u8 (k.team.1 : Int), .int .u8 (k.team.2.1 : Int), .int .u8 (k.team.2.2 : Int)] : List Value)[1 + j * 1]? = some (.int .u8 (tget k.team j : Int)) := by
  rcases j with _ | _ | _ | j
  · rfl
  · rfl
  · rfl
  · omega
theorem Pck.suffix (l T : List Res) : Pck T (l ++ T) := by
  induction l with
  | nil => exact Pck.refl T
  | cons x l ih => exact Pck.skip x ih
theorem Pck.pull {k : Wk} {rws : List Wk} (h : k ∈ rws) (T : List Res) : Pck (k.res :: T) (rws.map Wk.res ++ T) := by
  induction rws with
  | nil => cases h
  | cons x l ih =>
    rcases List.mem_cons.1 h with e | e
    · subst e
      exact Pck.cons (Rem.here _) (Pck.suffix _ _)
    · exact Pck.skip _ (ih e)
theorem row_nil {C : Ctx} {fr : List (Nat × Value)} {hp : List Res} {a : Act} {w : World} (ha : At C fr hp a w) {e size n c : Nat} {A : Option Addr} {xs : List Value} (hm : Res.row e size A n c xs ∈ hp) (hA : A = none) : n = 0 := by
  rcases Nat.eq_zero_or_pos n with h | h
  · exact h
  · obtain ⟨g, hg⟩ := row_some (ha.own _ hm) h
    rw [hA] at hg; cases hg
theorem stepT_some {ags : List Ag} {used n i : Nat} {t : Tm} {x : Ag} (hi : i < ags.length) (hx : ags.getD i default = x) (hu : used.testBit i = true) (hm : mayT x t n = true) : stepT ags used n t i = some (putT x t n) := by
  unfold stepT
  rw [hx, if_pos ⟨hi, hu, hm⟩]
theorem stepT_not {ags : List Ag} {used n i j : Nat} {t : Tm} {x : Ag} (hx : ags.getD i default = x) (hj : j < n) (h : (used.testBit i && mayN x (tget t j)) = false) : stepT ags used n t i = none := by
  unfold stepT
  rw [hx]
  refine if_neg ?_
  rintro ⟨_, h1, h2⟩
  rw [h1] at h
  unfold mayT at h2
  have := List.all_eq_true.1 h2 j (by simpa using hj)
  rw [this] at h
  cases h
def Wk.pr (k : Wk) : List Nat × Tm := (k.how, k.team)
structure FInv (ags : List Ag) (used n : Nat) (most : Int) (t0 : Tm) (goal : Tm → Bool) (full : List Wk) (kk i : Nat) (rws : List Wk) : Prop where
  bin : BIn (stepT ags used n) ags.length most t0 goal (full.map Wk.pr) kk i
  rows : ∀ k ∈ full, k ∈ rws
  lo : ∀ k ∈ full, Tm.lo k.team
  lens : ∀ (j : Nat) (k : Wk), full[j]? = some k → k.how.length ≤ j
def pushF (full : List Wk) (k : Wk) : List Wk := if k.team ∈ full.map Wk.team then full else full ++ [k]
section
variable {ags : List Ag} {used n : Nat} {most : Int} {t0 : Tm} {goal : Tm → Bool} {full : List Wk} {kk i : Nat} {rws : List Wk} {k kn : Wk} {rest : List Wk}
theorem map_team (full : List Wk) : (full.map Wk.pr).map (·.2) = full.map Wk.team := by simp [Wk.pr]
theorem FInv.start (h0 : Tm.lo t0) (c : Nat) : FInv ags used n most t0 goal [⟨none, c, [], t0⟩] 0 0 [⟨none, c, [], t0⟩] where
  bin := BIn.start
  rows := fun k h => h
  lo := fun k h => by simp at h; subst h; exact h0
  lens := fun j k h => by
    cases j with
    | zero => simp at h; subst h; simp
    | succ j => simp at h
def tcode (t : Tm) : Nat := t.1 * 4096 + t.2.1 * 64 + t.2.2
theorem FInv.len (h : FInv ags used n most t0 goal full kk i rws) : full.length ≤ 262144 := by
  have hn := h.bin.nodup
  rw [map_team] at hn
  have : ((full.map Wk.team).map tcode).Nodup := by
    unfold List.Nodup at hn ⊢
    rw [List.pairwise_map]
    refine hn.imp_of_mem ?_
    intro a b ha hb hab e
    obtain ⟨ka, hka, rfl⟩ := List.mem_map.1 ha
    obtain ⟨kb, hkb, rfl⟩ := List.mem_map.1 hb
    have h1 := h.lo ka hka
    have h2 := h.lo kb hkb
    obtain ⟨h11, h12, h13⟩ := h1
    obtain ⟨h21, h22, h23⟩ := h2
    apply hab
    unfold tcode at e
    have e1 : ka.team.1 = kb.team.1 := by omega
    have e2 : ka.team.2.1 = kb.team.2.1 := by omega
    have e3 : ka.team.2.2 = kb.team.2.2 := by omega
    exact Prod.ext e1 (Prod.ext e2 e3)
  have hle := nodup_le 262144 _ this (fun x hx => by
    obtain ⟨t, ht, rfl⟩ := List.mem_map.1 hx
    obtain ⟨k, hk, rfl⟩ := List.mem_map.1 ht
    obtain ⟨h1, h2, h3⟩ := h.lo k hk
    unfold tcode
    omega)
  simpa using hle
theorem pr_get (hk : full[kk]? = some k) : (full.map Wk.pr)[kk]? = some (k.how, k.team) := by
  rw [List.getElem?_map, hk]; rfl
theorem cur_of (h : full.drop kk = k :: rest) : full[kk]? = some k ∧ rest = full.drop (kk + 1) ∧ kk < full.length := by
  have hlt : kk < full.length := by
    rcases Nat.lt_or_ge kk full.length with h1 | h1
    · exact h1
    · rw [List.drop_of_length_le h1] at h; cases h
  rw [List.drop_eq_getElem_cons hlt] at h
  injection h with h1 h2
  exact ⟨by rw [List.getElem?_eq_getElem hlt, h1], h2.symm, hlt⟩
theorem FInv.none_ (h : FInv ags used n most t0 goal full kk 0 rws) (hd : full.drop kk = []) : NoWord (stepT ags used n) most t0 goal :=
  h.bin.none_ stepT_none (by
    rw [List.length_map]
    exact List.drop_eq_nil_iff.1 hd)
theorem FInv.found (h : FInv ags used n most t0 goal full kk 0 rws) (hk : full[kk]? = some k) (hg : goal k.team = true) : IsFirst (stepT ags used n) ags.length most t0 goal k.how ∧ run (stepT ags used n) t0 k.how = some k.team :=
  ⟨h.bin.found stepT_none (pr_get hk) hg, h.bin.leads _ (List.mem_of_getElem? (pr_get hk))⟩
theorem FInv.long (h : FInv ags used n most t0 goal full kk 0 rws) (hk : full[kk]? = some k) (hg : goal k.team = false) (hl : (k.how.length : Int) = most) : FInv ags used n most t0 goal full (kk + 1) 0 rws :=
  ⟨h.bin.next_long (pr_get hk) hg hl, h.rows, h.lo, h.lens⟩
theorem FInv.next (h : FInv ags used n most t0 goal full kk ags.length rws) (hk : full[kk]? = some k) (hg : goal k.team = false) : FInv ags used n most t0 goal full (kk + 1) 0 rws :=
  ⟨h.bin.next stepT_none (pr_get hk) hg, h.rows, h.lo, h.lens⟩
theorem FInv.skip_none (h : FInv ags used n most t0 goal full kk i rws) (hk : full[kk]? = some k) (hs : stepT ags used n k.team i = none) : FInv ags used n most t0 goal full kk (i + 1) rws :=
  ⟨h.bin.skip_none (pr_get hk) hs, h.rows, h.lo, h.lens⟩
theorem FInv.skip_met (h : FInv ags used n most t0 goal full kk i rws) (hk : full[kk]? = some k) {t : Tm} (hs : stepT ags used n k.team i = some t) (hm : t ∈ full.map Wk.team) : FInv ags used n most t0 goal full kk (i + 1) rws :=
  ⟨h.bin.skip_met (pr_get hk) hs (by rw [map_team]; exact hm), h.rows, h.lo, h.lens⟩
theorem FInv.same (h : FInv ags used n most t0 goal full kk i rws) (hk : full[kk]? = some k) (hs : stepT ags used n k.team i = some k.team) : FInv ags used n most t0 goal full kk (i + 1) rws :=
  h.skip_met hk hs (List.mem_map.2 ⟨k, List.mem_of_getElem? hk, rfl⟩)
theorem FInv.more (h : FInv ags used n most t0 goal full kk i rws) (x : Wk) : FInv ags used n most t0 goal full kk i (x :: rws) :=
  ⟨h.bin, fun k hk => List.mem_cons.2 (.inr (h.rows k hk)), h.lo, h.lens⟩
theorem FInv.push (h : FInv ags used n most t0 goal full kk i rws) (hk : full[kk]? = some k) (hi : i < ags.length) (hs : stepT ags used n k.team i = some kn.team) (hw : kn.how = k.how ++ [i]) (hl : (k.how.length : Int) ≠ most) (hlo : Tm.lo kn.team) :
    FInv ags used n most t0 goal (pushF full kn) kk (i + 1) (kn :: rws) := by
  unfold pushF
  split
  · rename_i hm
    exact (h.skip_met hk hs hm).more kn
  · rename_i hm
    have hb := h.bin.push (pr_get hk) hi hs (by rw [map_team]; exact hm) hl
    refine ⟨?_, ?_, ?_, ?_⟩
    · rw [List.map_append]
      rw [← hw] at hb
      exact hb
    · intro x hx
      rcases List.mem_append.1 hx with h1 | h1
      · exact List.mem_cons.2 (.inr (h.rows x h1))
      · simp at h1; subst h1; simp
    · intro x hx
      rcases List.mem_append.1 hx with h1 | h1
      · exact h.lo x h1
      · simp at h1; subst h1; exact hlo
    · intro j x hx
      rcases getElem?_snoc_cases hx with ⟨h1, _⟩ | ⟨h1, h2⟩
      · exact h.lens j x h1
      · subst h2
        rw [hw, List.length_append, List.length_singleton, h1]
        have h3 := h.lens kk k hk
        have h4 := (List.getElem?_eq_some_iff.1 hk).1
        omega
theorem pushF_drop (hk : kk + 1 ≤ full.length) : (pushF full kn).drop (kk + 1) = pushT (full.drop (kk + 1)) (full.map Wk.team) kn := by
  unfold pushF pushT
  split
  · rfl
  · rw [List.drop_append_of_le_length hk]
theorem pushF_map : (pushF full kn).map Wk.team = pushM (full.map Wk.team) kn.team := by
  unfold pushF pushM
  split
  · rfl
  · rw [List.map_append]; rfl
theorem pushF_get (hk : full[kk]? = some k) : (pushF full kn)[kk]? = some k := by
  unfold pushF
  split
  · exact hk
  · exact getElem?_snoc_old hk
end
end Go.Proofs.YtofkhehcnfiopaaDoor.N
namespace Go.Proofs.YtofkhehcnfiopaaDoor.N
open Go Go.RowKit Go.Proofs
set_option linter.unusedSectionVars false
variable [I : Sys]
theorem F.ent112 : Enters Tryd.prog 112 := enters_of Tryd.func112 rfl (by kernel_rfl)
theorem F.ent113 : Enters Tryd.prog 113 := enters_of Tryd.func113 rfl (by kernel_rfl)
theorem F.ent114 : Enters Tryd.prog 114 := enters_of Tryd.func114 rfl (by kernel_rfl)
theorem F.ent91 : Enters Tryd.prog 91 := enters_of Tryd.func91 rfl (by kernel_rfl)
theorem F.fi142_0 : FI Tryd.prog 142 0 25 0 := ⟨_, _, Tryd.underlying142, rfl, rfl, rfl⟩
theorem F.fi142_1 : FI Tryd.prog 142 1 79 1 := ⟨_, _, Tryd.underlying142, rfl, rfl, rfl⟩
theorem F.one25 : One Tryd.prog 25 := ⟨by unfold aggB; rw [Tryd.underlying25], by rw [Tryd.underlying25]; simp⟩
theorem F.one77 : One Tryd.prog 77 := ⟨by unfold aggB; rw [Tryd.underlying77], by rw [Tryd.underlying77]; simp⟩
theorem F.pl139 : Places Tryd.prog 139 [(0, 1), (1, 1)] := .inl ⟨_, Tryd.underlying139, by kernel_rfl⟩
theorem F.pl142 : Places Tryd.prog 142 [(0, 1), (1, 3)] := .inl ⟨_, Tryd.underlying142, by kernel_rfl⟩
theorem F.ti139 : TI Tryd.prog 139 (.agg [.slice none 0 0, .map none].toArray) 2 32 := TI.of (by kernel_rfl)
theorem F.ti25 : TI Tryd.prog 25 (.slice none 0 0) 1 24 := TI.of (by kernel_rfl)
theorem F.ti77 : TI Tryd.prog 77 (.int .u8 0) 1 1 := TI.of (by kernel_rfl)
theorem find_c {C : Ctx} {fr : List (Nat × Value)} {T : List Res} {a : Act} {w : World} (hC : C.P = Tryd.prog) {ags : List Ag} {used n : Nat} {most : Int} {t0 : Tm} {goal : Tm → Bool} {aA : Option Addr} {cg : Nat} {fid : FuncId} {cap : List Value} {r : Res} {r' : Tm → Res} (hok : Oks ags) (hu : used < 256) (hn1 : 1 ≤ n) (hn3 : n ≤ 3) (h0 : Tm.lo t0) (hAg : Res.row 89 5 aA ags.length cg (ags.flatMap Ag.cells) ∈ T) (hent : Enters Tryd.prog fid) (hG : ∀ (N : Nat) (fr : List (Nat × Value)) (Y : List Res) (a : Act) (w : World) (t : Tm), Tm.lo t → (∀ x ∈ T, x ∈ Y) → At ⟨Tryd.prog, C.B, C.w0, N, []⟩ fr (r :: Y) a w → Calls Tryd.prog fid ([(.agg [.int .u8 (t.1 : Int), .int .u8 (t.2.1 : Int), .int .u8 (t.2.2 : Int)].toArray : Value)] ++ cap).toArray w (fun e w' => e = .returned (.bool (goal t)) ∧ At ⟨Tryd.prog, C.B, C.w0, N, []⟩ fr ((if goal t = true then r' t else r) :: Y) a w')) (ha : At C fr (r :: T) a w) : Calls C.P 77 #[.agg [.slice aA ags.length cg, .int .u8 (used : Int)].toArray, .agg [.int .u8 (t0.1 : Int), .int .u8 (t0.2.1 : Int), .int .u8 (t0.2.2 : Int)].toArray, .int .i64 (n : Int), .int .i64 most, .func (.func fid) ([] : List Value).toArray cap.toArray] w fun e w' => (∃ k : Wk, IsFirst (stepT ags used n) ags.length most t0 goal k.how ∧ run (stepT ags used n) t0 k.how = some k.team ∧ goal k.team = true ∧ e = .returned (.tuple #[.slice k.A k.how.length k.c, .bool true]) ∧ At C fr (r' k.team :: k.res :: T) a w') ∨ (NoWord (stepT ags used n) most t0 goal ∧ e = .returned (.tuple #[.slice none 0 0, .bool false]) ∧ At C fr (r :: T) a w') := by
  obtain ⟨P, B, w0, N0, ds⟩ := C
  obtain rfl : P = Tryd.prog := hC
  refine enter_in (N := 101) [(0, .agg [.slice aA ags.length cg, .int .u8 (used : Int)].toArray), (1, .agg [.int .u8 (t0.1 : Int), .int .u8 (t0.2.1 : Int), .int .u8 (t0.2.2 : Int)].toArray), (2, .int .i64 (n : Int)), (3, .int .i64 most), (4, .func (.func fid) ([] : List Value).toArray cap.toArray)] ha Tryd.func77 rfl Tryd.ntmps77 rfl rfl ?_
  refine cod_seq ?_
  refine cod_region ?_
  refine lst_box rfl rfl ?_
  intro b5
  refine lst_box rfl rfl ?_
  intro b6
  refine lst_assign rfl rfl ?_
  refine lst_assign rfl rfl ?_
  refine lst_nil ?_
  refine ex_then ?_
  refine cod_seq ?_
  refine cod_region ?_
  refine lst_makeMap rfl ?_
  intro b20
  refine lst_struct (vs := [(1, _)]) (l' := [_, _]) rfl rfl F.ti139 F.pl139 (.cons rfl rfl (.nil _)) rfl ?_
  refine lst_box rfl rfl ?_
  intro b22
  refine lst_assign rfl rfl ?_
  refine lst_nil ?_
  refine ex_then ?_
  refine cod_seq ?_
  refine cod_region ?_
  refine lst_move rfl rfl ?_
  refine lst_makeFunc (fs := [_]) (cs := []) rfl rfl rfl ?_
  refine lst_assign rfl rfl ?_
  refine lst_nil ?_
  refine ex_then ?_
  refine cod_seq ?_
  refine cod_region ?_
  refine lst_move rfl rfl ?_
  refine lst_loadN rfl rfl F.agg79 F.ti79 ?_
  refine lst_loadN rfl rfl F.agg79 F.ti79 ?_
  refine lst_struct (vs := [(1, _)]) (l' := [_, _, _, _]) rfl rfl F.ti142 F.pl142 (.cons rfl rfl (.nil _)) rfl ?_
  refine lst_nilque 142 4 ?_
  refine lst_nilrow 3 1 ?_
  have hp0 : pushT [] [] (⟨none, 0, [], t0⟩ : Wk) = [⟨none, 0, [], t0⟩] := by simp [pushT]
  have hm0 : pushM [] (⟨none, 0, [], t0⟩ : Wk).team = [t0] := by simp [pushM]
  refine lst_call (X := Option Addr × Nat) (first := [.pointer (some ⟨b22, 0, none⟩)]) (cap := []) (vs := [_, _]) (p := fun _ => True) (val := fun _ => .tuple #[]) (rs := fun x => .blk b22 (.cells [.slice x.1 1 x.2, .map (some b20)].toArray 139 (0, 0)) :: .blk b20 (metObj [t0]) :: .que 142 4 x.1 1 x.2 ([(⟨none, 0, [], t0⟩ : Wk)].flatMap Wk.cells) :: .blk b5 (.cells [.slice aA ags.length cg, .int .u8 (used : Int)].toArray 75 (0, 0)) :: r :: .row 3 1 none 0 0 [] :: T) rfl rfl rfl F.ent112 (fun a w ha => (push_c (bq := b22) (bm := b20) (A := none) (c := 0) (todo := []) (met := []) (k := ⟨none, 0, [], t0⟩) (T := .blk b5 (.cells [.slice aA ags.length cg, .int .u8 (used : Int)].toArray 75 (0, 0)) :: r :: .row 3 1 none 0 0 [] :: T) rfl (by simp) (by simp) h0.ok (ha.pck pkk)).mono (fun e w' h => by rw [hp0, hm0] at h; obtain ⟨A', c', h1, h2⟩ := h; exact ⟨(A', c'), trivial, h1, h2⟩)) ?_
  rintro ⟨A0, c0⟩ -
  refine lst_nil ?_
  refine ex_then ?_
  refine cod_block ?_
  refine cod_loop' (G := Option Addr × Nat × List Wk × Nat × List Wk) (fun g => FInv ags used n most t0 goal g.2.2.1 g.2.2.2.1 0 g.2.2.2.2) (fun g => 300000 - g.2.2.2.1) (fun g => [(2, .int .i64 (n : Int)), (3, .int .i64 most), (4, .func (.func fid) ([] : List Value).toArray cap.toArray), (5, .pointer (some ⟨b5, 0, none⟩)), (12, .pointer (some ⟨b22, 0, none⟩)), (13, .func (.func 112) [.pointer (some ⟨b22, 0, none⟩)].toArray ([] : List Value).toArray)]) (fun g => .blk b22 (.cells [.slice g.1 (g.2.2.1.drop (g.2.2.2.1)).length g.2.1, .map (some b20)].toArray 139 (0, 0)) :: .blk b20 (metObj (g.2.2.1.map Wk.team)) :: .que 142 4 g.1 (g.2.2.1.drop (g.2.2.2.1)).length g.2.1 ((g.2.2.1.drop (g.2.2.2.1)).flatMap Wk.cells) :: .blk b5 (.cells [.slice aA ags.length cg, .int .u8 (used : Int)].toArray 75 (0, 0)) :: r :: (g.2.2.2.2.map Wk.res ++ T)) (A0, c0, [⟨none, 0, [], t0⟩], 0, [⟨none, 0, [], t0⟩]) (FInv.start h0 0) sbn pkk ?_
  rintro ⟨A1, c1, full, kk, rws⟩ hI
  dsimp only at hI ⊢
  refine cod_block ?_
  refine cod_scope ?_
  refine cod_seq ?_
  rcases hdrop : full.drop kk with _ | ⟨k, rest⟩
  · skip
    refine cod_region ?_
    have hno := hI.none_ hdrop
    refine lst_move rfl rfl ?_
    refine lst_call (X := Unit) (first := []) (cap := []) (vs := [_]) (p := fun _ => True) (val := fun _ => .tuple #[.agg [.slice none 0 0, .int .u8 0, .int .u8 0, .int .u8 0].toArray, .bool false]) (rs := fun _ => .blk b5 (.cells [.slice aA ags.length cg, .int .u8 (used : Int)].toArray 75 (0, 0)) :: r :: (rws.map Wk.res ++ T)) rfl rfl rfl F.ent113 (fun a w ha => (pop_none rfl ha).mono (fun e w' h => ⟨(), trivial, h.1, h.2⟩)) ?_
    rintro ⟨⟩ -
    refine lst_move rfl rfl ?_
    refine lst_extract rfl rfl rfl ?_
    refine lst_extract rfl rfl rfl ?_
    refine lst_alloc rfl F.ti142 ?_
    intro b14
    refine lst_store rfl rfl F.ti142 rfl ?_
    refine lst_assign rfl rfl ?_
    refine lst_nil ?_
    refine ex_then ?_
    refine cod_seq ?_
    refine cod_seq ?_
    refine cod_region ?_
    refine lst_move rfl rfl ?_
    refine lst_not rfl rfl ?_
    refine lst_nil ?_
    refine ex_then ?_
    refine cod_cond_true rfl ?_
    refine cod_seq ?_
    refine cod_region ?_
    refine lst_assign rfl rfl ?_
    refine lst_assign rfl rfl ?_
    refine lst_nil ?_
    refine ex_then ?_
    refine cod_ret ?_
    refine ex_then_ret ?_
    refine ex_scope_ret ?_
    refine ex_block_ret ?_
    refine ex_then_ret ?_
    refine ex_block_ret ?_
    exact ex_ret rfl (fun a w ha => res_two rfl rfl rfl ha) (fun _ _ ha' => .inr ⟨hno, rfl, ha.back (ha'.pck (by repeat (first | exact Pck.nil _ | exact Pck.refl _ | exact Pck.suffix _ _ | (apply Pck.cons; focus ((repeat (first | exact Rem.here _ | apply Rem.there)); done)) | refine Pck.skip _ ?_)))⟩)
  · skip
    refine cod_region ?_
    obtain ⟨hk, hrest, hkl⟩ := cur_of hdrop
    subst hrest
    have hlen := hI.len
    refine lst_move rfl rfl ?_
    refine lst_call (X := Option Addr × Nat) (first := []) (cap := []) (vs := [_]) (p := fun _ => True) (val := fun _ => .tuple #[.agg [.slice k.A k.how.length k.c, .int .u8 (k.team.1 : Int), .int .u8 (k.team.2.1 : Int), .int .u8 (k.team.2.2 : Int)].toArray, .bool true]) (rs := fun x => .blk b22 (.cells [.slice x.1 (full.drop (kk + 1)).length x.2, .map (some b20)].toArray 139 (0, 0)) :: .blk b20 (metObj (full.map Wk.team)) :: .que 142 4 x.1 (full.drop (kk + 1)).length x.2 ((full.drop (kk + 1)).flatMap Wk.cells) :: .blk b5 (.cells [.slice aA ags.length cg, .int .u8 (used : Int)].toArray 75 (0, 0)) :: r :: (rws.map Wk.res ++ T)) rfl rfl rfl F.ent113 (fun a w ha => (pop_some (k := k) (todo := full.drop (kk + 1)) rfl ha).mono (fun e w' h => by obtain ⟨A', c', h1, h2⟩ := h; exact ⟨(A', c'), trivial, h1, h2⟩)) ?_
    rintro ⟨A2, c2⟩ -
    refine lst_move rfl rfl ?_
    refine lst_extract rfl rfl rfl ?_
    refine lst_extract rfl rfl rfl ?_
    refine lst_alloc rfl F.ti142 ?_
    intro b14
    refine lst_store rfl rfl F.ti142 rfl ?_
    refine lst_assign rfl rfl ?_
    refine lst_nil ?_
    refine ex_then ?_
    refine cod_seq ?_
    refine cod_seq ?_
    refine cod_region ?_
    refine lst_move rfl rfl ?_
    refine lst_not rfl rfl ?_
    refine lst_nil ?_
    refine ex_then ?_
    refine cod_cond_false rfl ?_
    refine cod_skip ?_
    refine ex_then ?_
    refine cod_seq ?_
    refine cod_seq ?_
    refine cod_region ?_
    refine lst_move rfl rfl ?_
    refine lst_field_z rfl rfl F.fi142_1 F.ti79 ?_
    refine lst_loadN rfl rfl F.agg79 F.ti79 ?_
    refine lst_call (X := Unit) (first := []) (cap := cap) (vs := [_]) (p := fun _ => True) (val := fun _ => .bool (goal k.team)) (rs := fun _ => (if goal k.team = true then r' k.team else r) :: .blk b14 (.cells [.slice k.A k.how.length k.c, .int .u8 (k.team.1 : Int), .int .u8 (k.team.2.1 : Int), .int .u8 (k.team.2.2 : Int)].toArray 142 (0, 0)) :: .blk b22 (.cells [.slice A2 (full.drop (kk + 1)).length c2, .map (some b20)].toArray 139 (0, 0)) :: .blk b20 (metObj (full.map Wk.team)) :: .que 142 4 A2 (full.drop (kk + 1)).length c2 ((full.drop (kk + 1)).flatMap Wk.cells) :: .blk b5 (.cells [.slice aA ags.length cg, .int .u8 (used : Int)].toArray 75 (0, 0)) :: (rws.map Wk.res ++ T)) rfl rfl rfl hent (fun a w ha => (hG _ _ (.blk b14 (.cells [.slice k.A k.how.length k.c, .int .u8 (k.team.1 : Int), .int .u8 (k.team.2.1 : Int), .int .u8 (k.team.2.2 : Int)].toArray 142 (0, 0)) :: .blk b22 (.cells [.slice A2 (full.drop (kk + 1)).length c2, .map (some b20)].toArray 139 (0, 0)) :: .blk b20 (metObj (full.map Wk.team)) :: .que 142 4 A2 (full.drop (kk + 1)).length c2 ((full.drop (kk + 1)).flatMap Wk.cells) :: .blk b5 (.cells [.slice aA ags.length cg, .int .u8 (used : Int)].toArray 75 (0, 0)) :: (rws.map Wk.res ++ T)) a w k.team (hI.lo k (List.mem_of_getElem? hk)) (fun x hx => by simp [hx]) (ha.pck pkk)).mono (fun e w' h => ⟨(), trivial, h.1, h.2⟩)) ?_
    rintro ⟨⟩ -
    dsimp only
    refine lst_nil ?_
    refine ex_then ?_
    refine cod_cond_bool rfl (fun hc1 => ?_) (fun hc1 => ?_)
    · skip
      rw [if_pos hc1]
      obtain ⟨hf1, hf2⟩ := hI.found hk hc1
      have hkr := hI.rows k (List.mem_of_getElem? hk)
      refine cod_seq ?_
      refine cod_region ?_
      refine lst_field_z rfl rfl F.fi142_0 F.ti25 ?_
      refine lst_load rfl rfl F.one25 ?_
      refine lst_assign rfl rfl ?_
      refine lst_assign rfl rfl ?_
      refine lst_nil ?_
      refine ex_then ?_
      refine cod_ret ?_
      refine ex_then_ret ?_
      refine ex_scope_ret ?_
      refine ex_block_ret ?_
      refine ex_then_ret ?_
      refine ex_block_ret ?_
      exact ex_ret rfl (fun a w ha => res_two rfl rfl rfl ha) (fun _ _ ha' => .inl ⟨k, hf1, hf2, hc1, rfl, ha.back (ha'.pck (by repeat (first | exact Pck.nil _ | exact Pck.refl _ | exact Pck.suffix _ _ | exact Pck.pull hkr _ | (apply Pck.cons; focus ((repeat (first | exact Rem.here _ | apply Rem.there)); done)) | refine Pck.skip _ ?_)))⟩)
    · skip
      rw [if_neg (by rw [hc1]; exact Bool.false_ne_true)]
      refine cod_skip ?_
      refine ex_then ?_
      refine cod_seq ?_
      refine cod_seq ?_
      refine cod_region ?_
      refine lst_field_z rfl rfl F.fi142_0 F.ti25 ?_
      refine lst_load rfl rfl F.one25 ?_
      refine lst_len rfl rfl Tryd.underlying25 ?_
      refine lst_move rfl rfl ?_
      refine lst_int rfl rfl rfl bin_eql ?_
      refine lst_nil ?_
      refine ex_then ?_
      refine cod_cond_dec rfl (fun hc2 => ?_) (fun hc2 => ?_)
      · skip
        refine cod_exit ?_
        refine ex_then_exit ?_
        refine ex_scope_exit ?_
        refine ex_block_exit ?_
        have hI' := hI.long hk hc1 hc2
        refine ex_round' (A2, c2, full, kk + 1, rws) hI' (by (try dsimp only); omega) (by (try dsimp only); repeat (first | exact Sub.nil _ | refine Sub.cons rfl ?_)) pkk
      · skip
        refine cod_skip ?_
        refine ex_then ?_
        refine cod_seq ?_
        refine cod_label ?_
        refine ex_then ?_
        refine cod_seq ?_
        refine cod_region ?_
        refine lst_field_z rfl rfl F.fi75_0 F.ti72 ?_
        refine lst_load rfl rfl F.one72 ?_
        refine lst_len rfl rfl Tryd.underlying72 ?_
        refine lst_move rfl rfl ?_
        refine lst_nil ?_
        refine ex_then ?_
        refine cod_block ?_
        refine cod_loop' (G := Option Addr × Nat × List Wk × List Wk × Nat) (fun g => FInv ags used n most t0 goal g.2.2.1 kk g.2.2.2.2 g.2.2.2.1 ∧ g.2.2.1[kk]? = some k ∧ kk < g.2.2.1.length ∧ g.2.2.2.2 ≤ ags.length) (fun g => ags.length - g.2.2.2.2) (fun g => [(2, .int .i64 (n : Int)), (3, .int .i64 most), (4, .func (.func fid) ([] : List Value).toArray cap.toArray), (5, .pointer (some ⟨b5, 0, none⟩)), (12, .pointer (some ⟨b22, 0, none⟩)), (13, .func (.func 112) [.pointer (some ⟨b22, 0, none⟩)].toArray ([] : List Value).toArray), (14, .pointer (some ⟨b14, 0, none⟩)), (49, .slice aA ags.length cg), (50, .int .i64 (ags.length : Int)), (51, .int .i64 (g.2.2.2.2 : Int))]) (fun g => .blk b22 (.cells [.slice g.1 (g.2.2.1.drop (kk + 1)).length g.2.1, .map (some b20)].toArray 139 (0, 0)) :: .blk b20 (metObj (g.2.2.1.map Wk.team)) :: .que 142 4 g.1 (g.2.2.1.drop (kk + 1)).length g.2.1 ((g.2.2.1.drop (kk + 1)).flatMap Wk.cells) :: .blk b14 (.cells [.slice k.A k.how.length k.c, .int .u8 (k.team.1 : Int), .int .u8 (k.team.2.1 : Int), .int .u8 (k.team.2.2 : Int)].toArray 142 (0, 0)) :: .blk b5 (.cells [.slice aA ags.length cg, .int .u8 (used : Int)].toArray 75 (0, 0)) :: r :: (g.2.2.2.1.map Wk.res ++ T)) (A2, c2, full, rws, 0) ⟨hI, hk, hkl, Nat.zero_le _⟩ sbn pkk ?_
        rintro ⟨A3, c3, full3, rws3, i⟩ ⟨hI3, hk3, hkl3, hile⟩
        dsimp only at hI3 hk3 hkl3 hile ⊢
        refine cod_seq ?_
        refine cod_region ?_
        refine lst_int rfl rfl rfl bin_lss ?_
        refine lst_nil ?_
        refine ex_then ?_
        refine cod_seq ?_
        refine cod_cond_dec rfl (fun hc3 => ?_) (fun hc3 => ?_)
        · skip
          have hi' : i < ags.length := by omega
          obtain ⟨gA, hgA⟩ := row_some (ha.own _ (List.mem_cons.2 (.inr hAg))) (by omega)
          subst hgA
          obtain ⟨x, hx⟩ : ∃ x, ags[i]? = some x := ⟨_, List.getElem?_eq_getElem hi'⟩
          have hxo : x.ok := hok.2 x (List.mem_of_getElem? hx)
          have hxd : ags.getD i default = x := by rw [List.getD_eq_getElem?_getD, hx]; rfl
          have hklo := hI3.lo k (List.mem_of_getElem? hk3)
          have hlen3 := hI3.len
          refine cod_skip ?_
          refine ex_then ?_
          refine cod_seq ?_
          refine cod_block ?_
          refine cod_seq ?_
          refine cod_region ?_
          refine lst_move rfl rfl ?_
          refine lst_index (j := i) rfl rfl rfl Tryd.underlying72 F.ti89 rfl hi' ?_
          refine lst_loadN_at (l := [.int .i64 (x.needs : Int), .int .i64 (x.no : Int), .int .i64 (x.takes : Int), .int .i64 (x.leaves : Int), .int .i64 (x.cost : Int)]) rfl rfl F.agg89 F.ti89 rfl (fun a w ha j u hu => row_at ha (e := 89) (n := ags.length) (c := cg) (cells := Ag.cells) (by simp [hAg]) (fun _ => rfl) hx hu) ?_
          refine lst_alloc rfl F.ti89 ?_
          intro b17
          refine lst_assign rfl rfl ?_
          refine lst_store rfl rfl F.ti89 rfl ?_
          refine lst_nil ?_
          refine ex_then ?_
          refine cod_seq ?_
          refine cod_region ?_
          refine lst_field_z rfl rfl F.fi142_1 F.ti79 ?_
          refine lst_loadN rfl rfl F.agg79 F.ti79 ?_
          refine lst_alloc rfl F.ti79 ?_
          intro b18
          refine lst_store rfl rfl F.ti79 rfl ?_
          refine lst_nil ?_
          refine ex_then ?_
          refine cod_seq ?_
          refine cod_seq ?_
          refine cod_region ?_
          refine lst_move rfl rfl ?_
          refine lst_move rfl rfl ?_
          refine lst_nil ?_
          refine ex_then ?_
          refine cod_block ?_
          refine cod_loop' (G := Nat) (fun g => g ≤ n ∧ (0 < g → used.testBit i = true) ∧ mayT x k.team g = true) (fun g => n - g) (fun g => [(2, .int .i64 (n : Int)), (3, .int .i64 most), (4, .func (.func fid) ([] : List Value).toArray cap.toArray), (5, .pointer (some ⟨b5, 0, none⟩)), (12, .pointer (some ⟨b22, 0, none⟩)), (13, .func (.func 112) [.pointer (some ⟨b22, 0, none⟩)].toArray ([] : List Value).toArray), (14, .pointer (some ⟨b14, 0, none⟩)), (49, .slice (some ⟨gA, 0, none⟩) ags.length cg), (50, .int .i64 (ags.length : Int)), (51, .int .i64 (i : Int)), (16, .int .i64 (i : Int)), (17, .pointer (some ⟨b17, 0, none⟩)), (18, .pointer (some ⟨b18, 0, none⟩)), (58, .int .i64 (n : Int)), (59, .int .i64 (g : Int))]) (fun g => .blk b18 (.cells [.int .u8 ((putT x k.team g).1 : Int), .int .u8 ((putT x k.team g).2.1 : Int), .int .u8 ((putT x k.team g).2.2 : Int)].toArray 79 (0, 0)) :: .blk b17 (.cells [.int .i64 (x.needs : Int), .int .i64 (x.no : Int), .int .i64 (x.takes : Int), .int .i64 (x.leaves : Int), .int .i64 (x.cost : Int)].toArray 89 (0, 0)) :: .blk b22 (.cells [.slice A3 (full3.drop (kk + 1)).length c3, .map (some b20)].toArray 139 (0, 0)) :: .blk b20 (metObj (full3.map Wk.team)) :: .que 142 4 A3 (full3.drop (kk + 1)).length c3 ((full3.drop (kk + 1)).flatMap Wk.cells) :: .blk b14 (.cells [.slice k.A k.how.length k.c, .int .u8 (k.team.1 : Int), .int .u8 (k.team.2.1 : Int), .int .u8 (k.team.2.2 : Int)].toArray 142 (0, 0)) :: .blk b5 (.cells [.slice (some ⟨gA, 0, none⟩) ags.length cg, .int .u8 (used : Int)].toArray 75 (0, 0)) :: r :: (rws3.map Wk.res ++ T)) (0) ⟨Nat.zero_le _, fun h => absurd h (by omega), rfl⟩ sbn pkk ?_
          rintro j ⟨hjn, hub, hmay⟩
          try dsimp only
          refine cod_seq ?_
          refine cod_region ?_
          refine lst_int rfl rfl rfl bin_lss ?_
          refine lst_nil ?_
          refine ex_then ?_
          refine cod_seq ?_
          refine cod_cond_dec rfl (fun hc4 => ?_) (fun hc4 => ?_)
          · skip
            have hj' : j < n := by omega
            have hj3 : j < 3 := by omega
            refine cod_skip ?_
            refine ex_then ?_
            refine cod_seq ?_
            refine cod_block ?_
            refine cod_seq ?_
            refine cod_region ?_
            refine lst_move rfl rfl ?_
            refine lst_assign rfl rfl ?_
            refine lst_nil ?_
            refine ex_then ?_
            refine cod_seq ?_
            refine cod_seq ?_
            refine cod_ghost (G := Unit) (fun _ => True) (fun _ => [(75, .bool (!(used.testBit i && mayN x (tget k.team j)))), (19, .int .i64 (j : Int)), (2, .int .i64 (n : Int)), (3, .int .i64 most), (4, .func (.func fid) ([] : List Value).toArray cap.toArray), (5, .pointer (some ⟨b5, 0, none⟩)), (12, .pointer (some ⟨b22, 0, none⟩)), (13, .func (.func 112) [.pointer (some ⟨b22, 0, none⟩)].toArray ([] : List Value).toArray), (14, .pointer (some ⟨b14, 0, none⟩)), (49, .slice (some ⟨gA, 0, none⟩) ags.length cg), (50, .int .i64 (ags.length : Int)), (51, .int .i64 (i : Int)), (16, .int .i64 (i : Int)), (17, .pointer (some ⟨b17, 0, none⟩)), (18, .pointer (some ⟨b18, 0, none⟩)), (58, .int .i64 (n : Int)), (59, .int .i64 (j : Int))]) (fun _ => .blk b18 (.cells [.int .u8 ((putT x k.team j).1 : Int), .int .u8 ((putT x k.team j).2.1 : Int), .int .u8 ((putT x k.team j).2.2 : Int)].toArray 79 (0, 0)) :: .blk b17 (.cells [.int .i64 (x.needs : Int), .int .i64 (x.no : Int), .int .i64 (x.takes : Int), .int .i64 (x.leaves : Int), .int .i64 (x.cost : Int)].toArray 89 (0, 0)) :: .blk b22 (.cells [.slice A3 (full3.drop (kk + 1)).length c3, .map (some b20)].toArray 139 (0, 0)) :: .blk b20 (metObj (full3.map Wk.team)) :: .que 142 4 A3 (full3.drop (kk + 1)).length c3 ((full3.drop (kk + 1)).flatMap Wk.cells) :: .blk b14 (.cells [.slice k.A k.how.length k.c, .int .u8 (k.team.1 : Int), .int .u8 (k.team.2.1 : Int), .int .u8 (k.team.2.2 : Int)].toArray 142 (0, 0)) :: .blk b5 (.cells [.slice (some ⟨gA, 0, none⟩) ags.length cg, .int .u8 (used : Int)].toArray 75 (0, 0)) :: r :: (rws3.map Wk.res ++ T)) ?_ ?_
            · skip
              refine any_begin [] F.follows 14 rfl [false, false, false, false, false, false, false, false, false, false, false, false, false, false] rfl ?_
              refine any_tk 0 rfl rfl rfl (yld_field_z rfl F.fi75_1 F.ti73) ?_
              refine any_tk 1 rfl rfl rfl (yld_load rfl F.one73) ?_
              refine any_tk 2 rfl rfl rfl (yld_move rfl) ?_
              refine any_one 3 (by kernel_rfl) rfl rfl ?_
              refine lst_fn0 (vs := [_, _]) rfl rfl F.ent110 (fun a w ha => set_has_c used i hu w) ?_
              refine lst_nil ?_
              refine any_next sbl ?_
              refine any_tk 4 rfl rfl rfl (yld_not rfl) ?_
              refine any_tk 5 rfl rfl rfl (yld_move rfl) ?_
              refine any_split_bool (t := 67) rfl (fun hg67 => ?_) (fun hg67 => ?_)
              · skip
                refine any_take_off 6 rfl rfl rfl rfl rfl (by kernel_rfl) (by kernel_rfl) (by kernel_rfl) sbl rfl ?_
                refine any_take_off 7 rfl rfl rfl rfl rfl (by kernel_rfl) (by kernel_rfl) (by kernel_rfl) sbl rfl ?_
                refine any_take_off 8 rfl rfl rfl rfl rfl (by kernel_rfl) (by kernel_rfl) (by kernel_rfl) sbl rfl ?_
                refine any_take_off 9 rfl rfl rfl rfl rfl (by kernel_rfl) (by kernel_rfl) (by kernel_rfl) sbl rfl ?_
                refine any_take_off 10 rfl rfl rfl rfl rfl (by kernel_rfl) (by kernel_rfl) (by kernel_rfl) sbl rfl ?_
                refine any_take_off 11 rfl rfl rfl rfl rfl (by kernel_rfl) (by kernel_rfl) (by kernel_rfl) sbl rfl ?_
                refine any_take_off 12 rfl rfl rfl rfl rfl (by kernel_rfl) (by kernel_rfl) (by kernel_rfl) sbl rfl ?_
                refine any_tk 13 rfl rfl rfl (yld_pick_true rfl rfl) ?_
                refine any_done rfl (by kernel_rfl) ?_
                exact ex_ghost () trivial (Sub.cons (by simp at hg67; simp [look, hg67]) sbn) pkk
              · skip
                refine any_take_on 6 rfl rfl rfl rfl rfl (by kernel_rfl) (by kernel_rfl) (by kernel_rfl) sbl (yld_loadN rfl F.agg89 F.ti89) rfl ?_
                refine any_take_on 7 rfl rfl rfl rfl rfl (by kernel_rfl) (by kernel_rfl) (by kernel_rfl) sbl (yld_move rfl) rfl ?_
                refine any_take_on 8 rfl rfl rfl rfl rfl (by kernel_rfl) (by kernel_rfl) (by kernel_rfl) sbl (yld_field_z rfl F.fi142_1 F.ti79) rfl ?_
                refine any_take_on 9 rfl rfl rfl rfl rfl (by kernel_rfl) (by kernel_rfl) (by kernel_rfl) sbl (yld_index_arr (j := _) rfl rfl Tryd.underlying79 F.ti77 rfl (by omega)) rfl ?_
                refine any_take_on 10 rfl rfl rfl rfl rfl (by kernel_rfl) (by kernel_rfl) (by kernel_rfl) sbl (yld_load_at rfl F.one77 (fun a w ha => cell_of_blk (ha.mem_blk (InB.mem (b := b14))) (wk_get k hj3))) rfl ?_
                refine any_one 11 (by kernel_rfl) rfl rfl ?_
                refine lst_on rfl rfl ?_
                refine lst_fn0 (vs := [_, _]) rfl rfl F.ent85 (fun a w ha => may_c x (tget k.team j) hxo (by have := tget_lo hklo j; omega) w) ?_
                refine lst_nil ?_
                refine any_next sbl ?_
                refine any_take_on 12 rfl rfl rfl rfl rfl (by kernel_rfl) (by kernel_rfl) (by kernel_rfl) sbl (yld_not rfl) rfl ?_
                refine any_tk 13 rfl rfl rfl (yld_pick_false rfl rfl) ?_
                refine any_done rfl (by kernel_rfl) ?_
                exact ex_ghost () trivial (Sub.cons (by simp at hg67; simp [look, hg67]) sbn) pkk
            · skip
              rintro ⟨⟩ -
              dsimp only
              refine ex_then ?_
              refine cod_cond_bool rfl (fun hc5 => ?_) (fun hc5 => ?_)
              · skip
                have hst : stepT ags used n k.team i = none := stepT_not hxd hj' (by cases h : (used.testBit i && mayN x (tget k.team j)) with
                  | false => rfl
                  | true => rw [h] at hc5; cases hc5)
                refine cod_exit ?_
                refine ex_then_exit ?_
                refine ex_block_other rfl ?_
                refine ex_then_exit ?_
                refine ex_then_exit ?_
                refine ex_block_other rfl ?_
                refine ex_then_exit ?_
                refine ex_block_exit ?_
                refine ex_then ?_
                refine cod_region ?_
                refine lst_int rfl rfl rfl (fun w => bin_add w (wrap_i64' _ (by omega) (by have := hok.1; omega))) ?_
                refine lst_move rfl rfl ?_
                refine lst_nil ?_
                refine ex_round' (A3, c3, full3, rws3, i + 1) ⟨hI3.skip_none hk3 hst, hk3, hkl3, hi'⟩ (by (try dsimp only); omega) (by (try dsimp only); repeat (first | exact Sub.nil _ | refine Sub.cons rfl ?_)) pkk
              · skip
                have hc5' : used.testBit i = true ∧ mayN x (tget k.team j) = true := by simpa using hc5
                refine cod_skip ?_
                refine ex_then ?_
                refine any_begin [.b b18] F.follows 9 rfl [false, false, false, false, false, false, false, false, false] rfl ?_
                refine any_tk 0 rfl rfl rfl (yld_move rfl) ?_
                refine any_tk 1 rfl rfl rfl (yld_loadN rfl F.agg89 F.ti89) ?_
                refine any_tk 2 rfl rfl rfl (yld_move rfl) ?_
                refine any_tk 3 rfl rfl rfl (yld_field_z rfl F.fi142_1 F.ti79) ?_
                refine any_tk 4 rfl rfl rfl (yld_index_arr (j := _) rfl rfl Tryd.underlying79 F.ti77 rfl (by omega)) ?_
                refine any_tk 5 rfl rfl rfl (yld_load_at rfl F.one77 (fun a w ha => cell_of_blk (ha.mem_blk (InB.mem (b := b14))) (wk_get k hj3))) ?_
                refine any_one 6 (by kernel_rfl) rfl rfl ?_
                refine lst_fn0 (vs := [_, _]) rfl rfl F.ent91 (fun a w ha => put_c x (tget k.team j) hxo (by have := tget_lo hklo j; omega) w) ?_
                refine lst_nil ?_
                refine any_next sbl ?_
                refine any_tk 7 rfl rfl rfl (yld_index_arr (j := _) rfl rfl Tryd.underlying79 F.ti77 rfl (by omega)) ?_
                refine any_one 8 (by kernel_rfl) rfl rfl ?_
                refine lst_store_any rfl rfl F.ti77 (by show 0 + j * 1 < 3; omega) (tput_cells (putT x k.team j) hj3) UpB.upd ?_
                refine lst_nil ?_
                refine any_next sbl ?_
                refine any_done rfl (by kernel_rfl) ?_
                refine ex_block_normal ?_
                refine ex_then ?_
                refine cod_region ?_
                refine lst_int rfl rfl rfl (fun w => bin_add w (wrap_i64' _ (by omega) (by omega))) ?_
                refine lst_move rfl rfl ?_
                refine lst_nil ?_
                refine ex_round' (j + 1) ⟨hj', fun _ => hc5'.1, by rw [mayT_succ, hmay, hc5'.2]; rfl⟩ (by (try dsimp only); omega) (by (try dsimp only); repeat (first | exact Sub.nil _ | refine Sub.cons rfl ?_)) pkk
          · skip
            obtain rfl : j = n := by omega
            have hst := stepT_some hi' hxd (hub (by omega)) hmay
            have hlo' := putT_lo hxo hklo j
            refine cod_exit ?_
            refine ex_then_exit ?_
            refine ex_then_exit ?_
            refine ex_block_exit ?_
            refine ex_then ?_
            refine cod_seq ?_
            refine cod_region ?_
            refine lst_loadN rfl rfl F.agg79 F.ti79 ?_
            refine lst_field_z rfl rfl F.fi142_1 F.ti79 ?_
            refine lst_loadN rfl rfl F.agg79 F.ti79 ?_
            refine lst_bin rfl rfl rfl (run_neq_team (t := putT x k.team j) (u := k.team) hlo'.ok hklo.ok _ _) ?_
            refine lst_nil ?_
            refine ex_then ?_
            refine cod_cond_dec rfl (fun hc6 => ?_) (fun hc6 => ?_)
            · skip
              refine cod_ghost (G := Option Addr × Nat × Option Addr × Nat) (fun _ => True) (fun _ => [(2, .int .i64 (j : Int)), (3, .int .i64 most), (4, .func (.func fid) ([] : List Value).toArray cap.toArray), (5, .pointer (some ⟨b5, 0, none⟩)), (12, .pointer (some ⟨b22, 0, none⟩)), (13, .func (.func 112) [.pointer (some ⟨b22, 0, none⟩)].toArray ([] : List Value).toArray), (14, .pointer (some ⟨b14, 0, none⟩)), (49, .slice (some ⟨gA, 0, none⟩) ags.length cg), (50, .int .i64 (ags.length : Int)), (51, .int .i64 (i : Int))]) (fun g => .blk b22 (.cells [.slice g.1 (pushT (full3.drop (kk + 1)) (full3.map Wk.team) (⟨g.2.2.1, g.2.2.2, k.how ++ [i], putT x k.team j⟩ : Wk)).length g.2.1, .map (some b20)].toArray 139 (0, 0)) :: .blk b20 (metObj (pushM (full3.map Wk.team) (putT x k.team j))) :: .que 142 4 g.1 (pushT (full3.drop (kk + 1)) (full3.map Wk.team) (⟨g.2.2.1, g.2.2.2, k.how ++ [i], putT x k.team j⟩ : Wk)).length g.2.1 ((pushT (full3.drop (kk + 1)) (full3.map Wk.team) (⟨g.2.2.1, g.2.2.2, k.how ++ [i], putT x k.team j⟩ : Wk)).flatMap Wk.cells) :: .blk b14 (.cells [.slice k.A k.how.length k.c, .int .u8 (k.team.1 : Int), .int .u8 (k.team.2.1 : Int), .int .u8 (k.team.2.2 : Int)].toArray 142 (0, 0)) :: .blk b5 (.cells [.slice (some ⟨gA, 0, none⟩) ags.length cg, .int .u8 (used : Int)].toArray 75 (0, 0)) :: r :: (((⟨g.2.2.1, g.2.2.2, k.how ++ [i], putT x k.team j⟩ : Wk) :: rws3).map Wk.res ++ T)) ?_ ?_
              · skip
                refine any_begin [.b b22, .b b20, .q A3] F.follows 11 rfl [false, false, false, false, false, false, false, false, false, false, false] rfl ?_
                refine any_tk 0 rfl rfl rfl (yld_move rfl) ?_
                refine any_tk 1 rfl rfl rfl (yld_loadN rfl F.agg79 F.ti79) ?_
                refine any_tk 2 rfl rfl rfl (yld_field_z rfl F.fi142_0 F.ti25) ?_
                refine any_tk 3 rfl rfl rfl (yld_load rfl F.one25) ?_
                refine any_tk 5 rfl rfl rfl (yld_move rfl) ?_
                refine any_tk 8 rfl rfl rfl (yld_loadN rfl F.agg79 F.ti79) ?_
                refine any_two 4 6 (by kernel_rfl) rfl rfl rfl rfl ?_ ?_
                · skip
                  have hkr := hI3.rows k (List.mem_of_getElem? hk3)
                  have hhow := hI3.lens _ _ hk3
                  have hkn : (k.how ++ [i]).length = k.how.length + 1 := by simp
                  refine lst_fn (X := Option Addr × Nat) (vs := [_]) (p := fun _ => True) (val := fun x => .slice x.1 k.how.length x.2) (rs := fun x => [.row 3 1 x.1 k.how.length x.2 (ints k.how)]) rfl rfl F.ent114 (fun a w ha => (clone_c k.A k.c k.how (by omega) (fun h => List.eq_nil_of_length_eq_zero (row_nil ha (e := 3) (size := 1) (n := k.how.length) (c := k.c) (xs := ints k.how) (by simp; exact .inr (.inl ⟨k, hkr, rfl⟩)) h)) w (row_reads ha (cells := ncell) (size := 1) (e := 3) (c := k.c) (n := k.how.length) (fun _ => rfl) (by rw [← ints_flat]; simp; exact .inr (.inl ⟨k, hkr, rfl⟩)) rfl)).mono (fun e w' h => by obtain ⟨A', c', h1, h2⟩ := h; exact ⟨(A', c'), trivial, h1, h2⟩)) ?_
                  rintro ⟨Ac, cc⟩ -
                  dsimp only [List.cons_append, List.nil_append]
                  refine lst_nil ?_
                  refine any_next sbl ?_
                  refine any_one 6 (by kernel_rfl) rfl rfl ?_
                  refine lst_lit (vs := [(0, _)]) rfl rfl Tryd.underlying25 F.ti3 rfl rfl rfl ?_
                  intro b95
                  refine lst_nil ?_
                  refine any_next sbl ?_
                  refine any_one 7 (by kernel_rfl) rfl rfl ?_
                  refine lst_append rfl rfl rfl Tryd.underlying25 F.ti3 rfl rfl rfl (by unfold maxLen; omega) (by omega) ?_
                  intro An cn
                  refine lst_nil ?_
                  refine any_next sbl ?_
                  refine any_tk 9 rfl rfl rfl (yld_struct (vs := [(0, _), (1, _)]) (l' := [_, _, _, _]) rfl F.ti142 F.pl142 (.cons rfl rfl (.cons rfl rfl (.nil _))) rfl) ?_
                  refine any_one 10 (by kernel_rfl) rfl rfl ?_
                  refine lst_call (X := Option Addr × Nat) (first := [.pointer (some ⟨b22, 0, none⟩)]) (cap := []) (vs := [_, _]) (p := fun _ => True) (val := fun _ => .tuple #[]) (rs := fun y => .blk b22 (.cells [.slice y.1 (pushT (full3.drop (kk + 1)) (full3.map Wk.team) (⟨An, cn, k.how ++ [i], putT x k.team j⟩ : Wk)).length y.2, .map (some b20)].toArray 139 (0, 0)) :: .blk b20 (metObj (pushM (full3.map Wk.team) (putT x k.team j))) :: .que 142 4 y.1 (pushT (full3.drop (kk + 1)) (full3.map Wk.team) (⟨An, cn, k.how ++ [i], putT x k.team j⟩ : Wk)).length y.2 ((pushT (full3.drop (kk + 1)) (full3.map Wk.team) (⟨An, cn, k.how ++ [i], putT x k.team j⟩ : Wk)).flatMap Wk.cells) :: .blk b18 (.cells [.int .u8 ((putT x k.team j).1 : Int), .int .u8 ((putT x k.team j).2.1 : Int), .int .u8 ((putT x k.team j).2.2 : Int)].toArray 79 (0, 0)) :: .blk b17 (.cells [.int .i64 (x.needs : Int), .int .i64 (x.no : Int), .int .i64 (x.takes : Int), .int .i64 (x.leaves : Int), .int .i64 (x.cost : Int)].toArray 89 (0, 0)) :: .blk b14 (.cells [.slice k.A k.how.length k.c, .int .u8 (k.team.1 : Int), .int .u8 (k.team.2.1 : Int), .int .u8 (k.team.2.2 : Int)].toArray 142 (0, 0)) :: .blk b5 (.cells [.slice (some ⟨gA, 0, none⟩) ags.length cg, .int .u8 (used : Int)].toArray 75 (0, 0)) :: r :: .row 3 1 An (k.how.length + 1) cn (ints k.how ++ [.int .i64 (i : Int)]) :: (rws3.map Wk.res ++ T)) rfl rfl rfl F.ent112 (fun a w ha => by
                    have h := push_c (bq := b22) (bm := b20) (A := A3) (c := c3) (todo := full3.drop (kk + 1)) (met := full3.map Wk.team) (k := (⟨An, cn, k.how ++ [i], putT x k.team j⟩ : Wk)) (T := .blk b18 (.cells [.int .u8 ((putT x k.team j).1 : Int), .int .u8 ((putT x k.team j).2.1 : Int), .int .u8 ((putT x k.team j).2.2 : Int)].toArray 79 (0, 0)) :: .blk b17 (.cells [.int .i64 (x.needs : Int), .int .i64 (x.no : Int), .int .i64 (x.takes : Int), .int .i64 (x.leaves : Int), .int .i64 (x.cost : Int)].toArray 89 (0, 0)) :: .blk b14 (.cells [.slice k.A k.how.length k.c, .int .u8 (k.team.1 : Int), .int .u8 (k.team.2.1 : Int), .int .u8 (k.team.2.2 : Int)].toArray 142 (0, 0)) :: .blk b5 (.cells [.slice (some ⟨gA, 0, none⟩) ags.length cg, .int .u8 (used : Int)].toArray 75 (0, 0)) :: r :: .row 3 1 An (k.how.length + 1) cn (ints k.how ++ [.int .i64 (i : Int)]) :: (rws3.map Wk.res ++ T)) rfl (by simp; omega) (fun u hu => by obtain ⟨v, hv, rfl⟩ := List.mem_map.1 hu; exact (hI3.lo v hv).ok) hlo'.ok (ha.pck pkk)
                    dsimp only at h
                    rw [hkn] at h
                    exact h.mono (fun e w' h => by obtain ⟨A', c', h1, h2⟩ := h; exact ⟨(A', c'), trivial, h1, h2⟩)) ?_
                  rintro ⟨A4, c4⟩ -
                  dsimp only
                  refine lst_nil ?_
                  refine any_next sbl ?_
                  refine any_done rfl (by kernel_rfl) ?_
                  exact ex_ghost (A4, c4, An, cn) trivial sbn (by simp only [List.map_cons, List.cons_append, Wk.res, hkn, ints_snoc]; repeat (first | exact Pck.nil _ | exact Pck.refl _ | exact Pck.suffix _ _ | (apply Pck.cons; focus ((repeat (first | exact Rem.here _ | apply Rem.there)); done)) | refine Pck.skip _ ?_))
                · skip
                  refine lst_lit (vs := [(0, _)]) rfl rfl Tryd.underlying25 F.ti3 rfl rfl rfl ?_
                  intro b95
                  refine lst_nil ?_
                  refine any_next sbl ?_
                  refine any_one 4 (by kernel_rfl) rfl rfl ?_
                  have hkr := hI3.rows k (List.mem_of_getElem? hk3)
                  have hhow := hI3.lens _ _ hk3
                  have hkn : (k.how ++ [i]).length = k.how.length + 1 := by simp
                  refine lst_fn (X := Option Addr × Nat) (vs := [_]) (p := fun _ => True) (val := fun x => .slice x.1 k.how.length x.2) (rs := fun x => [.row 3 1 x.1 k.how.length x.2 (ints k.how)]) rfl rfl F.ent114 (fun a w ha => (clone_c k.A k.c k.how (by omega) (fun h => List.eq_nil_of_length_eq_zero (row_nil ha (e := 3) (size := 1) (n := k.how.length) (c := k.c) (xs := ints k.how) (by simp; exact .inr (.inl ⟨k, hkr, rfl⟩)) h)) w (row_reads ha (cells := ncell) (size := 1) (e := 3) (c := k.c) (n := k.how.length) (fun _ => rfl) (by rw [← ints_flat]; simp; exact .inr (.inl ⟨k, hkr, rfl⟩)) rfl)).mono (fun e w' h => by obtain ⟨A', c', h1, h2⟩ := h; exact ⟨(A', c'), trivial, h1, h2⟩)) ?_
                  rintro ⟨Ac, cc⟩ -
                  dsimp only [List.cons_append, List.nil_append]
                  refine lst_nil ?_
                  refine any_next sbl ?_
                  refine any_one 7 (by kernel_rfl) rfl rfl ?_
                  refine lst_append rfl rfl rfl Tryd.underlying25 F.ti3 rfl rfl rfl (by unfold maxLen; omega) (by omega) ?_
                  intro An cn
                  refine lst_nil ?_
                  refine any_next sbl ?_
                  refine any_tk 9 rfl rfl rfl (yld_struct (vs := [(0, _), (1, _)]) (l' := [_, _, _, _]) rfl F.ti142 F.pl142 (.cons rfl rfl (.cons rfl rfl (.nil _))) rfl) ?_
                  refine any_one 10 (by kernel_rfl) rfl rfl ?_
                  refine lst_call (X := Option Addr × Nat) (first := [.pointer (some ⟨b22, 0, none⟩)]) (cap := []) (vs := [_, _]) (p := fun _ => True) (val := fun _ => .tuple #[]) (rs := fun y => .blk b22 (.cells [.slice y.1 (pushT (full3.drop (kk + 1)) (full3.map Wk.team) (⟨An, cn, k.how ++ [i], putT x k.team j⟩ : Wk)).length y.2, .map (some b20)].toArray 139 (0, 0)) :: .blk b20 (metObj (pushM (full3.map Wk.team) (putT x k.team j))) :: .que 142 4 y.1 (pushT (full3.drop (kk + 1)) (full3.map Wk.team) (⟨An, cn, k.how ++ [i], putT x k.team j⟩ : Wk)).length y.2 ((pushT (full3.drop (kk + 1)) (full3.map Wk.team) (⟨An, cn, k.how ++ [i], putT x k.team j⟩ : Wk)).flatMap Wk.cells) :: .blk b18 (.cells [.int .u8 ((putT x k.team j).1 : Int), .int .u8 ((putT x k.team j).2.1 : Int), .int .u8 ((putT x k.team j).2.2 : Int)].toArray 79 (0, 0)) :: .blk b17 (.cells [.int .i64 (x.needs : Int), .int .i64 (x.no : Int), .int .i64 (x.takes : Int), .int .i64 (x.leaves : Int), .int .i64 (x.cost : Int)].toArray 89 (0, 0)) :: .blk b14 (.cells [.slice k.A k.how.length k.c, .int .u8 (k.team.1 : Int), .int .u8 (k.team.2.1 : Int), .int .u8 (k.team.2.2 : Int)].toArray 142 (0, 0)) :: .blk b5 (.cells [.slice (some ⟨gA, 0, none⟩) ags.length cg, .int .u8 (used : Int)].toArray 75 (0, 0)) :: r :: .row 3 1 An (k.how.length + 1) cn (ints k.how ++ [.int .i64 (i : Int)]) :: (rws3.map Wk.res ++ T)) rfl rfl rfl F.ent112 (fun a w ha => by
                    have h := push_c (bq := b22) (bm := b20) (A := A3) (c := c3) (todo := full3.drop (kk + 1)) (met := full3.map Wk.team) (k := (⟨An, cn, k.how ++ [i], putT x k.team j⟩ : Wk)) (T := .blk b18 (.cells [.int .u8 ((putT x k.team j).1 : Int), .int .u8 ((putT x k.team j).2.1 : Int), .int .u8 ((putT x k.team j).2.2 : Int)].toArray 79 (0, 0)) :: .blk b17 (.cells [.int .i64 (x.needs : Int), .int .i64 (x.no : Int), .int .i64 (x.takes : Int), .int .i64 (x.leaves : Int), .int .i64 (x.cost : Int)].toArray 89 (0, 0)) :: .blk b14 (.cells [.slice k.A k.how.length k.c, .int .u8 (k.team.1 : Int), .int .u8 (k.team.2.1 : Int), .int .u8 (k.team.2.2 : Int)].toArray 142 (0, 0)) :: .blk b5 (.cells [.slice (some ⟨gA, 0, none⟩) ags.length cg, .int .u8 (used : Int)].toArray 75 (0, 0)) :: r :: .row 3 1 An (k.how.length + 1) cn (ints k.how ++ [.int .i64 (i : Int)]) :: (rws3.map Wk.res ++ T)) rfl (by simp; omega) (fun u hu => by obtain ⟨v, hv, rfl⟩ := List.mem_map.1 hu; exact (hI3.lo v hv).ok) hlo'.ok (ha.pck pkk)
                    dsimp only at h
                    rw [hkn] at h
                    exact h.mono (fun e w' h => by obtain ⟨A', c', h1, h2⟩ := h; exact ⟨(A', c'), trivial, h1, h2⟩)) ?_
                  rintro ⟨A4, c4⟩ -
                  dsimp only
                  refine lst_nil ?_
                  refine any_next sbl ?_
                  refine any_done rfl (by kernel_rfl) ?_
                  exact ex_ghost (A4, c4, An, cn) trivial sbn (by simp only [List.map_cons, List.cons_append, Wk.res, hkn, ints_snoc]; repeat (first | exact Pck.nil _ | exact Pck.refl _ | exact Pck.suffix _ _ | (apply Pck.cons; focus ((repeat (first | exact Rem.here _ | apply Rem.there)); done)) | refine Pck.skip _ ?_))
              · skip
                rintro ⟨A4, c4, An, cn⟩ -
                dsimp only
                refine ex_block_normal ?_
                refine ex_then ?_
                refine cod_region ?_
                refine lst_int rfl rfl rfl (fun w => bin_add w (wrap_i64' _ (by omega) (by have := hok.1; omega))) ?_
                refine lst_move rfl rfl ?_
                refine lst_nil ?_
                have hI' := hI3.push (kn := (⟨An, cn, k.how ++ [i], putT x k.team j⟩ : Wk)) hk3 hi' hst rfl hc2 hlo'
                refine ex_round' (A4, c4, pushF full3 (⟨An, cn, k.how ++ [i], putT x k.team j⟩ : Wk), (⟨An, cn, k.how ++ [i], putT x k.team j⟩ : Wk) :: rws3, i + 1) ⟨hI', pushF_get hk3, (List.getElem?_eq_some_iff.1 (pushF_get hk3)).1, hi'⟩ (by (try dsimp only); omega) (by (try dsimp only); repeat (first | exact Sub.nil _ | refine Sub.cons rfl ?_)) (by dsimp only; rw [pushF_drop (by omega), pushF_map]; repeat (first | exact Pck.nil _ | exact Pck.refl _ | exact Pck.suffix _ _ | (apply Pck.cons; focus ((repeat (first | exact Rem.here _ | apply Rem.there)); done)) | refine Pck.skip _ ?_))
            · skip
              have hsame : putT x k.team j = k.team := Classical.not_not.1 hc6
              rw [hsame] at hst
              refine cod_skip ?_
              refine ex_block_normal ?_
              refine ex_then ?_
              refine cod_region ?_
              refine lst_int rfl rfl rfl (fun w => bin_add w (wrap_i64' _ (by omega) (by have := hok.1; omega))) ?_
              refine lst_move rfl rfl ?_
              refine lst_nil ?_
              refine ex_round' (A3, c3, full3, rws3, i + 1) ⟨hI3.same hk3 hst, hk3, hkl3, hi'⟩ (by (try dsimp only); omega) (by (try dsimp only); repeat (first | exact Sub.nil _ | refine Sub.cons rfl ?_)) pkk
        · skip
          refine cod_exit ?_
          refine ex_then_exit ?_
          refine ex_then_exit ?_
          refine ex_block_exit ?_
          refine ex_scope_normal ?_
          refine ex_block_normal ?_
          obtain rfl : i = ags.length := by omega
          have hI' := hI3.next hk3 hc1
          have hlen3 := hI3.len
          refine ex_round' (A3, c3, full3, kk + 1, rws3) hI' (by (try dsimp only); omega) (by (try dsimp only); repeat (first | exact Sub.nil _ | refine Sub.cons rfl ?_)) pkk

end Go.Proofs.YtofkhehcnfiopaaDoor.N
namespace Go.Proofs.YtofkhehcnfiopaaDoor.N
open Go Go.RowKit Go.Proofs
set_option linter.unusedSectionVars false
variable [I : Sys]
/-- The first m melts are clear. -/
def clearT (p : Nat) (t : Tm) (m : Nat) : Bool := (List.range m).all fun j => decide (nn (tget t j) p = 0)
theorem clearT_succ (p : Nat) (t : Tm) (m : Nat) : clearT p t (m + 1) = (clearT p t m && decide (nn (tget t m) p = 0)) := by simp [clearT, List.range_succ]
theorem clearT_false {p m j : Nat} {t : Tm} (hj : j < m) (h : ¬ nn (tget t j) p = 0) : clearT p t m = false := by
  unfold clearT
  rw [List.all_eq_false]
  exact ⟨j, by simpa using hj, by simpa using h⟩
theorem tget_ok {t : Tm} (h : Tm.ok t) (j : Nat) : tget t j < 256 := by
  rcases j with _ | _ | j
  · exact h.1
  · exact h.2.1
  · exact h.2.2
/-- An agent tells two melts apart. -/
def tells (x : Ag) (t : Tm) : Bool := mayN x t.1 != mayN x t.2.1
def tellsI (ags : List Ag) (t : Tm) : Nat := ags.findIdx (tells · t)
def tellsG (ags : List Ag) (t : Tm) : Bool := ags.any (tells · t)
theorem tells_first {ags : List Ag} {t : Tm} {x : Ag} {k : Nat} (hx : ags[k]? = some x) (h0 : (ags.take k).all (fun x => !(tells x t)) = true) (h1 : tells x t = true) : tellsI ags t = k := by
  obtain ⟨hk, he⟩ := List.getElem?_eq_some_iff.1 hx
  unfold tellsI
  rw [List.findIdx_eq hk]
  refine ⟨by rw [he]; exact h1, fun j hj => ?_⟩
  have := List.all_eq_true.1 h0 ags[j] (List.mem_take_iff_getElem.2 ⟨j, by omega, rfl⟩)
  simpa using this
theorem tells_some {ags : List Ag} {t : Tm} {x : Ag} {k : Nat} (hx : ags[k]? = some x) (h1 : tells x t = true) : tellsG ags t = true := List.any_eq_true.2 ⟨x, List.mem_of_getElem? hx, h1⟩
theorem tells_none {ags : List Ag} {t : Tm} (h0 : ags.all (fun x => !(tells x t)) = true) : tellsG ags t = false := by
  unfold tellsG
  rw [List.any_eq_false]
  intro x hx
  have := List.all_eq_true.1 h0 x hx
  simpa using this
theorem run_neq_bool {P : Program} {t : TypeId} (ht : P.underlying t = some .bool) (u v : Bool) (x y : Operand) (w : World) : (do eqGuard .neq t x y (.bool u) (.bool v); binOp .neq t (.bool u) (.bool v) : Sem Value).run P w = .ok (.bool (u != v)) w := by
  have hg : (eqGuard .neq t x y (.bool u) (.bool v)).run P w = .ok () w := by simp [eqGuard]
  have hb : (binOp .neq t (.bool u) (.bool v)).run P w = .ok (.bool (u != v)) w := by
    show (do pure (.bool (!(← Op.equal t (.bool u) (.bool v)))) : Sem Value).run P w = _
    have he : (Op.equal t (.bool u) (.bool v)).run P w = .ok (u == v) w := by
      show (Op.equalIn (9999 + 1) t (.bool u) (.bool v)).run P w = _
      unfold Op.equalIn
      simp only [Sem.run_bind, run_underlying ht, Result.andThen_ok]
      simp
    simp only [Sem.run_bind, he, Result.andThen_ok, Sem.run_pure]
    rfl
  simp only [Sem.run_bind, hg, Result.andThen_ok, hb]
end Go.Proofs.YtofkhehcnfiopaaDoor.N
namespace Go.Proofs.YtofkhehcnfiopaaDoor.N
open Go Go.RowKit Go.Proofs
set_option linter.unusedSectionVars false
variable [I : Sys]
theorem F.ent115 : Enters Tryd.prog 115 := enters_of Tryd.func115 rfl (by kernel_rfl)
theorem F.ent79 : Enters Tryd.prog 79 := enters_of Tryd.func79 rfl (by kernel_rfl)
theorem F.ent80 : Enters Tryd.prog 80 := enters_of Tryd.func80 rfl (by kernel_rfl)
theorem F.ent81 : Enters Tryd.prog 81 := enters_of Tryd.func81 rfl (by kernel_rfl)
theorem shortest1_c {C : Ctx} {fr : List (Nat × Value)} {T : List Res} {a : Act} {w : World} (hC : C.P = Tryd.prog) {bp p : Nat} {t : Tm} (ht : Tm.ok t) (hp : p < 256) (ha : At C fr (.blk bp (.cells [.int .u8 (p : Int)].toArray 77 (0, 0)) :: T) a w) : Calls C.P 122 #[.agg [.int .u8 (t.1 : Int), .int .u8 (t.2.1 : Int), .int .u8 (t.2.2 : Int)].toArray, .pointer (some ⟨bp, 0, none⟩)] w fun e w' => e = .returned (.bool (decide (nn t.1 p = 0))) ∧ At C fr (.blk bp (.cells [.int .u8 (p : Int)].toArray 77 (0, 0)) :: T) a w' := by
  obtain ⟨P, B, w0, N0, ds⟩ := C
  obtain rfl : P = Tryd.prog := hC
  refine enter_in (N := 8) [(0, .agg [.int .u8 (t.1 : Int), .int .u8 (t.2.1 : Int), .int .u8 (t.2.2 : Int)].toArray), (1, .pointer (some ⟨bp, 0, none⟩))] ha Tryd.func122 rfl Tryd.ntmps122 rfl rfl ?_
  refine cod_seq ?_
  refine cod_region ?_
  refine lst_box rfl rfl ?_
  intro b2
  refine lst_assign rfl rfl ?_
  refine lst_nil ?_
  refine ex_then ?_
  refine cod_seq ?_
  refine cod_region ?_
  refine lst_index_lit (j := 0) (off := 0) rfl rfl rfl Tryd.underlying79 F.ti77 rfl rfl ?_
  refine lst_load rfl rfl F.one77 ?_
  refine lst_load rfl rfl F.one77 ?_
  refine lst_fn0 (vs := [_, _]) rfl rfl F.ent81 (fun a w ha => clear_c t.1 p ht.1 hp w) ?_
  refine lst_assign rfl rfl ?_
  refine lst_nil ?_
  refine ex_then ?_
  refine cod_ret ?_
  exact ex_ret rfl (fun a w ha => res_one rfl rfl ha) (fun _ _ ha' => ⟨rfl, ha.back (ha'.pck pkk)⟩)

theorem both11_c {C : Ctx} {fr : List (Nat × Value)} {T : List Res} {a : Act} {w : World} (hC : C.P = Tryd.prog) {bp p f : Nat} (hf : f < 256) (hp : p < 256) (ha : At C fr (.blk bp (.cells [.int .u8 (p : Int)].toArray 77 (0, 0)) :: T) a w) : Calls C.P 80 #[.int .u8 (f : Int), .pointer (some ⟨bp, 0, none⟩)] w fun e w' => e = .returned (.bool (!(decide (nn f p = 0)))) ∧ At C fr (.blk bp (.cells [.int .u8 (p : Int)].toArray 77 (0, 0)) :: T) a w' := by
  obtain ⟨P, B, w0, N0, ds⟩ := C
  obtain rfl : P = Tryd.prog := hC
  refine enter_in (N := 8) [(0, .int .u8 (f : Int)), (1, .pointer (some ⟨bp, 0, none⟩))] ha Tryd.func80 rfl Tryd.ntmps80 rfl rfl ?_
  refine cod_seq ?_
  refine cod_region ?_
  refine lst_assign rfl rfl ?_
  refine lst_nil ?_
  refine ex_then ?_
  refine cod_seq ?_
  refine cod_region ?_
  refine lst_move rfl rfl ?_
  refine lst_load rfl rfl F.one77 ?_
  refine lst_fn0 (vs := [_, _]) rfl rfl F.ent81 (fun a w ha => clear_c f p hf hp w) ?_
  refine lst_not rfl rfl ?_
  refine lst_assign rfl rfl ?_
  refine lst_nil ?_
  refine ex_then ?_
  refine cod_ret ?_
  exact ex_ret rfl (fun a w ha => res_one rfl rfl ha) (fun _ _ ha' => ⟨rfl, ha.back (ha'.pck pkk)⟩)

theorem index_c {C : Ctx} {fr : List (Nat × Value)} {T : List Res} {a : Act} {w : World} (hC : C.P = Tryd.prog) {bp p b3 m : Nat} {t : Tm} (ht : Tm.ok t) (hp : p < 256) (hm : m ≤ 3) (ha : At C fr (.blk bp (.cells [.int .u8 (p : Int)].toArray 77 (0, 0)) :: .blk b3 (.cells [.int .u8 (t.1 : Int), .int .u8 (t.2.1 : Int), .int .u8 (t.2.2 : Int)].toArray 79 (0, 0)) :: T) a w) : Calls C.P 115 #[.slice (some ⟨b3, 0, none⟩) m 3, .func (.func 80) ([] : List Value).toArray [.pointer (some ⟨bp, 0, none⟩)].toArray] w fun e w' => ∃ z : Int, e = .returned (.int .i64 z) ∧ (0 ≤ z ↔ clearT p t m = false) ∧ At C fr (.blk bp (.cells [.int .u8 (p : Int)].toArray 77 (0, 0)) :: .blk b3 (.cells [.int .u8 (t.1 : Int), .int .u8 (t.2.1 : Int), .int .u8 (t.2.2 : Int)].toArray 79 (0, 0)) :: T) a w' := by
  obtain ⟨P, B, w0, N0, ds⟩ := C
  obtain rfl : P = Tryd.prog := hC
  refine enter_in (N := 19) [(0, .slice (some ⟨b3, 0, none⟩) m 3), (1, .func (.func 80) ([] : List Value).toArray [.pointer (some ⟨bp, 0, none⟩)].toArray)] ha Tryd.func115 rfl Tryd.ntmps115 rfl rfl ?_
  refine cod_seq ?_
  refine cod_region ?_
  refine lst_assign rfl rfl ?_
  refine lst_nil ?_
  refine ex_then ?_
  refine cod_seq ?_
  refine cod_seq ?_
  refine cod_region ?_
  refine lst_move rfl rfl ?_
  refine lst_len rfl rfl Tryd.underlying84 ?_
  refine lst_move rfl rfl ?_
  refine lst_nil ?_
  refine ex_then ?_
  refine cod_block ?_
  refine cod_loop (G := Nat) (fun k => k ≤ m ∧ clearT p t k = true) (fun k => m - k) (fun k => [(0, .slice (some ⟨b3, 0, none⟩) m 3), (1, .func (.func 80) ([] : List Value).toArray [.pointer (some ⟨bp, 0, none⟩)].toArray), (7, .int .i64 (m : Int)), (8, .int .i64 (k : Int))]) (fun k => .blk bp (.cells [.int .u8 (p : Int)].toArray 77 (0, 0)) :: .blk b3 (.cells [.int .u8 (t.1 : Int), .int .u8 (t.2.1 : Int), .int .u8 (t.2.2 : Int)].toArray 79 (0, 0)) :: T) 0 ⟨Nat.zero_le _, rfl⟩ sbn sbl ?_
  intro k hk
  (try dsimp only at hk ⊢)
  refine cod_seq ?_
  refine cod_region ?_
  refine lst_int rfl rfl rfl bin_lss ?_
  refine lst_nil ?_
  refine ex_then ?_
  refine cod_seq ?_
  refine cod_cond_dec rfl (fun hc0 => ?_) (fun hc0 => ?_)
  · skip
    have hk' : k < m := by omega
    have hk3 : k < 3 := by omega
    refine cod_skip ?_
    refine ex_then ?_
    refine cod_seq ?_
    refine cod_block ?_
    refine cod_seq ?_
    refine cod_region ?_
    refine lst_move rfl rfl ?_
    refine lst_assign rfl rfl ?_
    refine lst_nil ?_
    refine ex_then ?_
    refine cod_seq ?_
    refine cod_region ?_
    refine lst_move rfl rfl ?_
    refine lst_move rfl rfl ?_
    refine lst_move rfl rfl ?_
    refine lst_index (j := k) rfl rfl rfl Tryd.underlying84 F.ti77 rfl hk' ?_
    refine lst_load_at (v := .int .u8 (tget t k : Int)) rfl rfl F.one77 (fun a w ha => by rw [Nat.zero_add, Nat.mul_one]; exact cell_of_blk (ha.mem_blk (InB.mem (b := b3))) (tget_cell t hk3)) ?_
    refine lst_call (X := Unit) (first := []) (cap := [.pointer (some ⟨bp, 0, none⟩)]) (vs := [_]) (p := fun _ => True) (val := fun _ => .bool (!(decide (nn (tget t k) p = 0)))) (rs := fun _ => .blk bp (.cells [.int .u8 (p : Int)].toArray 77 (0, 0)) :: .blk b3 (.cells [.int .u8 (t.1 : Int), .int .u8 (t.2.1 : Int), .int .u8 (t.2.2 : Int)].toArray 79 (0, 0)) :: T) rfl rfl rfl F.ent80 (fun a w ha => (both11_c rfl (tget_ok ht k) hp ha).mono (fun e w' h => ⟨(), trivial, h.1, h.2⟩)) ?_
    rintro ⟨⟩ -
    dsimp only
    refine lst_nil ?_
    refine ex_then ?_
    refine cod_cond_bool rfl (fun hc1 => ?_) (fun hc1 => ?_)
    · skip
      refine cod_seq ?_
      refine cod_region ?_
      refine lst_move rfl rfl ?_
      refine lst_assign rfl rfl ?_
      refine lst_nil ?_
      refine ex_then ?_
      refine cod_ret ?_
      refine ex_block_ret ?_
      refine ex_then_ret ?_
      refine ex_then_ret ?_
      refine ex_block_ret ?_
      refine ex_then_ret ?_
      have hf := clearT_false hk' (by simpa using hc1)
      exact ex_ret rfl (fun a w ha => res_one rfl rfl ha) (fun _ _ ha' => ⟨_, rfl, ⟨fun _ => hf, fun _ => by omega⟩, ha.back (ha'.pck pkk)⟩)
    · skip
      refine cod_skip ?_
      refine ex_block_normal ?_
      refine ex_then ?_
      refine cod_region ?_
      refine lst_int rfl rfl rfl (fun w => bin_add w (wrap_i64' _ (by omega) (by omega))) ?_
      refine lst_move rfl rfl ?_
      refine lst_nil ?_
      refine ex_round (k + 1) ⟨by omega, by rw [clearT_succ, hk.2]; simpa using hc1⟩ (by (try dsimp only); omega) sbn sbl
  · skip
    refine cod_exit ?_
    refine ex_then_exit ?_
    refine ex_then_exit ?_
    refine ex_block_exit ?_
    refine ex_then ?_
    refine cod_seq ?_
    refine cod_region ?_
    refine lst_assign rfl rfl ?_
    refine lst_nil ?_
    refine ex_then ?_
    refine cod_ret ?_
    obtain rfl : k = m := by omega
    exact ex_ret rfl (fun a w ha => res_one rfl rfl ha) (fun _ _ ha' => ⟨_, rfl, ⟨fun h => absurd h (by decide), fun h => by rw [hk.2] at h; cases h⟩, ha.back (ha'.pck pkk)⟩)

theorem contains_c {C : Ctx} {fr : List (Nat × Value)} {T : List Res} {a : Act} {w : World} (hC : C.P = Tryd.prog) {bp p b3 m : Nat} {t : Tm} (ht : Tm.ok t) (hp : p < 256) (hm : m ≤ 3) (ha : At C fr (.blk bp (.cells [.int .u8 (p : Int)].toArray 77 (0, 0)) :: .blk b3 (.cells [.int .u8 (t.1 : Int), .int .u8 (t.2.1 : Int), .int .u8 (t.2.2 : Int)].toArray 79 (0, 0)) :: T) a w) : Calls C.P 79 #[.slice (some ⟨b3, 0, none⟩) m 3, .func (.func 80) ([] : List Value).toArray [.pointer (some ⟨bp, 0, none⟩)].toArray] w fun e w' => e = .returned (.bool (!(clearT p t m))) ∧ At C fr (.blk bp (.cells [.int .u8 (p : Int)].toArray 77 (0, 0)) :: .blk b3 (.cells [.int .u8 (t.1 : Int), .int .u8 (t.2.1 : Int), .int .u8 (t.2.2 : Int)].toArray 79 (0, 0)) :: T) a w' := by
  obtain ⟨P, B, w0, N0, ds⟩ := C
  obtain rfl : P = Tryd.prog := hC
  refine enter_in (N := 9) [(0, .slice (some ⟨b3, 0, none⟩) m 3), (1, .func (.func 80) ([] : List Value).toArray [.pointer (some ⟨bp, 0, none⟩)].toArray)] ha Tryd.func79 rfl Tryd.ntmps79 rfl rfl ?_
  refine cod_seq ?_
  refine cod_region ?_
  refine lst_assign rfl rfl ?_
  refine lst_nil ?_
  refine ex_then ?_
  refine cod_seq ?_
  refine cod_region ?_
  refine lst_move rfl rfl ?_
  refine lst_move rfl rfl ?_
  refine lst_call (X := Int) (first := []) (cap := []) (vs := [_, _]) (p := fun z => 0 ≤ z ↔ clearT p t m = false) (val := fun z => .int .i64 z) (rs := fun _ => .blk bp (.cells [.int .u8 (p : Int)].toArray 77 (0, 0)) :: .blk b3 (.cells [.int .u8 (t.1 : Int), .int .u8 (t.2.1 : Int), .int .u8 (t.2.2 : Int)].toArray 79 (0, 0)) :: T) rfl rfl rfl F.ent115 (fun a w ha => (index_c rfl ht hp hm ha).mono (fun e w' h => by obtain ⟨z, h1, h2, h3⟩ := h; exact ⟨z, h2, h1, h3⟩)) ?_
  intro z hz
  dsimp only
  refine lst_int rfl rfl rfl bin_geq ?_
  refine lst_assign rfl rfl ?_
  refine lst_nil ?_
  refine ex_then ?_
  refine cod_ret ?_
  have e1 : decide (z ≥ 0) = !(clearT p t m) := by
    cases h : clearT p t m with
    | true => rw [h] at hz; simp; by_cases h0 : 0 ≤ z
              · have := hz.1 h0; cases this
              · omega
    | false => simp; exact hz.2 h
  exact ex_ret rfl (fun a w ha => res_one rfl rfl ha) (fun _ _ ha' => ⟨by rw [← e1], ha.back (ha'.pck pkk)⟩)

theorem both1_c {C : Ctx} {fr : List (Nat × Value)} {T : List Res} {a : Act} {w : World} (hC : C.P = Tryd.prog) {bp p bl m mc : Nat} {mA : Option Addr} {t : Tm} (ht : Tm.ok t) (hp : p < 256) (hm : m ≤ 3) (hl : Res.blk bl (.cells [.slice mA m mc].toArray 25 (0, 0)) ∈ T) (ha : At C fr (.blk bp (.cells [.int .u8 (p : Int)].toArray 77 (0, 0)) :: T) a w) : Calls C.P 78 #[.agg [.int .u8 (t.1 : Int), .int .u8 (t.2.1 : Int), .int .u8 (t.2.2 : Int)].toArray, .pointer (some ⟨bl, 0, none⟩), .pointer (some ⟨bp, 0, none⟩)] w fun e w' => e = .returned (.bool (clearT p t m)) ∧ At C fr (.blk bp (.cells [.int .u8 (p : Int)].toArray 77 (0, 0)) :: T) a w' := by
  obtain ⟨P, B, w0, N0, ds⟩ := C
  obtain rfl : P = Tryd.prog := hC
  refine enter_in (N := 11) [(0, .agg [.int .u8 (t.1 : Int), .int .u8 (t.2.1 : Int), .int .u8 (t.2.2 : Int)].toArray), (1, .pointer (some ⟨bl, 0, none⟩)), (2, .pointer (some ⟨bp, 0, none⟩))] ha Tryd.func78 rfl Tryd.ntmps78 rfl rfl ?_
  refine cod_seq ?_
  refine cod_region ?_
  refine lst_box rfl rfl ?_
  intro b3
  refine lst_assign rfl rfl ?_
  refine lst_nil ?_
  refine ex_then ?_
  refine cod_seq ?_
  refine cod_region ?_
  refine lst_load_at (v := .slice mA m mc) rfl rfl F.one25 (fun a w ha => cell_of_blk (ha.mem_blk (b := bl) (o := .cells [.slice mA m mc].toArray 25 (0, 0)) (by simp [hl])) rfl) ?_
  refine lst_len rfl rfl Tryd.underlying25 ?_
  refine lst_slice_arr rfl rfl rfl Tryd.underlying79 F.ti77 hm ?_
  refine lst_makeFunc (fs := []) (cs := [_]) rfl rfl rfl ?_
  refine lst_call (X := Unit) (first := []) (cap := []) (vs := [_, _]) (p := fun _ => True) (val := fun _ => .bool (!(clearT p t m))) (rs := fun _ => .blk bp (.cells [.int .u8 (p : Int)].toArray 77 (0, 0)) :: .blk b3 (.cells [.int .u8 (t.1 : Int), .int .u8 (t.2.1 : Int), .int .u8 (t.2.2 : Int)].toArray 79 (0, 0)) :: T) rfl rfl rfl F.ent79 (fun a w ha => (contains_c (b3 := b3) rfl ht hp hm (ha.pck pkk)).mono (fun e w' h => ⟨(), trivial, h.1, h.2⟩)) ?_
  rintro ⟨⟩ -
  dsimp only
  refine lst_not rfl rfl ?_
  refine lst_assign rfl rfl ?_
  refine lst_nil ?_
  refine ex_then ?_
  refine cod_ret ?_
  exact ex_ret rfl (fun a w ha => res_one rfl rfl ha) (fun _ _ ha' => ⟨by rw [Bool.not_not], ha.back (ha'.pck pkk)⟩)

theorem tells1_c {C : Ctx} {fr : List (Nat × Value)} {T : List Res} {a : Act} {w : World} (hC : C.P = Tryd.prog) {bc bi : Nat} {ags : List Ag} {used cg : Nat} {aA : Option Addr} {t : Tm} (hok : Oks ags) (ht : Tm.ok t) (hl : Res.blk bc (.cells [.slice aA ags.length cg, .int .u8 (used : Int)].toArray 75 (0, 0)) ∈ T) (hAg : Res.row 89 5 aA ags.length cg (ags.flatMap Ag.cells) ∈ T) (ha : At C fr (.blk bi (.cells [.int .i64 (-1)].toArray 3 (0, 0)) :: T) a w) : Calls C.P 84 #[.agg [.int .u8 (t.1 : Int), .int .u8 (t.2.1 : Int), .int .u8 (t.2.2 : Int)].toArray, .pointer (some ⟨bc, 0, none⟩), .pointer (some ⟨bi, 0, none⟩)] w fun e w' => e = .returned (.bool (tellsG ags t)) ∧ At C fr ((if tellsG ags t = true then .blk bi (.cells [.int .i64 (tellsI ags t : Int)].toArray 3 (0, 0)) else .blk bi (.cells [.int .i64 (-1)].toArray 3 (0, 0))) :: T) a w' := by
  obtain ⟨P, B, w0, N0, ds⟩ := C
  obtain rfl : P = Tryd.prog := hC
  refine enter_in (N := 26) [(0, .agg [.int .u8 (t.1 : Int), .int .u8 (t.2.1 : Int), .int .u8 (t.2.2 : Int)].toArray), (1, .pointer (some ⟨bc, 0, none⟩)), (2, .pointer (some ⟨bi, 0, none⟩))] ha Tryd.func84 rfl Tryd.ntmps84 rfl rfl ?_
  refine cod_seq ?_
  refine cod_region ?_
  refine lst_box rfl rfl ?_
  intro b3
  refine lst_assign rfl rfl ?_
  refine lst_nil ?_
  refine ex_then ?_
  refine cod_seq ?_
  refine cod_seq ?_
  refine cod_region ?_
  refine lst_field_z rfl rfl F.fi75_0 F.ti72 ?_
  refine lst_load_at (v := .slice aA ags.length cg) rfl rfl F.one72 (fun a w ha => cell_of_blk (ha.mem_blk (b := bc) (o := .cells [.slice aA ags.length cg, .int .u8 (used : Int)].toArray 75 (0, 0)) (by simp [hl])) rfl) ?_
  refine lst_len rfl rfl Tryd.underlying72 ?_
  refine lst_move rfl rfl ?_
  refine lst_nil ?_
  refine ex_then ?_
  refine cod_block ?_
  refine cod_loop (G := Nat) (fun k => k ≤ ags.length ∧ (ags.take k).all (fun x => !(tells x t)) = true) (fun k => ags.length - k) (fun k => [(2, .pointer (some ⟨bi, 0, none⟩)), (3, .pointer (some ⟨b3, 0, none⟩)), (8, .slice aA ags.length cg), (9, .int .i64 (ags.length : Int)), (10, .int .i64 (k : Int))]) (fun k => .blk b3 (.cells [.int .u8 (t.1 : Int), .int .u8 (t.2.1 : Int), .int .u8 (t.2.2 : Int)].toArray 79 (0, 0)) :: .blk bi (.cells [.int .i64 (-1)].toArray 3 (0, 0)) :: T) 0 ⟨Nat.zero_le _, rfl⟩ sbn sbl ?_
  intro k hk
  (try dsimp only at hk ⊢)
  refine cod_seq ?_
  refine cod_region ?_
  refine lst_int rfl rfl rfl bin_lss ?_
  refine lst_nil ?_
  refine ex_then ?_
  refine cod_seq ?_
  refine cod_cond_dec rfl (fun hc0 => ?_) (fun hc0 => ?_)
  · skip
    have hk' : k < ags.length := by omega
    obtain ⟨gA, hgA⟩ := row_some (ha.own _ (List.mem_cons.2 (.inr hAg))) (by omega)
    subst hgA
    obtain ⟨x, hx⟩ : ∃ x, ags[k]? = some x := ⟨_, List.getElem?_eq_getElem hk'⟩
    have hxo : x.ok := hok.2 x (List.mem_of_getElem? hx)
    refine cod_skip ?_
    refine ex_then ?_
    refine cod_seq ?_
    refine cod_block ?_
    refine cod_seq ?_
    refine cod_region ?_
    refine lst_move rfl rfl ?_
    refine lst_index (j := k) rfl rfl rfl Tryd.underlying72 F.ti89 rfl hk' ?_
    refine lst_loadN_at (l := [.int .i64 (x.needs : Int), .int .i64 (x.no : Int), .int .i64 (x.takes : Int), .int .i64 (x.leaves : Int), .int .i64 (x.cost : Int)]) rfl rfl F.agg89 F.ti89 rfl (fun a w ha j u hu => row_at ha (e := 89) (n := ags.length) (c := cg) (cells := Ag.cells) (by simp [hAg]) (fun _ => rfl) hx hu) ?_
    refine lst_alloc rfl F.ti89 ?_
    intro b6
    refine lst_assign rfl rfl ?_
    refine lst_store rfl rfl F.ti89 rfl ?_
    refine lst_nil ?_
    refine ex_then ?_
    refine cod_seq ?_
    refine any_begin [] F.follows 9 rfl [false, false, false, false, false, false, false, false, false] rfl ?_
    refine any_tk 0 rfl rfl rfl (yld_loadN rfl F.agg89 F.ti89) ?_
    refine any_tk 1 rfl rfl rfl (yld_index_lit (j := 0) (off := 0) rfl rfl Tryd.underlying79 F.ti77 rfl rfl) ?_
    refine any_tk 2 rfl rfl rfl (yld_load rfl F.one77) ?_
    refine any_tk 4 rfl rfl rfl (yld_loadN rfl F.agg89 F.ti89) ?_
    refine any_tk 5 rfl rfl rfl (yld_index_lit (j := 1) (off := 1) rfl rfl Tryd.underlying79 F.ti77 rfl rfl) ?_
    refine any_tk 6 rfl rfl rfl (yld_load rfl F.one77) ?_
    refine any_one 3 (by kernel_rfl) rfl rfl ?_
    refine lst_fn0 (vs := [_, _]) rfl rfl F.ent85 (fun a w ha => may_c x t.1 hxo ht.1 w) ?_
    refine lst_nil ?_
    refine any_next sbl ?_
    refine any_one 7 (by kernel_rfl) rfl rfl ?_
    refine lst_fn0 (vs := [_, _]) rfl rfl F.ent85 (fun a w ha => may_c x t.2.1 hxo ht.2.1 w) ?_
    refine lst_nil ?_
    refine any_next sbl ?_
    refine any_one 8 (by kernel_rfl) rfl rfl ?_
    refine lst_bin rfl rfl rfl (run_neq_bool Tryd.underlying4 _ _ _ _) ?_
    refine lst_nil ?_
    refine any_next sbl ?_
    refine any_done rfl (by kernel_rfl) ?_
    refine ex_then ?_
    refine cod_cond_bool rfl (fun hc1 => ?_) (fun hc1 => ?_)
    · skip
      refine cod_seq ?_
      refine cod_region ?_
      refine lst_move rfl rfl ?_
      refine lst_store rfl rfl F.ti3 rfl ?_
      refine lst_nil ?_
      refine ex_then ?_
      refine cod_seq ?_
      refine cod_region ?_
      refine lst_assign rfl rfl ?_
      refine lst_nil ?_
      refine ex_then ?_
      refine cod_ret ?_
      refine ex_block_ret ?_
      refine ex_then_ret ?_
      refine ex_then_ret ?_
      refine ex_block_ret ?_
      refine ex_then_ret ?_
      have ht1 : tells x t = true := by unfold tells; exact hc1
      have hi := tells_first hx hk.2 ht1
      have hg : tellsG ags t = true := tells_some hx ht1
      rw [hg, if_pos rfl, hi]
      exact ex_ret rfl (fun a w ha => res_one rfl rfl ha) (fun _ _ ha' => ⟨rfl, ha.back (ha'.pck pkk)⟩)
    · skip
      refine cod_skip ?_
      refine ex_block_normal ?_
      refine ex_then ?_
      refine cod_region ?_
      refine lst_int rfl rfl rfl (fun w => bin_add w (wrap_i64' _ (by omega) (by have := hok.1; omega))) ?_
      refine lst_move rfl rfl ?_
      refine lst_nil ?_
      have ht0 : tells x t = false := by unfold tells; exact hc1
      refine ex_round (k + 1) ⟨by omega, by rw [List.take_add_one, hx, List.all_append, hk.2]; simp [ht0]⟩ (by (try dsimp only); omega) sbn sbl
  · skip
    refine cod_exit ?_
    refine ex_then_exit ?_
    refine ex_then_exit ?_
    refine ex_block_exit ?_
    refine ex_then ?_
    refine cod_seq ?_
    refine cod_region ?_
    refine lst_assign rfl rfl ?_
    refine lst_nil ?_
    refine ex_then ?_
    refine cod_ret ?_
    have hg : tellsG ags t = false := tells_none (by have := hk.2; rwa [List.take_of_length_le (by omega)] at this)
    rw [hg, if_neg Bool.false_ne_true]
    exact ex_ret rfl (fun a w ha => res_one rfl rfl ha) (fun _ _ ha' => ⟨rfl, ha.back (ha'.pck pkk)⟩)

end Go.Proofs.YtofkhehcnfiopaaDoor.N
namespace Go.Proofs.YtofkhehcnfiopaaDoor.N
open Go Go.RowKit Go.Proofs
set_option linter.unusedSectionVars false
variable [I : Sys]
/-- What a search finds. -/
def FoundO (ags : List Ag) (used n : Nat) (most : Int) (t0 : Tm) (goal : Tm → Bool) : Option Wk → Prop
  | some k => IsFirst (stepT ags used n) ags.length most t0 goal k.how ∧ run (stepT ags used n) t0 k.how = some k.team ∧ goal k.team = true
  | none => NoWord (stepT ags used n) most t0 goal
def wayO (o : Option Wk) : Wk := o.getD ⟨none, 0, [], (0, 0, 0)⟩
def endO (r : Res) (r' : Tm → Res) : Option Wk → Res
  | some k => r' k.team
  | none => r
theorem find_o {C : Ctx} {fr : List (Nat × Value)} {T : List Res} {a : Act} {w : World} (hC : C.P = Tryd.prog) {ags : List Ag} {used n : Nat} {most : Int} {t0 : Tm} {goal : Tm → Bool} {aA : Option Addr} {cg : Nat} {fid : FuncId} {cap : List Value} {r : Res} {r' : Tm → Res} (hok : Oks ags) (hu : used < 256) (hn1 : 1 ≤ n) (hn3 : n ≤ 3) (h0 : Tm.lo t0) (hAg : Res.row 89 5 aA ags.length cg (ags.flatMap Ag.cells) ∈ T) (hent : Enters Tryd.prog fid)
    (hG : ∀ (N : Nat) (fr : List (Nat × Value)) (Y : List Res) (a : Act) (w : World) (t : Tm), Tm.lo t → (∀ x ∈ T, x ∈ Y) → At ⟨Tryd.prog, C.B, C.w0, N, []⟩ fr (r :: Y) a w → Calls Tryd.prog fid ([(.agg [.int .u8 (t.1 : Int), .int .u8 (t.2.1 : Int), .int .u8 (t.2.2 : Int)].toArray : Value)] ++ cap).toArray w (fun e w' => e = .returned (.bool (goal t)) ∧ At ⟨Tryd.prog, C.B, C.w0, N, []⟩ fr ((if goal t = true then r' t else r) :: Y) a w'))
    (ha : At C fr (r :: T) a w) : Calls C.P 77 #[.agg [.slice aA ags.length cg, .int .u8 (used : Int)].toArray, .agg [.int .u8 (t0.1 : Int), .int .u8 (t0.2.1 : Int), .int .u8 (t0.2.2 : Int)].toArray, .int .i64 (n : Int), .int .i64 most, .func (.func fid) ([] : List Value).toArray cap.toArray] w fun e w' =>
      ∃ o : Option Wk, FoundO ags used n most t0 goal o ∧ e = .returned (.tuple #[.slice (wayO o).A (wayO o).how.length (wayO o).c, .bool o.isSome]) ∧ At C fr (.row 3 1 (wayO o).A (wayO o).how.length (wayO o).c (ints (wayO o).how) :: endO r r' o :: T) a w' := by
  rw [hC]
  have h := find_c (most := most) hC hok hu hn1 hn3 h0 hAg hent hG ha
  rw [hC] at h
  refine h.mono ?_
  rintro e w' (⟨k, h1, h2, h3, h4, h5⟩ | ⟨h1, h2, h3⟩)
  · exact ⟨some k, ⟨h1, h2, h3⟩, h4, h5.permed (List.Perm.swap _ _ _)⟩
  · exact ⟨none, h1, h2, h3.add_nil 3 1⟩
end Go.Proofs.YtofkhehcnfiopaaDoor.N
namespace Go.Proofs.YtofkhehcnfiopaaDoor.N
open Go Go.RowKit Go.Proofs
set_option linter.unusedSectionVars false
variable [I : Sys]
def tellsL (ags : List Ag) : Option Wk → List Nat
  | some k => k.how ++ [tellsI ags k.team]
  | none => []
def idxO (ags : List Ag) : Option Wk → Int
  | some k => (tellsI ags k.team : Int)
  | none => -1
theorem endO_tells (ags : List Ag) (b : Nat) (o : Option Wk) : endO (.blk b (.cells [.int .i64 (-1)].toArray 3 (0, 0))) (fun t => .blk b (.cells [.int .i64 (tellsI ags t : Int)].toArray 3 (0, 0))) o = .blk b (.cells [.int .i64 (idxO ags o)].toArray 3 (0, 0)) := by
  cases o <;> rfl
/-- A found way is not too long. -/
theorem found_len {ags : List Ag} {used n : Nat} {most : Int} {t0 : Tm} {goal : Tm → Bool} {k : Wk} (h : FoundO ags used n most t0 goal (some k)) (hm : 0 ≤ most := by decide) : (k.how.length : Int) ≤ most := by
  have := h.1.2.1
  unfold Fits at this
  omega
end Go.Proofs.YtofkhehcnfiopaaDoor.N
namespace Go.Proofs.YtofkhehcnfiopaaDoor.N
open Go Go.RowKit Go.Proofs
set_option linter.unusedSectionVars false
variable [I : Sys]
/-- The team of some melts. -/
def teamOf (ms : List Nat) : Nat → Tm
  | 0 => (0, 0, 0)
  | k + 1 => tput (teamOf ms k) k (ms.getD k 0)
theorem teamOf_lo {ms : List Nat} (h : ∀ m ∈ ms, m < 64) : ∀ k, Tm.lo (teamOf ms k)
  | 0 => ⟨show (0 : Nat) < 64 by omega, show (0 : Nat) < 64 by omega, show (0 : Nat) < 64 by omega⟩
  | k + 1 => tput_lo (teamOf_lo h k) k (by
    rw [List.getD_eq_getElem?_getD]
    cases hk : ms[k]? with
    | none => simp
    | some m => exact h m (List.mem_of_getElem? hk))
/-- The melt that takes longest, and how long, of the first ones. -/
def farL (os : Nat → Option Wk) : Nat → Nat × Nat
  | 0 => (0, 0)
  | k + 1 => if ((os k).isSome && decide (((wayO (os k)).how.length : Int) > ((farL os k).2 : Int))) = true then (k, (wayO (os k)).how.length) else farL os k
def upd (os : Nat → Option Wk) (k : Nat) (o : Option Wk) : Nat → Option Wk := fun f => if f = k then o else os f
theorem farL_congr {os os' : Nat → Option Wk} : ∀ k, (∀ f, f < k → os f = os' f) → farL os k = farL os' k
  | 0, _ => rfl
  | k + 1, h => by
    unfold farL
    rw [farL_congr k (fun f hf => h f (by omega)), h k (by omega)]
theorem farL_upd (os : Nat → Option Wk) (k : Nat) (o : Option Wk) : farL (upd os k o) k = farL os k :=
  farL_congr k (fun f hf => if_neg (by omega))
theorem upd_at (os : Nat → Option Wk) (k : Nat) (o : Option Wk) : upd os k o k = o := if_pos rfl
theorem farL_yes (os : Nat → Option Wk) (k : Nat) (o : Option Wk) (h : (o.isSome && decide (((wayO o).how.length : Int) > ((farL os k).2 : Int))) = true) : farL (upd os k o) (k + 1) = (k, (wayO o).how.length) := by
  unfold farL
  rw [farL_upd, upd_at, if_pos h]
theorem farL_no (os : Nat → Option Wk) (k : Nat) (o : Option Wk) (h : (o.isSome && decide (((wayO o).how.length : Int) > ((farL os k).2 : Int))) = false) : farL (upd os k o) (k + 1) = farL os k := by
  show (if _ then _ else farL (upd os k o) k) = _
  rw [farL_upd, upd_at, if_neg (by rw [h]; simp)]
theorem far_found {P : Nat → Option Wk → Prop} {os : Nat → Option Wk} {k : Nat} {o : Option Wk} (h : ∀ f, f < k → P f (os f)) (ho : P k o) : ∀ f, f < k + 1 → P f (upd os k o f) := by
  intro f hf
  unfold upd
  split
  · rename_i e; subst e; exact ho
  · exact h f (by omega)
end Go.Proofs.YtofkhehcnfiopaaDoor.N
namespace Go.Proofs.YtofkhehcnfiopaaDoor.N
open Go Go.RowKit Go.Proofs
set_option linter.unusedSectionVars false
variable [I : Sys]
/-- What a melt becomes, agent by agent. -/
def alongF (ags : List Ag) (f : Nat) : List Nat → Option (List Nat)
  | [] => some []
  | i :: l => if i < ags.length ∧ mayN (ags.getD i default) f = true then (alongF ags (putN (ags.getD i default) f) l).map (putN (ags.getD i default) f :: ·) else none
theorem alongF_step {ags : List Ag} {f k i : Nat} {way l : List Nat} (hi : way[k]? = some i) (h : alongF ags f (way.drop k) = some l) :
    i < ags.length ∧ mayN (ags.getD i default) f = true ∧ ∃ l', alongF ags (putN (ags.getD i default) f) (way.drop (k + 1)) = some l' ∧ l = putN (ags.getD i default) f :: l' := by
  obtain ⟨hk, he⟩ := List.getElem?_eq_some_iff.1 hi
  rw [List.drop_eq_getElem_cons hk, he] at h
  unfold alongF at h
  split at h
  · rename_i hc
    obtain ⟨l', h1, h2⟩ := Option.map_eq_some_iff.1 h
    exact ⟨hc.1, hc.2, l', h1, h2.symm⟩
  · cases h
theorem run_eql_nilIface {t : TypeId} {P : Program} {ms} (ht : P.underlying t = some (.interface ms)) (x : Operand) (w : World) :
    (do eqGuard .eql t x (.const .nilIface) .nilIface .nilIface; binOp .eql t .nilIface .nilIface : Sem Value).run P w = .ok (.bool true) w := by
  have hg : (eqGuard .eql t x (.const .nilIface) .nilIface .nilIface).run P w = .ok () w := by simp [eqGuard]
  have hb : (binOp .eql t .nilIface .nilIface).run P w = .ok (.bool true) w := by
    show (do pure (.bool (← Op.equal t .nilIface .nilIface)) : Sem Value).run P w = _
    have he : (Op.equal t .nilIface .nilIface).run P w = .ok true w := by
      show (Op.equalIn (9999 + 1) t .nilIface .nilIface).run P w = _
      unfold Op.equalIn
      simp only [Sem.run_bind, run_underlying ht, Result.andThen_ok]
      simp
    simp only [Sem.run_bind, he, Result.andThen_ok, Sem.run_pure]
  simp only [Sem.run_bind, hg, Result.andThen_ok, hb]
end Go.Proofs.YtofkhehcnfiopaaDoor.N
namespace Go.Proofs.YtofkhehcnfiopaaDoor.N
open Go Go.RowKit Go.Proofs
set_option linter.unusedSectionVars false
variable [I : Sys]
/-- What it costs to clear a melt. -/
structure Pr where
  cost : Nat
  puts : Nat
  known : Bool
  deriving DecidableEq, Inhabited
def Pr.cells (p : Pr) : List Value := [.int .i64 (p.cost : Int), .int .i64 (p.puts : Int), .bool p.known]
def lessP (a b : Pr) : Bool := a.known && (!b.known || decide (a.cost < b.cost) || (decide (a.cost = b.cost) && decide (a.puts < b.puts)))
def afterP (ps : List Pr) (x : Ag) (f : Nat) : Pr := { cost := (ps.getD (putN x f) default).cost + x.cost, puts := (ps.getD (putN x f) default).puts + 1, known := (ps.getD (putN x f) default).known }
/-- One agent looked at for one melt. -/
def relax (ags : List Ag) (f : Nat) (s : List Pr × Bool) (i : Nat) : List Pr × Bool :=
  if lessP (afterP s.1 (ags.getD i default) f) (s.1.getD f default) = true then (s.1.set f (afterP s.1 (ags.getD i default) f), true) else s
def relaxF (ags : List Ag) (f : Nat) (s : List Pr × Bool) (l : List Nat) : List Pr × Bool := l.foldl (relax ags f) s
/-- A round over the first melts. -/
def roundP (ags : List Ag) (used : Nat) (ps : List Pr) : Nat → List Pr × Bool
  | 0 => (ps, false)
  | f + 1 => relaxF ags f (roundP ags used ps f) (canTo ags used f ags.length)
def initP (p : Nat) (k : Nat) : List Pr := (List.range 64).map fun n => if n < k then ⟨0, 0, decide (nn n p = 0)⟩ else ⟨0, 0, false⟩
def iterP (ags : List Ag) (used p : Nat) : Nat → List Pr
  | 0 => initP p 64
  | j + 1 => (roundP ags used (iterP ags used p j) 64).1
/-- Prices that are not too high. -/
def Bd (ps : List Pr) (m : Nat) : Prop := ps.length = 64 ∧ ∀ p ∈ ps, p.puts ≤ m ∧ p.cost ≤ 9 * m
theorem Bd.get {ps : List Pr} {m : Nat} (h : Bd ps m) (k : Nat) : (ps.getD k default).puts ≤ m ∧ (ps.getD k default).cost ≤ 9 * m := by
  rw [List.getD_eq_getElem?_getD]
  cases hk : ps[k]? with
  | none => exact ⟨Nat.zero_le _, Nat.zero_le _⟩
  | some p => exact h.2 p (List.mem_of_getElem? hk)
theorem Bd.mono {ps : List Pr} {m m' : Nat} (h : Bd ps m) (hm : m ≤ m') : Bd ps m' := ⟨h.1, fun p hp => by have := h.2 p hp; omega⟩
theorem Bd.after {ps : List Pr} {m : Nat} (h : Bd ps m) {x : Ag} (hx : x.cost ≤ 9) (f : Nat) : (afterP ps x f).puts ≤ m + 1 ∧ (afterP ps x f).cost ≤ 9 * (m + 1) := by
  have := h.get (putN x f)
  unfold afterP
  dsimp only
  omega
theorem Bd.set {ps : List Pr} {m : Nat} (h : Bd ps m) {p : Pr} (hp : p.puts ≤ m ∧ p.cost ≤ 9 * m) (f : Nat) : Bd (ps.set f p) m :=
  ⟨by rw [List.length_set]; exact h.1, fun q hq => by
    rcases List.mem_or_eq_of_mem_set hq with h1 | h1
    · exact h.2 q h1
    · subst h1; exact hp⟩
theorem Bd.init (p k : Nat) : Bd (initP p k) 0 := by
  refine ⟨by simp [initP], fun q hq => ?_⟩
  unfold initP at hq
  obtain ⟨n, _, rfl⟩ := List.mem_map.1 hq
  split <;> exact ⟨Nat.le_refl _, Nat.le_refl _⟩
theorem initP_set (p : Nat) {k : Nat} (hk : k < 64) : (initP p k).set k ⟨0, 0, decide (nn k p = 0)⟩ = initP p (k + 1) := by
  unfold initP
  apply List.ext_getElem?
  intro i
  rw [List.getElem?_set]
  by_cases hi : i < 64
  · by_cases e : k = i
    · subst e
      simp [hk]
    · have : (i < k + 1) ↔ (i < k) := by omega
      simp [e, hi, this]
  · have e : ¬ k = i := by omega
    simp [e, hi]
theorem initP_get (p : Nat) {k : Nat} (hk : k < 64) : (initP p k)[k]? = some ⟨0, 0, false⟩ := by
  unfold initP
  simp [hk]
theorem Bd.relax {ags : List Ag} {f m : Nat} {s : List Pr × Bool} (h : Bd s.1 m) {i : Nat} (hx : (ags.getD i default).cost ≤ 9) : Bd (relax ags f s i).1 (m + 1) := by
  unfold Go.Proofs.YtofkhehcnfiopaaDoor.N.relax
  split
  · exact (h.mono (Nat.le_succ _)).set (h.after hx f) f
  · exact h.mono (Nat.le_succ _)
theorem Bd.relaxF {ags : List Ag} {f : Nat} (hok : ∀ x ∈ ags, x.ok) : ∀ (l : List Nat) (m : Nat) (s : List Pr × Bool), Bd s.1 m → Bd (Go.Proofs.YtofkhehcnfiopaaDoor.N.relaxF ags f s l).1 (m + l.length) := by
  intro l
  induction l with
  | nil => intro m s h; exact h
  | cons i l ih =>
    intro m s h
    have h1 : (ags.getD i default).cost ≤ 9 := by
      rw [List.getD_eq_getElem?_getD]
      cases hk : ags[i]? with
      | none => exact Nat.zero_le _
      | some x => exact (hok x (List.mem_of_getElem? hk)).cost.2
    have := ih (m + 1) _ (h.relax (f := f) h1)
    unfold Go.Proofs.YtofkhehcnfiopaaDoor.N.relaxF at this ⊢
    rw [List.foldl_cons, List.length_cons]
    exact this.mono (by omega)
/-- The cells of a market. -/
def mcells (fn : Value) (ps : List Pr) : List Value := fn :: ps.flatMap Pr.cells
theorem mcells_len (fn : Value) (ps : List Pr) : (mcells fn ps).length = 1 + ps.length * 3 := by
  have : ∀ l : List Pr, (l.flatMap Pr.cells).length = l.length * 3 := by
    intro l
    induction l with
    | nil => rfl
    | cons p l ih => rw [List.flatMap_cons, List.length_append, ih, List.length_cons]; simp [Pr.cells]; omega
  unfold mcells
  rw [List.length_cons, this]
  omega
theorem mcells_get (fn : Value) (ps : List Pr) {k j : Nat} {p : Pr} {u : Value} (hk : ps[k]? = some p) (hu : p.cells[j]? = some u) : (mcells fn ps)[1 + k * 3 + j]? = some u := by
  unfold mcells
  rw [show 1 + k * 3 + j = (k * 3 + j) + 1 by omega, List.getElem?_cons_succ]
  exact flatMap_get (cells := Pr.cells) (size := 3) (fun _ => rfl) ps k p hk j u hu
theorem flatMap_set (ps : List Pr) : ∀ (k : Nat) (p : Pr), k < ps.length → (ps.flatMap Pr.cells).take (k * 3) ++ p.cells ++ (ps.flatMap Pr.cells).drop (k * 3 + 3) = (ps.set k p).flatMap Pr.cells := by
  induction ps with
  | nil => intro k p h; cases h
  | cons q ps ih =>
    intro k p h
    cases k with
    | zero => simp [Pr.cells]
    | succ k =>
      have := ih k p (by simpa using h)
      rw [List.set_cons_succ, List.flatMap_cons, List.flatMap_cons, ← this]
      have hq : q.cells.length = 3 := rfl
      have e1 : (q.cells ++ ps.flatMap Pr.cells).take ((k + 1) * 3) = q.cells ++ (ps.flatMap Pr.cells).take (k * 3) := by
        rw [show (k + 1) * 3 = q.cells.length + k * 3 by omega, List.take_length_add_append]
      have e2 : (q.cells ++ ps.flatMap Pr.cells).drop ((k + 1) * 3 + 3) = (ps.flatMap Pr.cells).drop (k * 3 + 3) := by
        rw [show (k + 1) * 3 + 3 = q.cells.length + (k * 3 + 3) by omega, List.drop_length_add_append]
      rw [e1, e2]
      simp only [List.append_assoc]
/-- A price put into a market: three cells. -/
theorem mcells_splice (fn : Value) (ps : List Pr) {k : Nat} (hk : k < ps.length) (p : Pr) : Splice (mcells fn ps) (1 + k * 3) p.cells (mcells fn (ps.set k p)) := ⟨by
  unfold mcells
  rw [← flatMap_set ps k p hk]
  rw [show 1 + k * 3 = k * 3 + 1 by omega, show k * 3 + 1 + p.cells.length = (k * 3 + 3) + 1 from rfl]
  simp, by
  rw [mcells_len]
  show 1 + k * 3 + 3 ≤ _
  omega⟩
/-- Whether it is known, put into a market. -/
theorem mcells_known (fn : Value) (ps : List Pr) {k : Nat} {p : Pr} (hk : ps[k]? = some p) (b : Bool) : mcells fn (ps.set k { p with known := b }) = (mcells fn ps).set (1 + k * 3 + 2) (.bool b) := by
  have hlt := (List.getElem?_eq_some_iff.1 hk).1
  have h := (mcells_splice fn ps hlt { p with known := b }).eq
  rw [h]
  have hg0 := mcells_get fn ps (j := 0) hk rfl
  have hg1 := mcells_get fn ps (j := 1) hk rfl
  have hl := mcells_len fn ps
  apply List.ext_getElem?
  intro i
  rw [List.getElem?_set]
  have hl1 : ((mcells fn ps).take (1 + k * 3)).length = 1 + k * 3 := by rw [List.length_take, hl]; omega
  have hc : ({ p with known := b } : Pr).cells = [.int .i64 (p.cost : Int), .int .i64 (p.puts : Int), .bool b] := rfl
  rw [hc]
  by_cases h1 : i < 1 + k * 3
  · rw [List.append_assoc, List.getElem?_append_left (by omega), if_neg (by omega), List.getElem?_take, if_pos h1]
  · by_cases h2 : i < 1 + k * 3 + 3
    · rw [List.getElem?_append_left (by simp [hl1]; omega), List.getElem?_append_right (by omega), hl1]
      rcases (show i = 1 + k * 3 ∨ i = 1 + k * 3 + 1 ∨ i = 1 + k * 3 + 2 by omega) with e | e | e
      · subst e
        rw [if_neg (by omega), Nat.sub_self]
        rw [Nat.add_zero] at hg0
        rw [hg0]; rfl
      · subst e
        rw [if_neg (by omega), hg1, show 1 + k * 3 + 1 - (1 + k * 3) = 1 by omega]; rfl
      · subst e
        rw [if_pos rfl, if_pos (by omega), show 1 + k * 3 + 2 - (1 + k * 3) = 2 by omega]; rfl
    · rw [List.getElem?_append_right (by simp [hl1]; omega), if_neg (by omega), List.getElem?_drop]
      congr 1
      simp [hl1]; omega
end Go.Proofs.YtofkhehcnfiopaaDoor.N
namespace Go.Proofs.YtofkhehcnfiopaaDoor.N
open Go Go.RowKit Go.Proofs
set_option linter.unusedSectionVars false
variable [I : Sys]
theorem lst_know {C : Ctx} {fr : List (Nat × Value)} {hp : List Res} {ops : Array Oper} {Q : Exit → Act → World → Prop} {l : List Oper} {φ : Prop} (h : ∀ a w, At C fr hp a w → φ) (k : φ → Lst C ops Q l fr hp) : Lst C ops Q l fr hp := fun a w ha => k (h a w ha) a w ha
theorem cod_know {C : Ctx} {fr : List (Nat × Value)} {hp : List Res} {Q : Exit → Act → World → Prop} {c : Code} {φ : Prop} (h : ∀ a w, At C fr hp a w → φ) (k : φ → Cod C c Q fr hp) : Cod C c Q fr hp := fun a w ha => k (h a w ha) a w ha
theorem mcells_box (fn : Value) (hf : fn.oneCell' = true) (ps : List Pr) : Cells (.agg (mcells fn ps).toArray) (mcells fn ps) := ⟨rfl, by
  intro u hu
  unfold mcells at hu
  rcases List.mem_cons.1 hu with h | h
  · subst h; exact hf
  · obtain ⟨p, _, hp⟩ := List.mem_flatMap.1 h
    simp [Pr.cells] at hp
    rcases hp with h | h | h <;> subst h <;> simp [Value.oneCell']⟩
theorem ints_get {l : List Nat} {t i : Nat} (h : l[t]? = some i) : (ints l)[t * 1]? = some (.int .i64 (i : Int)) := by
  rw [Nat.mul_one]
  unfold ints
  rw [List.getElem?_map, h]; rfl
theorem Bd.round {ags : List Ag} {used m : Nat} {ps : List Pr} (hok : Oks ags) (h : Bd ps m) : ∀ k, Bd (roundP ags used ps k).1 (m + 4 * k)
  | 0 => h
  | k + 1 => by
    have h1 := Bd.relaxF (f := k) hok.2 (canTo ags used k ags.length) _ _ (Bd.round (used := used) hok h k)
    have h2 := canTo_len ags used k ags.length
    have h3 := hok.1
    exact h1.mono (by omega)
theorem Bd.iter {ags : List Ag} {used p : Nat} (hok : Oks ags) : ∀ j, Bd (iterP ags used p j) (256 * j)
  | 0 => Bd.init p 64
  | j + 1 => (Bd.round (used := used) hok (Bd.iter (used := used) (p := p) hok j) 64).mono (by omega)
theorem Bd.at {ags : List Ag} {used p : Nat} (hok : Oks ags) (j k t : Nat) (ht : t ≤ 4) : Bd (Go.Proofs.YtofkhehcnfiopaaDoor.N.relaxF ags k (roundP ags used (iterP ags used p j) k) ((canTo ags used k ags.length).take t)).1 (256 * j + 4 * k + 4) := by
  have h1 := Bd.relaxF (f := k) hok.2 ((canTo ags used k ags.length).take t) _ _ (Bd.round (used := used) hok (Bd.iter (used := used) (p := p) hok j) k)
  exact h1.mono (by rw [List.length_take]; omega)
theorem relaxF_snoc {ags : List Ag} {f t i : Nat} {s : List Pr × Bool} {l : List Nat} (h : l[t]? = some i) : relaxF ags f s (l.take (t + 1)) = relax ags f (relaxF ags f s (l.take t)) i := by
  unfold relaxF
  rw [List.take_add_one, h, List.foldl_append]; rfl
theorem canTo_mem {ags : List Ag} {used f k i : Nat} (h : i ∈ canTo ags used f k) : i < k ∧ used.testBit i = true ∧ mayN (ags.getD i default) f = true := by
  unfold canTo at h
  obtain ⟨h1, h2⟩ := List.mem_filter.1 h
  have := List.mem_range.1 h1
  simp at h2
  exact ⟨this, h2⟩
theorem getD_some {ps : List Pr} {k : Nat} (hk : k < ps.length) : ps[k]? = some (ps.getD k default) := by
  rw [List.getD_eq_getElem?_getD, List.getElem?_eq_getElem hk]; rfl
end Go.Proofs.YtofkhehcnfiopaaDoor.N
namespace Go.Proofs.YtofkhehcnfiopaaDoor.N
open Go Go.RowKit Go.Proofs
set_option linter.unusedSectionVars false
variable [I : Sys]
/-- What is known was set for some agent's sake, and it is no cheaper now by that agent. -/
def Held (ags : List Ag) (used : Nat) (ps : List Pr) : Prop := ps.length = 64 ∧ ∀ f, f < 64 → (ps.getD f default).known = true → 0 < (ps.getD f default).puts →
  ∃ i ∈ canTo ags used f ags.length, (afterP ps (ags.getD i default) f).known = true ∧ lessP (ps.getD f default) (afterP ps (ags.getD i default) f) = false
theorem getD_set {ps : List Pr} {k j : Nat} {p : Pr} (hk : k < ps.length) : (ps.set k p).getD j default = if k = j then p else ps.getD j default := by
  rw [List.getD_eq_getElem?_getD, List.getD_eq_getElem?_getD, List.getElem?_set]
  by_cases e : k = j
  · subst e; simp [hk]
  · simp [e]
theorem lessP_iff {a b : Pr} (h : lessP a b = true) : a.known = true ∧ (b.known = false ∨ a.cost < b.cost ∨ (a.cost = b.cost ∧ a.puts < b.puts)) := by
  unfold lessP at h
  simp at h
  refine ⟨h.1, ?_⟩
  rcases h.2 with (h1 | h1) | h1
  · exact .inl h1
  · exact .inr (.inl h1)
  · exact .inr (.inr h1)
theorem lessP_not {a b : Pr} (ha : a.known = true) (hb : b.known = true) (h : lessP a b = false) : b.cost < a.cost ∨ (a.cost = b.cost ∧ b.puts ≤ a.puts) := by
  unfold lessP at h
  rw [ha, hb] at h
  simp at h
  omega
theorem lessP_of {a b : Pr} (ha : a.known = true) (hb : b.known = true) (h : b.cost < a.cost ∨ (a.cost = b.cost ∧ b.puts ≤ a.puts)) : lessP a b = false := by
  unfold lessP
  rw [ha, hb]
  simp
  omega
theorem Held.relax {ags : List Ag} {used f i : Nat} {s : List Pr × Bool} (h : Held ags used s.1) (hf : f < 64) (hi : i ∈ canTo ags used f ags.length) (hc : ∀ j ∈ canTo ags used f ags.length, 1 ≤ (ags.getD j default).cost) : Held ags used (Go.Proofs.YtofkhehcnfiopaaDoor.N.relax ags f s i).1 := by
  unfold Go.Proofs.YtofkhehcnfiopaaDoor.N.relax
  split
  · rename_i hl
    obtain ⟨hl1, hl2⟩ := lessP_iff hl
    have hfl : f < s.1.length := by rw [h.1]; exact hf
    have hne : putN (ags.getD i default) f ≠ f := by
      intro e
      unfold afterP at hl1 hl2
      dsimp only at hl1 hl2
      rw [e] at hl1 hl2
      have := hc i hi
      rcases hl2 with h2 | h2 | h2
      · rw [hl1] at h2; cases h2
      · omega
      · omega
    refine ⟨by dsimp only; rw [List.length_set]; exact h.1, fun g hg hk hp => ?_⟩
    dsimp only at hk hp ⊢
    rw [getD_set hfl] at hk hp ⊢
    by_cases e : f = g
    · subst e
      refine ⟨i, hi, ?_⟩
      have ha : afterP (s.1.set f (afterP s.1 (ags.getD i default) f)) (ags.getD i default) f = afterP s.1 (ags.getD i default) f := by
        conv => lhs; unfold afterP
        rw [getD_set hfl, if_neg (fun e => hne e.symm)]
        rfl
      rw [ha, if_pos rfl]
      exact ⟨hl1, lessP_of hl1 hl1 (.inr ⟨rfl, Nat.le_refl _⟩)⟩
    · rw [if_neg e] at hk hp ⊢
      obtain ⟨i', hi', hk', hl'⟩ := h.2 g hg hk hp
      refine ⟨i', hi', ?_⟩
      have h3 := lessP_not hk hk' hl'
      by_cases e2 : f = putN (ags.getD i' default) g
      · have hkn : (s.1.getD f default).known = true := by
          have := hk'
          unfold afterP at this
          dsimp only at this
          rw [← e2] at this
          exact this
        have ha : afterP (s.1.set f (afterP s.1 (ags.getD i default) f)) (ags.getD i' default) g = ⟨(afterP s.1 (ags.getD i default) f).cost + (ags.getD i' default).cost, (afterP s.1 (ags.getD i default) f).puts + 1, (afterP s.1 (ags.getD i default) f).known⟩ := by
          unfold afterP
          rw [getD_set hfl, if_pos e2]
        rw [ha]
        refine ⟨hl1, lessP_of hk hl1 ?_⟩
        dsimp only
        have h4 : afterP s.1 (ags.getD i' default) g = ⟨(s.1.getD f default).cost + (ags.getD i' default).cost, (s.1.getD f default).puts + 1, (s.1.getD f default).known⟩ := by
          unfold afterP
          rw [← e2]
        rw [h4] at h3
        dsimp only at h3
        rcases hl2 with h5 | h5 | h5
        · rw [hkn] at h5; cases h5
        · omega
        · omega
      · have ha : afterP (s.1.set f (afterP s.1 (ags.getD i default) f)) (ags.getD i' default) g = afterP s.1 (ags.getD i' default) g := by
          conv => lhs; unfold afterP
          rw [getD_set hfl, if_neg e2]
          rfl
        rw [ha]
        exact ⟨hk', hl'⟩
  · exact h
theorem Held.relaxF {ags : List Ag} {used f : Nat} (hf : f < 64) (hc : ∀ x ∈ ags, 1 ≤ x.cost) : ∀ (l : List Nat) (s : List Pr × Bool), (∀ i ∈ l, i ∈ canTo ags used f ags.length) → Held ags used s.1 → Held ags used (Go.Proofs.YtofkhehcnfiopaaDoor.N.relaxF ags f s l).1 := by
  intro l
  induction l with
  | nil => intro s _ h; exact h
  | cons i l ih =>
    intro s hl h
    unfold Go.Proofs.YtofkhehcnfiopaaDoor.N.relaxF
    rw [List.foldl_cons]
    refine ih _ (fun j hj => hl j (by simp [hj])) (h.relax hf (hl i (by simp)) (fun j hj => ?_))
    obtain ⟨h1, _⟩ := canTo_mem hj
    rw [List.getD_eq_getElem?_getD, List.getElem?_eq_getElem h1]
    exact hc _ (List.getElem_mem h1)
theorem Held.round {ags : List Ag} {used : Nat} {ps : List Pr} (hc : ∀ x ∈ ags, 1 ≤ x.cost) (h : Held ags used ps) : ∀ k, k ≤ 64 → Held ags used (roundP ags used ps k).1
  | 0, _ => h
  | k + 1, hk => Held.relaxF (by omega) hc _ _ (fun _ h => h) (Held.round hc h k (by omega))
theorem Held.init (ags : List Ag) (used p : Nat) : Held ags used (initP p 64) := by
  refine ⟨by simp [initP], fun f hf _ hp => ?_⟩
  exfalso
  rw [List.getD_eq_getElem?_getD] at hp
  simp [initP, hf] at hp
theorem Held.iter {ags : List Ag} {used p : Nat} (hc : ∀ x ∈ ags, 1 ≤ x.cost) : ∀ j, Held ags used (iterP ags used p j)
  | 0 => Held.init ags used p
  | j + 1 => Held.round hc (Held.iter hc j) 64 (Nat.le_refl _)
/-- A round that turns nothing. -/
theorem relax_ch {ags : List Ag} {f i : Nat} {s : List Pr × Bool} (h : (relax ags f s i).2 = false) : relax ags f s i = s ∧ s.2 = false ∧ lessP (afterP s.1 (ags.getD i default) f) (s.1.getD f default) = false := by
  unfold relax at h ⊢
  split
  · rename_i hc; rw [if_pos hc] at h; cases h
  · rename_i hc
    rw [if_neg hc] at h
    exact ⟨rfl, h, by simpa using hc⟩
theorem relaxF_ch {ags : List Ag} {f : Nat} : ∀ (l : List Nat) (s : List Pr × Bool), (relaxF ags f s l).2 = false → relaxF ags f s l = s ∧ s.2 = false ∧ ∀ i ∈ l, lessP (afterP s.1 (ags.getD i default) f) (s.1.getD f default) = false := by
  intro l
  induction l with
  | nil => intro s h; exact ⟨rfl, h, by simp⟩
  | cons i l ih =>
    intro s h
    unfold relaxF at h ⊢
    rw [List.foldl_cons] at h ⊢
    obtain ⟨h1, h2, h3⟩ := ih _ h
    obtain ⟨h4, h5, h6⟩ := relax_ch h2
    rw [h4] at h1 h3
    refine ⟨by rw [h4]; exact h1, h5, fun j hj => ?_⟩
    rcases List.mem_cons.1 hj with e | e
    · subst e; exact h6
    · exact h3 j e
theorem round_ch {ags : List Ag} {used : Nat} {ps : List Pr} : ∀ k, (roundP ags used ps k).2 = false → (roundP ags used ps k).1 = ps ∧ ∀ f, f < k → ∀ i ∈ canTo ags used f ags.length, lessP (afterP ps (ags.getD i default) f) (ps.getD f default) = false
  | 0, _ => ⟨rfl, fun f hf => absurd hf (by omega)⟩
  | k + 1, h => by
    obtain ⟨h1, h2, h3⟩ := relaxF_ch _ _ h
    obtain ⟨h4, h5⟩ := round_ch k h2
    rw [h4] at h3
    refine ⟨by show (relaxF _ _ _ _).1 = _; rw [h1, h4], fun f hf => ?_⟩
    rcases Nat.lt_or_ge f k with h6 | h6
    · exact h5 f h6
    · obtain rfl : f = k := by omega
      exact h3
/-- What prices must be like so that a way can be read off. -/
def Real (ags : List Ag) (used : Nat) (ps : List Pr) : Prop := ∀ f, f < 64 → (ps.getD f default).known = true → 0 < (ps.getD f default).puts → ∃ i ∈ canTo ags used f ags.length, afterP ps (ags.getD i default) f = ps.getD f default
theorem real_of {ags : List Ag} {used : Nat} {ps : List Pr} (h : Held ags used ps) (hf : (roundP ags used ps 64).2 = false) : Real ags used ps := by
  intro f hf64 hk hp
  obtain ⟨i, hi, h1, h2⟩ := h.2 f hf64 hk hp
  refine ⟨i, hi, ?_⟩
  have h3 := (round_ch 64 hf).2 f hf64 i hi
  have h4 := lessP_not hk h1 h2
  have h5 := lessP_not h1 hk h3
  generalize afterP ps (ags.getD i default) f = u at *
  generalize ps.getD f default = v at *
  obtain ⟨c, q, b⟩ := u
  obtain ⟨c', q', b'⟩ := v
  dsimp only at *
  subst h1; subst hk
  have e1 : c = c' := by omega
  have e2 : q = q' := by omega
  rw [e1, e2]
/-- The way that is read off. -/
def wayP (ags : List Ag) (used : Nat) (ps : List Pr) : Nat → Nat → List Nat
  | 0, _ => []
  | k + 1, f => match (canTo ags used f ags.length).find? (fun i => decide (afterP ps (ags.getD i default) f = ps.getD f default)) with
    | some i => i :: wayP ags used ps k (putN (ags.getD i default) f)
    | none => []
end Go.Proofs.YtofkhehcnfiopaaDoor.N
namespace Go.Proofs.YtofkhehcnfiopaaDoor.N
open Go Go.RowKit Go.Proofs
set_option linter.unusedSectionVars false
variable [I : Sys]
def pv (p : Pr) : Value := .agg p.cells.toArray
def Pr.ok (p : Pr) : Prop := p.cost ≤ 9000000000 ∧ p.puts ≤ 9000000000
def pls (p : Pr) : List Go.Lit := [.int .i64 (p.cost : Int), .int .i64 (p.puts : Int), .bool p.known]
theorem priceLaw : WideMaps.KeyLaw Tryd.prog 95 := deep_law (m := 2) (by omega) (by kernel_rfl) (by kernel_rfl) (by rw [Tryd.underlying95])
theorem kt95 : Tryd.prog.keyType 95 = true := by kernel_rfl
theorem co3 : Tryd.prog.cellsOf 3 = 1 := by kernel_rfl
theorem co4 : Tryd.prog.cellsOf 4 = 1 := by kernel_rfl
theorem co95 : Tryd.prog.cellsOf 95 = 3 := by kernel_rfl
theorem i64wf (n : Nat) (h : n ≤ 9000000000) : (Go.Lit.int .i64 (n : Int)).wf = true := by
  simp [Go.Lit.wf, IntKind.min, IntKind.max, IntKind.signed, IntKind.bits]
  omega
theorem keyLits_i64 {n : Nat} (h : n ≤ 9000000000) (d : Nat) : Tryd.prog.keyLits (d + 1) 3 [.int .i64 (n : Int)] = some [.int .i64 (n : Int)] := by
  unfold Program.keyLits
  rw [Tryd.underlying3]
  simp [i64wf _ h]
theorem keyLits_bool (b : Bool) (d : Nat) : Tryd.prog.keyLits (d + 1) 4 [.bool b] = some [.bool b] := by
  unfold Program.keyLits
  rw [Tryd.underlying4]
theorem keyLits_price {p : Pr} (h : p.ok) (d : Nat) : Tryd.prog.keyLits (d + 1 + 1) 95 p.cells = some (pls p) := by
  obtain ⟨h1, h2⟩ := h
  conv => lhs; unfold Program.keyLits
  rw [Tryd.underlying95]
  simp [co95, co3, co4, Pr.cells, pls, keyLits_i64 h1, keyLits_i64 h2, keyLits_bool]
theorem keyOf_price {p : Pr} (h : p.ok) : keyOf Tryd.prog 95 (pv p) = some (.string (keyBytes (pls p))) := by
  unfold keyOf
  rw [Tryd.underlying95]
  simp only [kt95, Bool.true_and]
  have hf : (pv p).formed Tryd.prog 95 = true := by
    simp [Value.formed, pv, Tryd.underlying95, co95, Pr.cells]
  rw [if_pos hf, tsz]
  have : (pv p).cells.toList = p.cells := rfl
  rw [this, keyLits_price h]
  rfl
theorem pv_inj {p q : Pr} (h : pv p = pv q) : p = q := by
  obtain ⟨a, b, c⟩ := p
  obtain ⟨a', b', c'⟩ := q
  simp [pv, Pr.cells] at h
  obtain ⟨h1, h2, h3⟩ := h
  subst h3
  have e1 : a = a' := by omega
  have e2 : b = b' := by omega
  rw [e1, e2]
theorem run_eq_price {p q : Pr} (hp : p.ok) (hq : q.ok) (x y : Operand) (w : World) : (do eqGuard .eql 95 x y (pv p) (pv q); binOp .eql 95 (pv p) (pv q) : Sem Value).run Tryd.prog w = .ok (.bool (decide (p = q))) w := by
  obtain ⟨r, hr, hiff⟩ := run_equal_deep (P := Tryd.prog) w (m := 2) (by omega) (k := 95) (by kernel_rfl) (by rw [Tryd.underlying95]) (keyOf_price hp) (keyOf_price hq)
  have hg : (eqGuard .eql 95 x y (pv p) (pv q)).run Tryd.prog w = .ok () w := by
    have h1 : Tryd.prog.eqGuardType Tryd.prog.depth 95 = false := by kernel_rfl
    have hp : (program : Sem Program).run Tryd.prog w = .ok Tryd.prog w := rfl
    simp only [eqGuard, pv, Sem.run_bind, hp, Result.andThen_ok, h1]
    simp
  have hb : (binOp .eql 95 (pv p) (pv q)).run Tryd.prog w = .ok (.bool r) w := by
    show (do pure (.bool (← Op.equal 95 (pv p) (pv q))) : Sem Value).run Tryd.prog w = _
    simp only [Sem.run_bind, hr, Result.andThen_ok, Sem.run_pure]
  simp only [Sem.run_bind, hg, Result.andThen_ok, hb]
  have e1 : r = true ↔ p = q := by
    rw [hiff]
    constructor
    · intro e
      exact pv_inj (priceLaw.inj (by rw [keyOf_price hp, e]) (keyOf_price hq))
    · rintro rfl; rfl
  have e2 : r = decide (p = q) := by
    cases r with
    | true => simp [e1.1 rfl]
    | false =>
      have : p ≠ q := fun e => by have := e1.2 e; cases this
      simp [this]
  rw [e2]
end Go.Proofs.YtofkhehcnfiopaaDoor.N
namespace Go.Proofs.YtofkhehcnfiopaaDoor.N
open Go Go.RowKit Go.Proofs
set_option linter.unusedSectionVars false
variable [I : Sys]
def cheapW (ags : List Ag) (used : Nat) (ps : List Pr) (f : Nat) : List Nat := if (ps.getD f default).known = true then wayP ags used ps (ps.getD f default).puts f else []
def cheapC (ps : List Pr) (f : Nat) : Nat := if (ps.getD f default).known = true then (ps.getD f default).cost else 0
def cheapE (ps : List Pr) (f : Nat) : Nat := if (ps.getD f default).known = true then 0 else 11
theorem Bd.pok {ps : List Pr} {m : Nat} (h : Bd ps m) (hm : m ≤ 100000000) (k : Nat) : Pr.ok (ps.getD k default) := by
  have := h.get k
  unfold Pr.ok
  omega
theorem Bd.aok {ps : List Pr} {m : Nat} (h : Bd ps m) (hm : m ≤ 100000000) {x : Ag} (hx : x.ok) (f : Nat) : Pr.ok (afterP ps x f) := by
  have := h.after hx.cost.2 f
  unfold Pr.ok
  omega
theorem find_first {l : List Nat} {q : Nat → Bool} : ∀ {t i : Nat}, l[t]? = some i → (∀ j ∈ l.take t, q j = false) → q i = true → l.find? q = some i := by
  induction l with
  | nil => intro t i h; simp at h
  | cons a l ih =>
    intro t i h h0 h1
    cases t with
    | zero =>
      simp at h
      subst h
      rw [List.find?_cons_of_pos h1]
    | succ t =>
      have ha := h0 a (by simp)
      rw [List.find?_cons_of_neg (by rw [ha]; simp)]
      exact ih (by simpa using h) (fun j hj => h0 j (by simp [hj])) h1
theorem wayP_step {ags : List Ag} {used f i t k : Nat} {ps : List Pr} (hi : (canTo ags used f ags.length)[t]? = some i) (h0 : ∀ j ∈ (canTo ags used f ags.length).take t, afterP ps (ags.getD j default) f ≠ ps.getD f default) (h1 : afterP ps (ags.getD i default) f = ps.getD f default) :
    wayP ags used ps (k + 1) f = i :: wayP ags used ps k (putN (ags.getD i default) f) := by
  conv => lhs; unfold wayP
  rw [find_first (q := fun i => decide (afterP ps (ags.getD i default) f = ps.getD f default)) hi (fun j hj => by simpa using h0 j hj) (by simpa using h1)]
theorem after_next {ps : List Pr} {x : Ag} {f : Nat} (h : afterP ps x f = ps.getD f default) (hk : (ps.getD f default).known = true) : (ps.getD (putN x f) default).known = true ∧ (ps.getD (putN x f) default).puts + 1 = (ps.getD f default).puts := by
  rw [← h] at hk ⊢
  exact ⟨hk, rfl⟩
end Go.Proofs.YtofkhehcnfiopaaDoor.N
namespace Go.Proofs.YtofkhehcnfiopaaDoor.N
open Go Go.RowKit Go.Proofs
set_option linter.unusedSectionVars false
variable [I : Sys]
/-! The cheapest ways: prices that rounds come to are the least ones. -/
def lexle (c k c' k' : Nat) : Prop := c < c' ∨ (c = c' ∧ k ≤ k')
theorem lexle.trans {a b c d e f : Nat} (h : lexle a b c d) (h' : lexle c d e f) : lexle a b e f := by
  unfold lexle at *
  omega
theorem lexle.refl (a b : Nat) : lexle a b a b := Or.inr ⟨rfl, Nat.le_refl _⟩
theorem lexle.add {c k c' k' : Nat} (h : lexle c k c' k') (x : Nat) : lexle (c + x) (k + 1) (c' + x) (k' + 1) := by
  unfold lexle at *
  omega
theorem lexle.sub {c k c' k' x : Nat} (h : lexle (c + x) (k + 1) (c' + x) (k' + 1)) : lexle c k c' k' := by
  unfold lexle at *
  omega
theorem lexle.anti {c k c' k' : Nat} (h : lexle c k c' k') (h' : lexle c' k' c k) : c = c' ∧ k = k' := by
  unfold lexle at *
  omega
/-- What some way that clears a melt costs, and how many agents it has. -/
inductive Wy (ags : List Ag) (used p : Nat) : Nat → Nat → Nat → Prop
  | done {f : Nat} : nn f p = 0 → Wy ags used p f 0 0
  | step {f i c k : Nat} : i ∈ canTo ags used f ags.length → Wy ags used p (putN (ags.getD i default) f) c k → Wy ags used p f (c + (ags.getD i default).cost) (k + 1)
def Has (ps : List Pr) (f c k : Nat) : Prop := (ps.getD f default).known = true ∧ lexle (ps.getD f default).cost (ps.getD f default).puts c k
def Snd (ags : List Ag) (used p : Nat) (ps : List Pr) : Prop := ∀ f, f < 64 → (ps.getD f default).known = true → Wy ags used p f (ps.getD f default).cost (ps.getD f default).puts
def Min (ags : List Ag) (used p : Nat) (ps : List Pr) : Prop := ∀ f, f < 64 → ∀ c k, Wy ags used p f c k → Has ps f c k
def Le (ps qs : List Pr) : Prop := ∀ f, (ps.getD f default).known = true → Has qs f (ps.getD f default).cost (ps.getD f default).puts
theorem Le.refl (ps : List Pr) : Le ps ps := fun _ h => ⟨h, lexle.refl _ _⟩
theorem Has.le {ps qs : List Pr} {f c k : Nat} (h : Has ps f c k) (hl : Le ps qs) : Has qs f c k := by
  obtain ⟨h1, h2⟩ := h
  obtain ⟨h3, h4⟩ := hl f h1
  exact ⟨h3, h4.trans h2⟩
theorem Le.trans {ps qs rs : List Pr} (h : Le ps qs) (h' : Le qs rs) : Le ps rs := fun f hf => (h f hf).le h'
theorem lessP_true {a b : Pr} (h : lessP a b = true) : a.known = true ∧ (b.known = true → lexle a.cost a.puts b.cost b.puts ∧ ¬ lexle b.cost b.puts a.cost a.puts) := by
  unfold lessP at h
  simp at h
  refine ⟨h.1, fun hb => ?_⟩
  have h2 := h.2
  rw [hb] at h2
  simp at h2
  unfold lexle
  omega
theorem lessP_false {a b : Pr} (h : lessP a b = false) (ha : a.known = true) : b.known = true ∧ lexle b.cost b.puts a.cost a.puts := by
  unfold lessP at h
  rw [ha] at h
  cases hb : b.known with
  | false => rw [hb] at h; simp at h
  | true =>
    rw [hb] at h
    simp at h
    refine ⟨rfl, ?_⟩
    unfold lexle
    omega
theorem getP_set {ps : List Pr} {f g : Nat} {x : Pr} (hf : f < ps.length) : (ps.set f x).getD g default = if f = g then x else ps.getD g default := by
  rw [List.getD_eq_getElem?_getD, List.getElem?_set, List.getD_eq_getElem?_getD]
  by_cases e : f = g
  · subst e
    rw [if_pos rfl, if_pos rfl, if_pos hf]; rfl
  · rw [if_neg e, if_neg e]
variable {ags : List Ag} {used p : Nat}
theorem relax_len {f i : Nat} {s : List Pr × Bool} : (relax ags f s i).1.length = s.1.length := by
  unfold relax
  split
  · simp
  · rfl
theorem relaxF_len {f : Nat} : ∀ (l : List Nat) (s : List Pr × Bool), (relaxF ags f s l).1.length = s.1.length
  | [], _ => rfl
  | i :: l, s => by
    have := relaxF_len (f := f) l (relax ags f s i)
    unfold relaxF at this ⊢
    rw [List.foldl_cons, this, relax_len]
theorem roundP_len {ps : List Pr} : ∀ k, (roundP ags used ps k).1.length = ps.length
  | 0 => rfl
  | k + 1 => by
    unfold roundP
    rw [relaxF_len, roundP_len k]
theorem initP_len (p k : Nat) : (initP p k).length = 64 := by simp [initP]
theorem iterP_len : ∀ j, (iterP ags used p j).length = 64
  | 0 => initP_len p 64
  | j + 1 => by
    unfold iterP
    rw [roundP_len, iterP_len j]
/-! No price rises. -/
theorem relax_le {f i : Nat} {s : List Pr × Bool} (hf : f < s.1.length) : Le s.1 (relax ags f s i).1 := by
  unfold relax
  split
  · rename_i h
    intro g hg
    obtain ⟨h1, h2⟩ := lessP_true h
    unfold Has
    rw [getP_set hf]
    by_cases e : f = g
    · subst e
      rw [if_pos rfl]
      exact ⟨h1, (h2 hg).1⟩
    · rw [if_neg e]
      exact ⟨hg, lexle.refl _ _⟩
  · exact Le.refl _
theorem relaxF_le {f : Nat} : ∀ (l : List Nat) (s : List Pr × Bool), f < s.1.length → Le s.1 (relaxF ags f s l).1
  | [], s, _ => Le.refl _
  | i :: l, s, hf => by
    have h1 := relax_le (ags := ags) (i := i) hf
    have h2 := relaxF_le (f := f) l (relax ags f s i) (by rw [relax_len]; exact hf)
    unfold relaxF at h2 ⊢
    rw [List.foldl_cons]
    exact h1.trans h2
theorem roundP_le {ps : List Pr} (hl : ps.length = 64) : ∀ k, k ≤ 64 → Le ps (roundP ags used ps k).1
  | 0, _ => Le.refl _
  | k + 1, hk => by
    refine (roundP_le hl k (by omega)).trans ?_
    show Le (roundP ags used ps k).1 (relaxF ags k (roundP ags used ps k) (canTo ags used k ags.length)).1
    exact relaxF_le _ _ (by rw [roundP_len, hl]; omega)
theorem roundP_le_from {ps : List Pr} (hl : ps.length = 64) {k : Nat} : ∀ d, k + d ≤ 64 → Le (roundP ags used ps k).1 (roundP ags used ps (k + d)).1
  | 0, _ => Le.refl _
  | d + 1, hk => by
    refine (roundP_le_from hl d (by omega)).trans ?_
    show Le (roundP ags used ps (k + d)).1 (relaxF ags (k + d) (roundP ags used ps (k + d)) (canTo ags used (k + d) ags.length)).1
    exact relaxF_le _ _ (by rw [roundP_len, hl]; omega)
theorem iterP_le : ∀ j, Le (initP p 64) (iterP ags used p j)
  | 0 => Le.refl _
  | j + 1 => (iterP_le j).trans (show Le (iterP ags used p j) (roundP ags used (iterP ags used p j) 64).1 from roundP_le (iterP_len j) 64 (Nat.le_refl _))
/-! Each price is that of a way. -/
theorem Snd.relax {f i : Nat} {s : List Pr × Bool} (hok : Oks ags) (h : Snd ags used p s.1) (hl : s.1.length = 64) (hf : f < 64) (hi : i ∈ canTo ags used f ags.length) : Snd ags used p (relax ags f s i).1 := by
  unfold Go.Proofs.YtofkhehcnfiopaaDoor.N.relax
  split
  · rename_i hlt
    obtain ⟨h1, _⟩ := lessP_true hlt
    intro g hg hk
    rw [getP_set (by omega)] at hk ⊢
    by_cases e : f = g
    · subst e
      rw [if_pos rfl] at hk ⊢
      have ha : (ags.getD i default).ok := by
        have := (canTo_mem hi).1
        rw [List.getD_eq_getElem?_getD, List.getElem?_eq_getElem this]
        exact hok.2 _ (List.getElem_mem this)
      exact Wy.step hi (h _ (putN_lt ha hf) h1)
    · rw [if_neg e] at hk ⊢
      exact h g hg hk
  · exact h
theorem Snd.relaxF {f : Nat} (hok : Oks ags) (hf : f < 64) : ∀ (l : List Nat) (s : List Pr × Bool), (∀ i ∈ l, i ∈ canTo ags used f ags.length) → s.1.length = 64 → Snd ags used p s.1 → Snd ags used p (relaxF ags f s l).1
  | [], s, _, _, h => h
  | i :: l, s, hm, hl, h => by
    have h1 := Snd.relaxF hok hf l (Go.Proofs.YtofkhehcnfiopaaDoor.N.relax ags f s i) (fun j hj => hm j (List.mem_cons_of_mem _ hj)) (by rw [relax_len, hl]) (h.relax hok hl hf (hm i List.mem_cons_self))
    unfold Go.Proofs.YtofkhehcnfiopaaDoor.N.relaxF at h1 ⊢
    rw [List.foldl_cons]
    exact h1
theorem Snd.round {ps : List Pr} (hok : Oks ags) (hl : ps.length = 64) (h : Snd ags used p ps) : ∀ k, k ≤ 64 → Snd ags used p (roundP ags used ps k).1
  | 0, _ => h
  | k + 1, hk => by
    unfold roundP
    exact Snd.relaxF hok (by omega) _ _ (fun _ hi => hi) (by rw [roundP_len, hl]) (Snd.round hok hl h k (by omega))
theorem initP_getD {f : Nat} (hf : f < 64) : (initP p 64).getD f default = ⟨0, 0, decide (nn f p = 0)⟩ := by
  unfold initP
  simp [List.getD_eq_getElem?_getD, hf]
theorem Snd.iter (hok : Oks ags) : ∀ j, Snd ags used p (iterP ags used p j)
  | 0 => by
    intro f hf hk
    unfold iterP at hk ⊢
    rw [initP_getD hf] at hk ⊢
    exact Wy.done (by simpa using hk)
  | j + 1 => by
    unfold iterP
    exact (Snd.iter hok j).round hok (iterP_len j) 64 (Nat.le_refl _)
/-! What a round comes to. -/
theorem relax_has {f i : Nat} {s : List Pr × Bool} (hf : f < s.1.length) (hk : (s.1.getD (putN (ags.getD i default) f) default).known = true) :
    Has (relax ags f s i).1 f ((s.1.getD (putN (ags.getD i default) f) default).cost + (ags.getD i default).cost) ((s.1.getD (putN (ags.getD i default) f) default).puts + 1) := by
  unfold relax
  split
  · rename_i h
    unfold Has
    rw [getP_set hf, if_pos rfl]
    exact ⟨hk, lexle.refl _ _⟩
  · rename_i h
    have h' := lessP_false (by simpa using h) (show (afterP s.1 (ags.getD i default) f).known = true from hk)
    exact h'
theorem relaxF_has {f i : Nat} : ∀ (l : List Nat) (s : List Pr × Bool), f < s.1.length → i ∈ l → (s.1.getD (putN (ags.getD i default) f) default).known = true →
    Has (relaxF ags f s l).1 f ((s.1.getD (putN (ags.getD i default) f) default).cost + (ags.getD i default).cost) ((s.1.getD (putN (ags.getD i default) f) default).puts + 1)
  | [], s, _, hi, _ => by cases hi
  | x :: l, s, hf, hi, hk => by
    have hf' : f < (relax ags f s x).1.length := by rw [relax_len]; exact hf
    have hle := relax_le (ags := ags) (i := x) hf
    have h2 := relaxF_le (ags := ags) (f := f) l (relax ags f s x) hf'
    by_cases e : i = x
    · subst e
      have h1 := relax_has (ags := ags) (i := i) hf hk
      unfold relaxF at h2 ⊢
      rw [List.foldl_cons]
      exact h1.le h2
    · have hi' : i ∈ l := by
        rcases List.mem_cons.1 hi with h | h
        · exact absurd h e
        · exact h
      obtain ⟨k1, k2⟩ := hle _ hk
      have h3 := relaxF_has l (relax ags f s x) hf' hi' k1
      unfold relaxF at h3 ⊢
      rw [List.foldl_cons]
      exact ⟨h3.1, h3.2.trans (k2.add _)⟩
theorem roundP_has {ps : List Pr} (hl : ps.length = 64) {f i : Nat} (hf : f < 64) (hi : i ∈ canTo ags used f ags.length) (hk : (ps.getD (putN (ags.getD i default) f) default).known = true) :
    Has (roundP ags used ps 64).1 f ((ps.getD (putN (ags.getD i default) f) default).cost + (ags.getD i default).cost) ((ps.getD (putN (ags.getD i default) f) default).puts + 1) := by
  have h1 := roundP_le (ags := ags) (used := used) hl f (by omega)
  obtain ⟨k1, k2⟩ := h1 _ hk
  have h2 : Has (roundP ags used ps (f + 1)).1 f _ _ := relaxF_has (f := f) _ (roundP ags used ps f) (by rw [roundP_len, hl]; exact hf) hi k1
  have h3 : Has (roundP ags used ps (f + 1)).1 f ((ps.getD (putN (ags.getD i default) f) default).cost + (ags.getD i default).cost) ((ps.getD (putN (ags.getD i default) f) default).puts + 1) := ⟨h2.1, h2.2.trans (k2.add _)⟩
  have h4 := roundP_le_from (ags := ags) (used := used) hl (k := f + 1) (63 - f) (by omega)
  rw [show f + 1 + (63 - f) = 64 by omega] at h4
  exact h3.le h4
theorem iter_has (hok : Oks ags) : ∀ {f c k : Nat}, Wy ags used p f c k → f < 64 → ∀ j, k ≤ j → Has (iterP ags used p j) f c k := by
  intro f c k h
  induction h with
  | done h =>
    intro hf j _
    have h1 := iterP_le (ags := ags) (used := used) (p := p) j
    have h2 := h1 _ (by rw [initP_getD hf]; simpa using h)
    rw [initP_getD hf] at h2
    exact h2
  | @step f i c k hi _ ih =>
    intro hf j hj
    obtain ⟨j, rfl⟩ : ∃ j', j = j' + 1 := ⟨j - 1, by omega⟩
    have ha : (ags.getD i default).ok := by
      have := (canTo_mem hi).1
      rw [List.getD_eq_getElem?_getD, List.getElem?_eq_getElem this]
      exact hok.2 _ (List.getElem_mem this)
    obtain ⟨k1, k2⟩ := ih (putN_lt ha hf) j (by omega)
    have h1 := roundP_has (used := used) (iterP_len (ags := ags) (used := used) (p := p) j) hf hi k1
    unfold iterP
    exact ⟨h1.1, h1.2.trans (k2.add _)⟩
/-! The least price, and that its way is short. -/
theorem least {q : Nat → Prop} : ∀ n, q n → ∃ m, q m ∧ ∀ k, q k → m ≤ k := by
  intro n
  induction n using Nat.strongRecOn with
  | ind n ih =>
    intro hn
    by_cases h : ∃ m, m < n ∧ q m
    · obtain ⟨m, h1, h2⟩ := h
      exact ih m h1 h2
    · exact ⟨n, hn, fun k hk => Nat.le_of_not_lt fun hlt => h ⟨k, hlt, hk⟩⟩
def Opt (ags : List Ag) (used p f c k : Nat) : Prop := Wy ags used p f c k ∧ ∀ c' k', Wy ags used p f c' k' → lexle c k c' k'
theorem Opt.ex {f c k : Nat} (h : Wy ags used p f c k) : ∃ c' k', Opt ags used p f c' k' := by
  obtain ⟨c0, ⟨k0, h0⟩, h1⟩ := least (q := fun c => ∃ k, Wy ags used p f c k) c ⟨k, h⟩
  obtain ⟨k1, h2, h3⟩ := least (q := fun k => Wy ags used p f c0 k) k0 h0
  refine ⟨c0, k1, h2, fun c' k' h' => ?_⟩
  have := h1 c' ⟨k', h'⟩
  rcases Nat.lt_or_eq_of_le this with h4 | h4
  · exact Or.inl h4
  · subst h4
    exact Or.inr ⟨rfl, h3 k' h'⟩
theorem Opt.next (hok : Oks ags) {f c k : Nat} (hf : f < 64) (h : Opt ags used p f c (k + 1)) : ∃ i c', i ∈ canTo ags used f ags.length ∧ c = c' + (ags.getD i default).cost ∧ putN (ags.getD i default) f < 64 ∧ Opt ags used p (putN (ags.getD i default) f) c' k := by
  obtain ⟨h1, h2⟩ := h
  cases h1 with
  | @step _ i c' _ hi hw =>
    have ha : (ags.getD i default).ok := by
      have := (canTo_mem hi).1
      rw [List.getD_eq_getElem?_getD, List.getElem?_eq_getElem this]
      exact hok.2 _ (List.getElem_mem this)
    exact ⟨i, c', hi, rfl, putN_lt ha hf, hw, fun c'' k'' h'' => (h2 _ _ (Wy.step hi h'')).sub⟩
theorem Opt.uniq {f c k c' k' : Nat} (h : Opt ags used p f c k) (h' : Opt ags used p f c' k') : c = c' ∧ k = k' := lexle.anti (h.2 _ _ h'.1) (h'.2 _ _ h.1)
theorem countP_lt {α : Type} {a b : α → Bool} {l : List α} (hab : ∀ x, a x = true → b x = true) : (∃ x ∈ l, b x = true ∧ a x = false) → l.countP a < l.countP b := by
  induction l with
  | nil => rintro ⟨x, h, _⟩; cases h
  | cons y l ih =>
    rintro ⟨x, hx, h1, h2⟩
    have hle : l.countP a ≤ l.countP b := List.countP_mono_left (fun z _ => hab z)
    rw [List.countP_cons, List.countP_cons]
    rcases List.mem_cons.1 hx with e | e
    · subst e
      rw [h1, h2]
      simp
      omega
    · have := ih ⟨x, e, h1, h2⟩
      by_cases ha : a y = true
      · rw [ha, hab y ha]; simp; exact this
      · have : (if a y = true then 1 else 0) = 0 := if_neg ha
        rw [this]
        omega
open Classical in
theorem Opt.level (hok : Oks ags) : ∀ (k f c : Nat), f < 64 → Opt ags used p f c k → k + 1 ≤ (List.range 64).countP (fun g => decide (∃ c k', k' ≤ k ∧ Opt ags used p g c k'))
  | 0, f, c, hf, h => by
    have : 0 < (List.range 64).countP (fun g => decide (∃ c k', k' ≤ 0 ∧ Opt ags used p g c k')) :=
      List.countP_pos_iff.2 ⟨f, List.mem_range.2 hf, by simp only [decide_eq_true_eq]; exact ⟨c, 0, Nat.le_refl _, h⟩⟩
    omega
  | k + 1, f, c, hf, h => by
    obtain ⟨i, c', _, _, hg, ho⟩ := h.next hok hf
    have h1 := Opt.level hok k _ _ hg ho
    have h2 : (List.range 64).countP (fun g => decide (∃ c k', k' ≤ k ∧ Opt ags used p g c k')) < (List.range 64).countP (fun g => decide (∃ c k', k' ≤ k + 1 ∧ Opt ags used p g c k')) := by
      refine countP_lt (fun x hx => ?_) ⟨f, List.mem_range.2 hf, ?_, ?_⟩
      · simp only [decide_eq_true_eq] at hx ⊢
        obtain ⟨c, k', h1, h2⟩ := hx
        exact ⟨c, k', by omega, h2⟩
      · simp only [decide_eq_true_eq]
        exact ⟨c, k + 1, Nat.le_refl _, h⟩
      · simp only [decide_eq_false_iff_not]
        rintro ⟨c2, k2, h3, h4⟩
        have := (h4.uniq h).2
        omega
    omega
theorem Opt.short (hok : Oks ags) {k f c : Nat} (hf : f < 64) (h : Opt ags used p f c k) : k ≤ 63 := by
  have h1 := Opt.level hok k f c hf h
  have h2 := List.countP_le_length (l := List.range 64) (p := fun g => @decide (∃ c k', k' ≤ k ∧ Opt ags used p g c k') (Classical.propDecidable _))
  rw [List.length_range] at h2
  omega
theorem Min.at63 (hok : Oks ags) : Min ags used p (iterP ags used p 63) := by
  intro f hf c k h
  obtain ⟨c', k', ho⟩ := Opt.ex h
  have h1 := iter_has hok ho.1 hf 63 (ho.short hok hf)
  exact ⟨h1.1, h1.2.trans (ho.2 _ _ h)⟩
/-! A round without change. -/
theorem relax_same {f i : Nat} {s : List Pr × Bool} (h : lessP (afterP s.1 (ags.getD i default) f) (s.1.getD f default) = false) : relax ags f s i = s := by
  unfold relax
  rw [h]; simp
theorem not_less {ps : List Pr} {f i : Nat} (hok : Oks ags) (hs : Snd ags used p ps) (hm : Min ags used p ps) (hf : f < 64) (hi : i ∈ canTo ags used f ags.length) : lessP (afterP ps (ags.getD i default) f) (ps.getD f default) = false := by
  cases h : lessP (afterP ps (ags.getD i default) f) (ps.getD f default) with
  | false => rfl
  | true =>
    obtain ⟨h1, h2⟩ := lessP_true h
    have ha : (ags.getD i default).ok := by
      have := (canTo_mem hi).1
      rw [List.getD_eq_getElem?_getD, List.getElem?_eq_getElem this]
      exact hok.2 _ (List.getElem_mem this)
    have hw := Wy.step hi (hs _ (putN_lt ha hf) h1)
    obtain ⟨h3, h4⟩ := hm f hf _ _ hw
    exact absurd h4 (h2 h3).2
theorem relaxF_same {f : Nat} : ∀ (l : List Nat) (s : List Pr × Bool), (∀ i ∈ l, lessP (afterP s.1 (ags.getD i default) f) (s.1.getD f default) = false) → relaxF ags f s l = s
  | [], _, _ => rfl
  | i :: l, s, h => by
    have h1 := relaxF_same (f := f) l s (fun j hj => h j (List.mem_cons_of_mem _ hj))
    unfold relaxF at h1 ⊢
    rw [List.foldl_cons, relax_same (h i List.mem_cons_self), h1]
theorem roundP_same {ps : List Pr} (hok : Oks ags) (hs : Snd ags used p ps) (hm : Min ags used p ps) : ∀ k, k ≤ 64 → roundP ags used ps k = (ps, false)
  | 0, _ => rfl
  | k + 1, hk => by
    unfold roundP
    rw [roundP_same hok hs hm k (by omega)]
    exact relaxF_same _ _ fun i hi => not_less hok hs hm (by omega) hi
theorem round_ends (hok : Oks ags) : (roundP ags used (iterP ags used p 63) 64).2 = false := by
  rw [roundP_same hok (Snd.iter hok 63) (Min.at63 hok) 64 (Nat.le_refl _)]
theorem relaxF_flag {f : Nat} : ∀ (l : List Nat) (s : List Pr × Bool), (relaxF ags f s l).2 = false → s.2 = false ∧ relaxF ags f s l = s ∧ ∀ i ∈ l, lessP (afterP s.1 (ags.getD i default) f) (s.1.getD f default) = false
  | [], s, h => ⟨h, rfl, fun _ hi => by cases hi⟩
  | i :: l, s, h => by
    have e : relaxF ags f s (i :: l) = relaxF ags f (relax ags f s i) l := by unfold relaxF; rw [List.foldl_cons]
    rw [e] at h ⊢
    obtain ⟨h1, h2, h3⟩ := relaxF_flag l _ h
    cases hl : lessP (afterP s.1 (ags.getD i default) f) (s.1.getD f default) with
    | true =>
      unfold relax at h1
      rw [if_pos hl] at h1
      cases h1
    | false =>
      have e2 := relax_same hl
      rw [e2] at h1 h2 h3 ⊢
      refine ⟨h1, h2, fun j hj => ?_⟩
      rcases List.mem_cons.1 hj with e3 | e3
      · subst e3; exact hl
      · exact h3 j e3
theorem roundP_flag {ps : List Pr} : ∀ k, (roundP ags used ps k).2 = false → roundP ags used ps k = (ps, false) ∧ ∀ f, f < k → ∀ i ∈ canTo ags used f ags.length, lessP (afterP ps (ags.getD i default) f) (ps.getD f default) = false
  | 0, _ => ⟨rfl, fun _ h => by omega⟩
  | k + 1, h => by
    unfold roundP at h ⊢
    obtain ⟨h1, h2, h3⟩ := relaxF_flag _ _ h
    obtain ⟨h4, h5⟩ := roundP_flag k h1
    rw [h2, h4]
    refine ⟨rfl, fun f hf i hi => ?_⟩
    rcases Nat.lt_or_ge f k with h6 | h6
    · exact h5 f h6 i hi
    · obtain rfl : f = k := by omega
      rw [h4] at h3
      exact h3 i hi
theorem Min.fix (hok : Oks ags) {j : Nat} (h : (roundP ags used (iterP ags used p j) 64).2 = false) : Min ags used p (iterP ags used p j) := by
  obtain ⟨_, h1⟩ := roundP_flag 64 h
  intro f hf c k hw
  induction hw with
  | done h0 =>
    have h2 := iterP_le (ags := ags) (used := used) (p := p) j _ (by rw [initP_getD hf]; simpa using h0)
    rw [initP_getD hf] at h2
    exact h2
  | @step f i c k hi _ ih =>
    have ha : (ags.getD i default).ok := by
      have := (canTo_mem hi).1
      rw [List.getD_eq_getElem?_getD, List.getElem?_eq_getElem this]
      exact hok.2 _ (List.getElem_mem this)
    obtain ⟨k1, k2⟩ := ih (putN_lt ha hf)
    have h3 := lessP_false (h1 f hf i hi) (show (afterP _ (ags.getD i default) f).known = true from k1)
    exact ⟨h3.1, h3.2.trans (k2.add _)⟩
theorem fix_known (hok : Oks ags) {j f c k : Nat} (h : (roundP ags used (iterP ags used p j) 64).2 = false) (hf : f < 64) (hw : Wy ags used p f c k) : ((iterP ags used p j).getD f default).known = true := (Min.fix hok h f hf _ _ hw).1
end Go.Proofs.YtofkhehcnfiopaaDoor.N
namespace Go.Proofs.YtofkhehcnfiopaaDoor.N
open Go Go.RowKit Go.Proofs
set_option linter.unusedSectionVars false
variable [I : Sys]
/-! Functions that recover. -/
/-- A piece of code in a deferred call, the callers' frames cs. -/
def CodS (C : Ctx) (c : Code) (Q : Exit → Act → List Frame → World → Prop) (fr : List (Nat × Value)) (hp : List Res) (cs : List Frame) : Prop := ∀ a w, At C fr hp a w → wpS C.P c Q a cs w
section
variable {C : Ctx} {fr : List (Nat × Value)} {hp hp' : List Res} {a : Act} {w : World} {Q : Exit → Act → List Frame → World → Prop} {cs cs' : List Frame} {d : Nat} {ty : TypeId} {pos : String} {after : Array Edge}
theorem codS_seq {x y : Code} (h : CodS C x (Exit.thenS (wpS C.P y Q) Q) fr hp cs) : CodS C (x.seq y) Q fr hp cs := fun a w ha => wpS_seq (h a w ha)
theorem codS_cod {c : Code} (h : Cod C c (fun e a w => Q e a cs w) fr hp) : CodS C c Q fr hp cs := fun a w ha => wpS_of_wp (h a w ha)
theorem exS_then {y : Code} (h : CodS C y Q fr hp cs) : Ex C (fun e a w => Exit.thenS (wpS C.P y Q) Q e a cs w) .normal fr hp := h
theorem codS_rec {id : Nat} {xs : Array Operand} {ts : Array TypeId} {l : List Oper} {x : Value} (hd : recoverD cs = some (x, cs')) (hn : Nat.blt d C.N = true)
    (h : Lst C (⟨some d, .call { callee := .builtin .recover, args := xs, argTypes := ts }, ty, pos, after, none⟩ :: l).toArray (fun e a w => Q e a cs' w) l ((d, x) :: fr) hp) :
    CodS C (.region id (⟨some d, .call { callee := .builtin .recover, args := xs, argTypes := ts }, ty, pos, after, none⟩ :: l).toArray false) Q fr hp cs := fun a w ha =>
  wpS_region_rec rfl tame_recover run_recover fun v₁ h1 => by rw [hd]; exact h _ _ ((ha.rely h1).put (lt_of_blt hn) x)
theorem codS_norec {id : Nat} {xs : Array Operand} {ts : Array TypeId} {l : List Oper} (hd : recoverD cs = none) (hn : Nat.blt d C.N = true)
    (h : Lst C (⟨some d, .call { callee := .builtin .recover, args := xs, argTypes := ts }, ty, pos, after, none⟩ :: l).toArray (fun e a w => Q e a cs w) l ((d, .nilIface) :: fr) hp) :
    CodS C (.region id (⟨some d, .call { callee := .builtin .recover, args := xs, argTypes := ts }, ty, pos, after, none⟩ :: l).toArray false) Q fr hp cs := fun a w ha =>
  wpS_region_rec rfl tame_recover run_recover fun v₁ h1 => by rw [hd]; exact h _ _ ((ha.rely h1).put (lt_of_blt hn) _)
theorem lst_assert {x : Operand} {s t : TypeId} {ok : Bool} {v r : Value} {ops : Array Oper} {Q : Exit → Act → World → Prop} {rest : List Oper} (hd : Nat.blt d C.N = true) (hx : ev fr x = some v) (hr : ∀ w, (Instr.typeAssert v s t ok).run C.P w = .ok r w)
    (k : Lst C ops Q rest ((d, r) :: fr) hp) : Lst C ops Q (⟨some d, .typeAssert x s t ok, ty, pos, after, none⟩ :: rest) fr hp :=
  lst_value _ hd (fun _ _ _ => tame_typeAssert ..) (fun a w ha => ⟨w, by simp [execOp, ha.eval hx, hr w], ha⟩) k
theorem enterS {f : FuncId} {fn : Func} {c : Code} {vs : List Value} {fr0 : List (Nat × Value)} {a0 : Act} {u : FrameMode} {R : Ending → FrameMode → World → Prop} {N : Nat} (fr : List (Nat × Value)) (ha : At C fr0 hp a0 w)
    (hf : C.P.funcs[f]? = some fn) (hb : fn.body = some c) (hN : fn.ntmps = N) (hle : Nat.ble vs.length N = true) (hfr : idx 0 vs = fr)
    (h : ∀ c₀ cs, c₀.mode = u → CodS ⟨C.P, C.B, C.w0, N, []⟩ c (bodyPostS C.P fn c₀ cs R) fr hp (c₀ :: cs)) : CallsD C.P f vs.toArray u w R := by
  refine callsD_of_wpS hf hb fun c₀ cs hu => h c₀ cs hu _ _ ⟨?_, rfl, ?_, ha.below, ha.base, ha.own, ha.apart⟩
  · have : vs.length ≤ N := by simpa [Nat.ble_eq] using hle
    simp [hN]; omega
  · intro t v ht
    rw [← hfr] at ht
    obtain ⟨j, rfl, hj⟩ := look_idx vs 0 t v ht
    have hjl : j < vs.length := by
      rcases Nat.lt_or_ge j vs.length with h1 | h1
      · exact h1
      · rw [List.getElem?_eq_none h1] at hj; cases hj
    simp only [Nat.zero_add, Array.getD_eq_getD_getElem?]
    rw [Array.getElem?_append_left (by simpa using hjl)]
    simp [hj]
theorem At.bare0 (P : Program) (w : World) : At ⟨P, w.heap.size, w, 0, []⟩ [] [] { tmps := #[], defers := [] } w :=
  ⟨rfl, rfl, (fun _ _ h => by cases h), Below.refl _ _, Nat.le_refl _, (fun _ h => by cases h), List.nodup_nil⟩
end
end Go.Proofs.YtofkhehcnfiopaaDoor.N
