/- Parts of the walks of the laws on fining, those that FiningKnown needs: F70, KnC, KnL, F72, RowV, RowV3. -/
import Derived.Test.YtofkhehcnfiopaaDoorSFiningKnown08
import Derived.Test.YtofkhehcnfiopaaDoorProg
import Derived.Test.YtofkhehcnfiopaaDoorSFiningKnown07
import Derived.Test.YtofkhehcnfiopaaDoorSFiningKnown05
import Derived.Test.YtofkhehcnfiopaaDoorSFiningKnown06
import Derived.Test.YtofkhehcnfiopaaDoorRows
import Derived.ChangeSame
import Derived.ChangeVars
import Derived.JoinedOf
import Derived.RowKit
import Derived.RowKitTokens
import Derived.LaidLaws
import Derived.LaidHandle
import Derived.Stop.Joined
import Derived.ProofKit
import Derived.SizedLaws
import Derived.OpenShut
import Derived.SevenTiedAt
import Derived.Conc.Holds
namespace Go.Proofs.YtofkhehcnfiopaaDoor.N
open Go Go.RowKit Go.Proofs
set_option linter.unusedSectionVars false
variable [I : Sys]
theorem F.ent108 : Enters Tryd.prog 108 := enters_of Tryd.func108 rfl (by kernel_rfl)
theorem F.ent109 : Enters Tryd.prog 109 := enters_of Tryd.func109 rfl (by kernel_rfl)
theorem F.ent125 : Enters Tryd.prog 125 := enters_of Tryd.func125 rfl (by kernel_rfl)
theorem F.one116 : One Tryd.prog 116 := ⟨by unfold aggB; rw [Tryd.underlying116], by rw [Tryd.underlying116]; simp⟩
theorem F.ti116 : TI Tryd.prog 116 (.int .u64 0) 1 8 := TI.of (by kernel_rfl)
theorem Fewest_v (A : Option Addr) (c : Nat) (ags : List Ag) (hok : Oks ags) (p : Nat) (hp : p < 64) (w : World) (hA : RdL Ag.cells 5 w A ags) : Calls Tryd.prog 67 #[.slice A ags.length c, .int .i64 (p : Int)] w fun e w' => ∃ (W : List Nat) (A' : Option Addr) (c' : Nat), FewS ags.length (asAll ags p) W ∧ SetOk ags.length W ∧ e = .returned (.tuple #[.slice A' W.length c', .int .i64 0]) ∧ Grew w w' [.row 3 1 A' W.length c' (ints W)] := by
  have hua : usedAll ags.length < 256 := by have := usedAll_lt hok.1; omega
  refine enter_defers (N := 50) [(0, .slice A ags.length c), (1, .int .i64 (p : Int))] Tryd.func67 rfl Tryd.ntmps67 rfl rfl ?_
  refine cod_seq ?_
  refine cod_region ?_
  refine lst_alloc rfl F.ti25 ?_
  intro b4
  refine lst_alloc rfl F.ti35 ?_
  intro b5
  refine lst_nil ?_
  refine ex_then ?_
  refine cod_seq ?_
  refine cod_region ?_
  refine lst_defer (first := []) (cap := []) (vs := [_]) rfl rfl ?_
  refine lst_nil ?_
  refine ex_then ?_
  refine cod_seq ?_
  refine cod_region ?_
  refine lst_move rfl rfl ?_
  refine lst_fn (X := Option Addr × Nat) (vs := [_]) (p := fun _ => True) (val := fun x => .agg [.slice x.1 ags.length x.2, .int .u8 (usedAll ags.length : Nat)].toArray) (rs := fun x => [.row 89 5 x.1 ags.length x.2 (ags.flatMap Ag.cells)]) rfl rfl F.ent75 (fun a w ha => (begin_ok A c ags hok w (hA.later ha.below)).mono (fun e w' h => by obtain ⟨A', c', h1, h2⟩ := h; exact ⟨(A', c'), trivial, h1, h2⟩)) ?_
  rintro ⟨aA, cg⟩ -
  dsimp only [List.cons_append, List.nil_append]
  refine lst_alloc rfl F.ti75 ?_
  intro b6
  refine lst_store rfl rfl F.ti75 rfl ?_
  refine lst_nil ?_
  refine ex_then ?_
  refine cod_seq ?_
  refine cod_region ?_
  refine lst_move rfl rfl ?_
  refine lst_fn0 (vs := [_]) rfl rfl F.ent76 (fun a w ha => melt_ok p hp w) ?_
  refine lst_alloc rfl F.ti77 ?_
  intro b7
  refine lst_store rfl rfl F.ti77 rfl ?_
  refine lst_nil ?_
  refine ex_then ?_
  refine cod_seq ?_
  refine cod_region ?_
  refine lst_loadN rfl rfl F.agg75 F.ti75 ?_
  refine lst_load rfl rfl F.one77 ?_
  refine lst_call (X := Nat) (first := []) (cap := []) (vs := [_, _]) (p := fun n => SetN n (Clr ags (usedAll ags.length) p)) (val := fun n => .int .u64 (n : Int)) (rs := fun _ => .blk b7 (.cells [.int .u8 (p : Int)].toArray 77 (0, 0)) :: .blk b6 (.cells [.slice aA ags.length cg, .int .u8 (usedAll ags.length : Nat)].toArray 75 (0, 0)) :: .row 89 5 aA ags.length cg (ags.flatMap Ag.cells) :: .blk b5 (.cells [.int .i64 0].toArray 35 (0, 0)) :: [.blk b4 (.cells [.slice none 0 0].toArray 25 (0, 0))]) rfl rfl rfl F.ent100 (fun a w ha => (hopeful_c rfl hok hua hp (by simp) ha).mono (fun e w' h => by obtain ⟨n, h1, h2, h3⟩ := h; exact ⟨n, h1, h2, h3⟩)) ?_
  rintro due hdue
  dsimp only
  refine lst_alloc rfl F.ti116 ?_
  intro b8
  refine lst_store rfl rfl F.ti116 rfl ?_
  refine lst_nil ?_
  refine ex_then ?_
  refine cod_seq ?_
  refine cod_seq ?_
  refine cod_region ?_
  refine lst_field_z rfl rfl F.fi75_0 F.ti72 ?_
  refine lst_load rfl rfl F.one72 ?_
  refine lst_len rfl rfl Tryd.underlying72 ?_
  refine lst_fn (X := Nat) (vs := [_]) (p := fun _ => True) (val := fun b => .func (.func 125) ([] : List Value).toArray [.pointer (some ⟨b, 0, none⟩)].toArray) (rs := fun b => [.blk b (.cells [.int .i64 (ags.length : Int)].toArray 3 (0, 0))]) rfl rfl F.ent108 (fun a w ha => (sets_c ags.length w).mono (fun e w' h => by obtain ⟨b, h1, h2⟩ := h; exact ⟨b, trivial, h1, h2⟩)) ?_
  rintro nb -
  dsimp only [List.cons_append, List.nil_append]
  refine lst_nil ?_
  refine ex_then ?_
  refine cod_block ?_
  refine cod_range (Y := List Nat × Option Addr × Nat) (lb := [.pointer (some ⟨nb, 0, none⟩)]) (fun y => FewS ags.length (asAll ags p) y.1 ∧ SetOk ags.length y.1) (fun _ => some .ret) (fun _ => .ret) (fun y => .blk b4 (.cells [.slice y.2.1 y.1.length y.2.2].toArray 25 (0, 0)) :: .blk b5 (.cells [.int .i64 0].toArray 35 (0, 0)) :: .row 3 1 y.2.1 y.1.length y.2.2 (ints y.1) :: []) rfl F.ent125 (fun _ _ => .inr ⟨_, rfl, trivial⟩) (fun r D rec a1 w1 hst hpe hps has hbo hsz hsl hR => ?_) (fun D y hy => ?_)
  · have hY : YSpF Tryd.prog w.heap.size w r ags.length (asAll ags p) (fun y : List Nat × Option Addr × Nat => y.1) (.blk r (.loop rec) :: .blk D (.deferred (some [])) :: .blk b4 (.cells [.slice none 0 0].toArray 25 (0, 0)) :: .blk b5 (.cells [.int .i64 0].toArray 35 (0, 0)) :: .blk b6 (.cells [.slice aA ags.length cg, .int .u8 (usedAll ags.length : Nat)].toArray 75 (0, 0)) :: .blk b7 (.cells [.int .u8 (p : Int)].toArray 77 (0, 0)) :: .blk b8 (.cells [.int .u64 (due : Int)].toArray 116 (0, 0)) :: .row 89 5 aA ags.length cg (ags.flatMap Ag.cells) :: []) (fun (y : List Nat × Option Addr × Nat) => .blk r (.loop { rec with state := .done, pending := some .ret }) :: .blk D (.deferred (some [])) :: .blk b4 (.cells [.slice y.2.1 y.1.length y.2.2].toArray 25 (0, 0)) :: .blk b5 (.cells [.int .i64 0].toArray 35 (0, 0)) :: .row 3 1 y.2.1 y.1.length y.2.2 (ints y.1) :: []) := by
      intro v hv N ds fr hq ay wy hay
      have hn4 := hok.1
      have hm16 : maskL v < 16 := hv.mask hok.1
      have ha2 := hay.permed List.perm_append_comm
      simp only [List.cons_append, List.nil_append] at ha2
      have ha1 : At ⟨Tryd.prog, w.heap.size, w, N, ds⟩ fr (.blk r (.loop rec) :: .blk D (.deferred (some [])) :: .blk b4 (.cells [.slice none 0 0].toArray 25 (0, 0)) :: .blk b5 (.cells [.int .i64 0].toArray 35 (0, 0)) :: .blk b6 (.cells [.slice aA ags.length cg, .int .u8 (usedAll ags.length : Nat)].toArray 75 (0, 0)) :: .blk b7 (.cells [.int .u8 (p : Int)].toArray 77 (0, 0)) :: .blk b8 (.cells [.int .u64 (due : Int)].toArray 116 (0, 0)) :: .row 89 5 aA ags.length cg (ags.flatMap Ag.cells) :: hq) ay wy := ha2.pck pkk
      refine yield_in (X := Unit) (N := 50) (d := 23) (frC := [(4, .pointer (some ⟨b4, 0, none⟩)), (5, .pointer (some ⟨b5, 0, none⟩)), (6, .pointer (some ⟨b6, 0, none⟩)), (7, .pointer (some ⟨b7, 0, none⟩)), (8, .pointer (some ⟨b8, 0, none⟩))]) (frB := fun _ => (9, .int .u8 (maskL v : Nat)) :: [(4, .pointer (some ⟨b4, 0, none⟩)), (5, .pointer (some ⟨b5, 0, none⟩)), (6, .pointer (some ⟨b6, 0, none⟩)), (7, .pointer (some ⟨b7, 0, none⟩)), (8, .pointer (some ⟨b8, 0, none⟩))]) (hp1 := fun _ => .blk D (.deferred (some [])) :: .blk b4 (.cells [.slice none 0 0].toArray 25 (0, 0)) :: .blk b5 (.cells [.int .i64 0].toArray 35 (0, 0)) :: .blk b6 (.cells [.slice aA ags.length cg, .int .u8 (usedAll ags.length : Nat)].toArray 75 (0, 0)) :: .blk b7 (.cells [.int .u8 (p : Int)].toArray 77 (0, 0)) :: .blk b8 (.cells [.int .u64 (due : Int)].toArray 116 (0, 0)) :: .row 89 5 aA ags.length cg (ags.flatMap Ag.cells) :: hq) ha1 hst hps hsz rfl (fun t u hu => hsl t u (Sub.look (fr' := [(4, .pointer (some ⟨b4, 0, none⟩)), (5, .pointer (some ⟨b5, 0, none⟩)), (6, .pointer (some ⟨b6, 0, none⟩)), (7, .pointer (some ⟨b7, 0, none⟩)), (8, .pointer (some ⟨b8, 0, none⟩))]) sbn t u hu)) (by rw [has]; kernel_rfl) (by rw [hbo]; kernel_rfl) ?_ ?_
      · intro K hK
        refine cod_is has ?_
        refine cod_region ?_
        refine lst_assign rfl rfl ?_
        refine lst_nil ?_
        exact fun a w ha => hK () a w ((ha.drop_slots sbn).pck pkk)
      · intro _
        refine cod_is hbo ?_
        refine cod_block ?_
        refine cod_seq ?_
        refine cod_region ?_
        refine lst_loadN rfl rfl F.agg75 F.ti75 ?_
        refine lst_alloc rfl F.ti75 ?_
        intro b10
        refine lst_store rfl rfl F.ti75 rfl ?_
        refine lst_nil ?_
        refine ex_then ?_
        refine cod_seq ?_
        refine cod_region ?_
        refine lst_move rfl rfl ?_
        refine lst_field_z rfl rfl F.fi75_1 F.ti73 ?_
        refine lst_store rfl rfl F.ti73 rfl ?_
        refine lst_nil ?_
        refine ex_then ?_
        refine cod_seq ?_
        refine cod_seq ?_
        refine any_begin [] F.follows 5 rfl [false, false, false, false, false] rfl ?_
        refine any_tk 0 rfl rfl rfl (yld_loadN rfl F.agg75 F.ti75) ?_
        refine any_tk 1 rfl rfl rfl (yld_load rfl F.one77) ?_
        refine any_tk 3 rfl rfl rfl (yld_load rfl F.one116) ?_
        refine any_one 2 (by kernel_rfl) rfl rfl ?_
        refine lst_call (X := Nat) (first := []) (cap := []) (vs := [_, _]) (p := fun n => SetN n (Clr ags (maskL v) p)) (val := fun n => .int .u64 (n : Int)) (rs := fun _ => .blk b10 (.cells [.slice aA ags.length cg, .int .u8 (maskL v : Nat)].toArray 75 (0, 0)) :: .blk r (.loop { rec with state := .busy }) :: .blk D (.deferred (some [])) :: .blk b4 (.cells [.slice none 0 0].toArray 25 (0, 0)) :: .blk b5 (.cells [.int .i64 0].toArray 35 (0, 0)) :: .blk b6 (.cells [.slice aA ags.length cg, .int .u8 (usedAll ags.length : Nat)].toArray 75 (0, 0)) :: .blk b7 (.cells [.int .u8 (p : Int)].toArray 77 (0, 0)) :: .blk b8 (.cells [.int .u64 (due : Int)].toArray 116 (0, 0)) :: .row 89 5 aA ags.length cg (ags.flatMap Ag.cells) :: hq) rfl rfl rfl F.ent100 (fun a w ha => (hopeful_c rfl hok (show maskL v < 256 by omega) hp (by simp) ha).mono (fun e w' h => by obtain ⟨n, h1, h2, h3⟩ := h; exact ⟨n, h1, h2, h3⟩)) ?_
        rintro n hset
        dsimp only
        refine lst_nil ?_
        refine any_next sbl ?_
        refine any_tk 4 rfl rfl rfl (yld_int rfl rfl bin_neq) ?_
        refine any_done rfl (by kernel_rfl) ?_
        refine ex_then ?_
        refine cod_cond_dec rfl (fun hc0 => ?_) (fun hc0 => ?_)
        · skip
          have hnG : ¬ asAll ags p v := fun h => hc0 ((sets_eq hv.2 hset hdue).2 h)
          refine cod_exit ?_
          refine ex_then_exit ?_
          refine ex_block_exit ?_
          refine ex_pck (hp' := .blk r (.loop { rec with state := .busy }) :: .blk D (.deferred (some [])) :: .blk b4 (.cells [.slice none 0 0].toArray 25 (0, 0)) :: .blk b5 (.cells [.int .i64 0].toArray 35 (0, 0)) :: .blk b6 (.cells [.slice aA ags.length cg, .int .u8 (usedAll ags.length : Nat)].toArray 75 (0, 0)) :: .blk b7 (.cells [.int .u8 (p : Int)].toArray 77 (0, 0)) :: .blk b8 (.cells [.int .u64 (due : Int)].toArray 116 (0, 0)) :: .row 89 5 aA ags.length cg (ags.flatMap Ag.cells) :: hq) pkk ?_
          refine round_goes hst hpe (fun a w ha => ⟨none, fun u hu => by rw [List.mem_singleton.1 hu, List.append_nil]; exact hnG, rfl, ?_⟩)
          exact ((hay.back ha).pck (hp' := .blk r (.loop rec) :: .blk D (.deferred (some [])) :: .blk b4 (.cells [.slice none 0 0].toArray 25 (0, 0)) :: .blk b5 (.cells [.int .i64 0].toArray 35 (0, 0)) :: .blk b6 (.cells [.slice aA ags.length cg, .int .u8 (usedAll ags.length : Nat)].toArray 75 (0, 0)) :: .blk b7 (.cells [.int .u8 (p : Int)].toArray 77 (0, 0)) :: .blk b8 (.cells [.int .u64 (due : Int)].toArray 116 (0, 0)) :: .row 89 5 aA ags.length cg (ags.flatMap Ag.cells) :: hq) pkk).permed (by simpa [TO] using (List.perm_append_comm (l₁ := (.blk r (.loop rec) :: .blk D (.deferred (some [])) :: .blk b4 (.cells [.slice none 0 0].toArray 25 (0, 0)) :: .blk b5 (.cells [.int .i64 0].toArray 35 (0, 0)) :: .blk b6 (.cells [.slice aA ags.length cg, .int .u8 (usedAll ags.length : Nat)].toArray 75 (0, 0)) :: .blk b7 (.cells [.int .u8 (p : Int)].toArray 77 (0, 0)) :: .blk b8 (.cells [.int .u64 (due : Int)].toArray 116 (0, 0)) :: .row 89 5 aA ags.length cg (ags.flatMap Ag.cells) :: [])) (l₂ := hq)))
        · skip
          have hG : asAll ags p v := (sets_eq hv.2 hset hdue).1 (by simpa using hc0)
          refine cod_skip ?_
          refine ex_then ?_
          refine cod_seq ?_
          refine cod_region ?_
          refine lst_move rfl rfl ?_
          refine lst_fn (X := Nat) (vs := [_]) (p := fun n => n ≤ 4) (val := fun n => .int .i64 (n : Int)) (rs := fun _ => []) rfl rfl F.ent109 (fun a w ha => count_c (maskL v) hm16 w) ?_
          intro cn hcn
          dsimp only [List.nil_append]
          refine lst_make_cap rfl rfl rfl Tryd.underlying25 F.ti3 (by omega) ?_
          intro b34
          refine lst_store rfl rfl F.ti25 rfl ?_
          refine lst_nil ?_
          refine ex_then ?_
          refine cod_seq ?_
          refine cod_seq ?_
          refine cod_region ?_
          refine lst_field_z rfl rfl F.fi75_0 F.ti72 ?_
          refine lst_load rfl rfl F.one72 ?_
          refine lst_len rfl rfl Tryd.underlying72 ?_
          refine lst_move rfl rfl ?_
          refine lst_nil ?_
          refine ex_then ?_
          refine cod_block ?_
          refine cod_loop' (G := Nat × Option Addr × Nat) (fun g => g.1 ≤ ags.length) (fun g => ags.length - g.1) (fun g => [(4, .pointer (some ⟨b4, 0, none⟩)), (5, .pointer (some ⟨b5, 0, none⟩)), (9, .int .u8 (maskL v : Nat)), (37, .int .i64 (ags.length : Int)), (38, .int .i64 (g.1 : Int))]) (fun g => .blk b4 (.cells [.slice g.2.1 (outL v g.1).length g.2.2].toArray 25 (0, 0)) :: .row 3 1 g.2.1 (outL v g.1).length g.2.2 (ints (outL v g.1)) :: .blk r (.loop { rec with state := .busy }) :: .blk D (.deferred (some [])) :: .blk b5 (.cells [.int .i64 0].toArray 35 (0, 0)) :: hq) (0, some ⟨b34, 0, none⟩, cn) (Nat.zero_le _) sbn pkk ?_
          rintro ⟨k, A1, c1⟩ hk
          dsimp only at hk ⊢
          refine cod_seq ?_
          refine cod_region ?_
          refine lst_int rfl rfl rfl bin_lss ?_
          refine lst_nil ?_
          refine ex_then ?_
          refine cod_seq ?_
          refine cod_cond_dec rfl (fun hc1 => ?_) (fun hc1 => ?_)
          · skip
            have hk' : k < ags.length := by omega
            refine cod_skip ?_
            refine ex_then ?_
            refine cod_seq ?_
            refine cod_block ?_
            refine cod_seq ?_
            refine cod_region ?_
            refine lst_move rfl rfl ?_
            refine lst_assign rfl rfl ?_
            refine lst_nil ?_
            refine ex_then ?_
            refine cod_seq ?_
            refine cod_region ?_
            refine lst_move rfl rfl ?_
            refine lst_move rfl rfl ?_
            refine lst_fn0 (vs := [_, _]) rfl rfl F.ent110 (fun a w ha => set_has_c (maskL v) k (show maskL v < 256 by omega) w) ?_
            refine lst_nil ?_
            refine ex_then ?_
            refine cod_cond_bool rfl (fun hc2 => ?_) (fun hc2 => ?_)
            · skip
              refine cod_region ?_
              refine lst_load rfl rfl F.one25 ?_
              refine lst_move rfl rfl ?_
              refine lst_lit (vs := [(0, _)]) rfl rfl Tryd.underlying25 F.ti3 rfl rfl rfl ?_
              intro b46
              refine lst_append rfl rfl rfl Tryd.underlying25 F.ti3 rfl rfl rfl (by have := outL_len v k; unfold maxLen; omega) (by have := outL_len v k; omega) ?_
              intro A2 c2
              refine lst_store rfl rfl F.ti25 rfl ?_
              refine lst_nil ?_
              refine ex_block_normal ?_
              refine ex_then ?_
              refine cod_region ?_
              refine lst_int rfl rfl rfl (fun w => bin_add w (wrap_i64' _ (by omega) (by omega))) ?_
              refine lst_move rfl rfl ?_
              refine lst_nil ?_
              have hkv : k ∈ v := by rw [maskL_bit] at hc2; exact of_decide_eq_true hc2
              have e := outL_yes hkv
              refine ex_round' (k + 1, A2, c2) (by (try dsimp only); omega) (by (try dsimp only); omega) sbn (by (try dsimp only); rw [e, ints_snoc, List.length_append, List.length_singleton]; repeat (first | exact Pck.nil _ | exact Pck.refl _ | (apply Pck.cons; focus ((repeat (first | exact Rem.here _ | apply Rem.there)); done)) | refine Pck.skip _ ?_))
            · skip
              refine cod_skip ?_
              refine ex_block_normal ?_
              refine ex_then ?_
              refine cod_region ?_
              refine lst_int rfl rfl rfl (fun w => bin_add w (wrap_i64' _ (by omega) (by omega))) ?_
              refine lst_move rfl rfl ?_
              refine lst_nil ?_
              have hkv : k ∉ v := by rw [maskL_bit] at hc2; exact of_decide_eq_false hc2
              have e := outL_no hkv
              refine ex_round' (k + 1, A1, c1) (by (try dsimp only); omega) (by (try dsimp only); omega) sbn (by (try dsimp only); rw [e]; repeat (first | exact Pck.nil _ | exact Pck.refl _ | (apply Pck.cons; focus ((repeat (first | exact Rem.here _ | apply Rem.there)); done)) | refine Pck.skip _ ?_))
          · skip
            obtain rfl : k = ags.length := by omega
            have hov : outL v ags.length = v := outL_all hv.1 hv.2
            rw [hov]
            refine cod_exit ?_
            refine ex_then_exit ?_
            refine ex_then_exit ?_
            refine ex_block_exit ?_
            refine ex_then ?_
            refine cod_seq ?_
            refine cod_region ?_
            refine lst_load rfl rfl F.one25 ?_
            refine lst_store rfl rfl F.ti25 rfl ?_
            refine lst_store rfl rfl F.ti35 rfl ?_
            refine lst_nil ?_
            refine ex_then ?_
            refine cod_ret ?_
            refine ex_block_ret ?_
            refine ex_pck (hp' := .blk r (.loop { rec with state := .busy }) :: .blk D (.deferred (some [])) :: .blk b4 (.cells [.slice A1 v.length c1].toArray 25 (0, 0)) :: .blk b5 (.cells [.int .i64 0].toArray 35 (0, 0)) :: .row 3 1 A1 v.length c1 (ints v) :: hq) pkk ?_
            refine round_jumps (j := .ret) trivial (fun a w ha => ⟨some (v, A1, c1), ⟨0, [], rfl, by rw [List.append_nil]; exact hG, fun j u hj => absurd hj (Nat.not_lt_zero _), (List.append_nil _).symm⟩, rfl, ?_⟩)
            exact ((hay.back ha).pck (hp' := .blk r (.loop { rec with state := .done, pending := some .ret }) :: .blk D (.deferred (some [])) :: .blk b4 (.cells [.slice A1 v.length c1].toArray 25 (0, 0)) :: .blk b5 (.cells [.int .i64 0].toArray 35 (0, 0)) :: .row 3 1 A1 v.length c1 (ints v) :: hq) pkk).permed (by simpa [TO] using (List.perm_append_comm (l₁ := (.blk r (.loop { rec with state := .done, pending := some .ret }) :: .blk D (.deferred (some [])) :: .blk b4 (.cells [.slice A1 v.length c1].toArray 25 (0, 0)) :: .blk b5 (.cells [.int .i64 0].toArray 35 (0, 0)) :: .row 3 1 A1 v.length c1 (ints v) :: [] : List Res)) (l₂ := hq)))
    refine (it_c (hp := []) hok.1 hY (hR.pck pkk)).mono (fun e w2 h => ?_)
    obtain ⟨hv, o, ho, h4⟩ := h
    cases o with
    | none => exact absurd asAll_all (ho ags.length (Nat.le_refl _) (List.range' 0 ags.length) (by rw [chs_all _ _ 0 (by omega)]; exact List.mem_singleton_self _))
    | some y =>
      refine ⟨hv, y, ho, ?_⟩
      dsimp only [TO] at h4
      exact h4.pck pkk
  · obtain ⟨W, A', c'⟩ := y
    dsimp only at hy ⊢
    refine ex_block_ret ?_
    refine ex_then_ret ?_
    exact ex_ret_caughtM (fun a w ha => ⟨_, res_cc (fn := Tryd.f67) ha rfl rfl rfl F.one25 F.one35, W, A', c', hy.1, hy.2, rfl, ha.grown sbl⟩)

end Go.Proofs.YtofkhehcnfiopaaDoor.N
namespace Go.Proofs.YtofkhehcnfiopaaDoor.N
open Go Go.RowKit Go.Proofs
set_option linter.unusedSectionVars false
set_option maxRecDepth 4000
variable [I : Sys] [R : Rea]
def tAgs : List Ag := [⟨1, 0, 1, 2, 1⟩, ⟨2, 4, 2, 0, 2⟩, ⟨4, 0, 4, 1, 1⟩, ⟨0, 0, 7, 8, 1⟩]
theorem tOks : Oks tAgs := by
  refine ⟨by decide, ?_⟩
  intro a ha
  simp [tAgs] at ha
  rcases ha with rfl | rfl | rfl | rfl <;> exact ⟨by decide, by decide, by decide, by decide, by decide, by decide⟩
theorem nOks : Oks [] := ⟨by decide, fun a h => by cases h⟩
theorem sOkB : okB sAgs (usedAll sAgs.length) = true := by decide +kernel
theorem tOkB : okB tAgs (usedAll tAgs.length) = true := by decide +kernel
theorem nOkB : okB [] (usedAll ([] : List Ag).length) = true := by decide +kernel
theorem sBut : ∀ i, i < sAgs.length → okB sAgs (butN sAgs.length i) = true := by decide +kernel
theorem tBut : ∀ i, i < tAgs.length → okB tAgs (butN tAgs.length i) = true := by decide +kernel
def hope62 : List Nat := (List.range 32).map fun i => 2 * i + 1
theorem ex_hopeS : hopeL sAgs 56 = [] := by rw [hopeL_is sOkB]; decide +kernel
theorem ex_hopeT : hopeL tAgs 56 = [] := by rw [hopeL_is tOkB]; decide +kernel
theorem ex_hopeN : hopeL [] 62 = hope62 := by rw [hopeL_is nOkB]; decide +kernel
theorem ex_reach7 : rchL sAgs 7 = [0, 1, 2, 3, 6, 7] := by rw [rchL_is sOkB (by decide)]; decide +kernel
theorem ex_reach8 : rchL sAgs 8 = [8] := by rw [rchL_is sOkB (by decide)]; decide +kernel
theorem ex_needS : needL sAgs 0 7 sAgs.length = [0] := by rw [needL_is (by decide) sBut]; decide +kernel
theorem ex_needT : needL tAgs 0 7 tAgs.length = [0, 1, 2] := by rw [needL_is (by decide) tBut]; decide +kernel
theorem ex_spoilT : spoilL tAgs 0 7 (canTo tAgs (usedAll tAgs.length) 7 tAgs.length) = [3] := by rw [spoilL_is tOkB (by decide +kernel)]; decide +kernel
theorem ex_spoilS : spoilL sAgs 0 7 (canTo sAgs (usedAll sAgs.length) 7 sAgs.length) = [] := by rw [spoilL_is sOkB (by decide +kernel)]; decide +kernel
theorem ex_clrS : Clr sAgs (usedAll sAgs.length) 0 7 := (clr_iff sOkB (by decide)).2 (by decide +kernel)
theorem ex_clrT : Clr tAgs (usedAll tAgs.length) 0 7 := (clr_iff tOkB (by decide)).2 (by decide +kernel)
theorem ex_nclr8 : ¬ Clr sAgs (usedAll sAgs.length) 0 8 := fun h => absurd ((clr_iff sOkB (by decide)).1 h) (by decide +kernel)
theorem ex_shortT : firstB tAgs 15 1 (-1) (7, 0, 0) (fun t => decide (nn t.1 0 = 0)) [2, 0, 1] = true := by decide +kernel
theorem ex_short88 : firstB sAgs 15 1 (-1) (8, 0, 0) (fun t => decide (nn t.1 8 = 0)) [] = true := by decide +kernel
theorem ex_cheap6 : ∀ j, j ≤ 4 → (roundP sAgs 15 (iterP sAgs 15 0 j) 64).2 = false → cheapW sAgs 15 (iterP sAgs 15 0 j) 6 = [2, 0, 1] ∧ cheapC (iterP sAgs 15 0 j) 6 = 4 ∧ cheapE (iterP sAgs 15 0 j) 6 = 0 := by decide +kernel
theorem ex_both26 : noneB sAgs 15 2 5 (teamOf [2, 6] 2) (fun t => clearT 0 t 2) = true := by decide +kernel
theorem ex_tells55 : noneB sAgs 15 2 4 (5, 5, 0) (tellsG sAgs) = true := by decide +kernel
theorem ex_tells13 : firstB sAgs 15 2 4 (1, 3, 0) (tellsG sAgs) [] = true := by decide +kernel
theorem ex_tellsI13 : tellsI sAgs (1, 3, 0) = 1 := by decide +kernel
def subsB (n k : Nat) : Bool := (List.range k).all fun j => (chsL n j 0).all fun u => okB sAgs (maskL u) && u.all (fun i => decide (i < sAgs.length)) && !((List.range 64).all fun m => clrB sAgs (maskL u) 56 m == clrB sAgs (usedAll sAgs.length) 56 m)
theorem ex_subs : subsB 4 3 = true := by decide +kernel
theorem ex_few : FewS sAgs.length (asAll sAgs 56) [0, 1, 2] := by
  refine ⟨3, 0, by decide +kernel, (asAll_is sOkB (by decide +kernel) (by decide)).2 (by decide +kernel), fun j u hj hu ha => ?_, fun j u hj => absurd hj (Nat.not_lt_zero _)⟩
  have h := List.all_eq_true.1 ex_subs j (List.mem_range.2 hj)
  have h := List.all_eq_true.1 h u hu
  simp only [Bool.and_eq_true] at h
  obtain ⟨⟨h1, h2⟩, h3⟩ := h
  rw [(asAll_is sOkB h1 (fun i hi => by simpa using List.all_eq_true.1 h2 i hi)).1 ha] at h3
  cases h3
section
theorem kMay (m : Nat) (L : List Nat) (hm : m < 64) (hL : canTo sAgs (usedAll sAgs.length) m sAgs.length = L) (A : Option Addr) (c : Nat) (w : World) (hA : RdL Ag.cells 5 w A sAgs) : Calls Tryd.prog 41 #[.slice A 4 c, .int .i64 (m : Int)] w (Says w L 0) :=
  (May_ok A c sAgs sOks m hm w hA).mono fun e w' h => by rw [hL] at h; exact h
theorem kMay64 (A : Option Addr) (c : Nat) (w : World) (hA : RdL Ag.cells 5 w A sAgs) : Calls Tryd.prog 41 #[.slice A 4 c, .int .i64 64] w (Says w [] 1) :=
  (May_bad0 A c sAgs sOks 64 (by decide) w hA).mono fun e w' h => Says.nil h
theorem kPut (way : List Int) (E : Nat) (hl : way.length ≤ 20) (he : alongE sAgs 7 way = .error E) (A wA : Option Addr) (c wc : Nat) (w : World) (hA : RdL Ag.cells 5 w A sAgs) (hW : RdL icell 1 w wA way) (hE : w.cell? ⟨0, 0, none⟩ = some (iT 107)) :
    Calls Tryd.prog 40 #[.slice A 4 c, .int .i64 7, .slice wA way.length wc] w (Says w [] E) :=
  (Put_c A c sAgs sOks wA wc 7 way (by decide) w hA hW hE).mono fun e w' h => by
    obtain ⟨outs, E', A', c', h1, h2, h3⟩ := h
    rcases h1 with ⟨_, h4, _⟩ | ⟨_, h4, _, h5⟩ | ⟨h4, _⟩
    · rw [he] at h4; cases h4
    · rw [he] at h4
      cases h4; subst h5
      exact ⟨A', c', h2, h3⟩
    · omega
theorem kIdle (ags : List Ag) (hok : Oks ags) (h4 : ags.length = 4) (L : List Nat) (hL : idleL ags 8 (canTo ags (usedAll ags.length) 8 ags.length) = L) (A : Option Addr) (c : Nat) (w : World) (hA : RdL Ag.cells 5 w A ags) : Calls Tryd.prog 48 #[.slice A 4 c, .int .i64 8] w (Says w L 0) := by
  have h := Idle_ok A c ags hok 8 (by decide) w hA
  rw [hL, h4] at h
  exact h
theorem kHope (ags : List Ag) (hok : Oks ags) (p : Nat) (hp : p < 64) (L : List Nat) (hL : hopeL ags p = L) (A : Option Addr) (c : Nat) (w : World) (hA : RdL Ag.cells 5 w A ags) : Calls Tryd.prog 51 #[.slice A ags.length c, .int .i64 (p : Int)] w (Says w L 0) :=
  (Hopeless_ok A c ags hok p hp w hA).mono fun e w' h => by rw [hL] at h; exact h
theorem kShort80 (A : Option Addr) (c : Nat) (w : World) (hA : RdL Ag.cells 5 w A sAgs) : Calls Tryd.prog 53 #[.slice A 4 c, .int .i64 8, .int .i64 0] w (Says w [] 11) :=
  (Shortest_ok A c sAgs sOks 8 0 (by decide) (by decide) w hA).mono fun e w' h => by
    obtain ⟨o, h1, h2, h3⟩ := h
    have hq := (found_shq sOks (by decide) h1).uniq (W' := []) (E' := 11) ⟨fun e => absurd e (by decide), fun _ => ⟨rfl, rfl, ex_nclr8⟩⟩
    rw [hq.1] at h2 h3
    have h5 : (if o.isSome then (0 : Int) else 11) = 11 := by
      have := hq.2
      cases o with
      | none => rfl
      | some k => simp at this
    rw [h5] at h2
    exact ⟨_, _, h2, h3⟩
theorem kShort (ags : List Ag) (hok : Oks ags) (h4 : ags.length = 4) (f p : Nat) (hf : f < 64) (hp : p < 64) (L : List Nat) (hL : firstB ags 15 1 (-1) (f, 0, 0) (fun t => decide (nn t.1 p = 0)) L = true) (A : Option Addr) (c : Nat) (w : World) (hA : RdL Ag.cells 5 w A ags) : Calls Tryd.prog 53 #[.slice A 4 c, .int .i64 (f : Int), .int .i64 (p : Int)] w (Says w L 0) := by
  have h := Shortest_ok A c ags hok f p hf hp w hA
  rw [h4] at h
  refine h.mono fun e w' h => ?_
  obtain ⟨o, h1, h2, h3⟩ := h
  obtain ⟨k, rfl, rfl⟩ := found_firstB (show FoundO ags 15 1 (-1) (f, 0, 0) (fun t => decide (nn t.1 p = 0)) o from h1) (by omega) hL
  exact ⟨_, _, h2, h3⟩
theorem kCheap (A : Option Addr) (c : Nat) (w : World) (hA : RdL Ag.cells 5 w A sAgs) : Calls Tryd.prog 35 #[.slice A 4 c, .int .i64 6, .int .i64 0] w (Says3 w [2, 0, 1] 4 0) :=
  (Cheapest_ok A c sAgs sOks 6 0 4 (by decide) (by decide) (by decide) ex_cheapN w hA).mono fun e w' h => by
    obtain ⟨j, ps, A', c', h0, h1, h2, h3, h4⟩ := h
    subst h1
    obtain ⟨e1, e2, e3⟩ := ex_cheap6 j h0 h2
    have e1 : cheapW sAgs (usedAll sAgs.length) (iterP sAgs (usedAll sAgs.length) 0 j) 6 = [2, 0, 1] := e1
    have e2 : cheapC (iterP sAgs (usedAll sAgs.length) 0 j) 6 = 4 := e2
    have e3 : cheapE (iterP sAgs (usedAll sAgs.length) 0 j) 6 = 0 := e3
    rw [e1, e2, e3] at h3
    rw [e1] at h4
    exact ⟨A', c', h3, h4⟩
theorem kNeed (ags : List Ag) (hok : Oks ags) (h4 : ags.length = 4) (L : List Nat) (hc : Clr ags (usedAll ags.length) 0 7) (hL : needL ags 0 7 ags.length = L) (A : Option Addr) (c : Nat) (w : World) (hA : RdL Ag.cells 5 w A ags) : Calls Tryd.prog 55 #[.slice A 4 c, .int .i64 7, .int .i64 0] w (Says w L 0) := by
  have h := Needed_ok A c ags hok 7 0 (by decide) (by decide) w hA
  rw [h4] at h
  refine h.mono fun e w' h => ?_
  obtain ⟨L', E, A', c', h1, h2, h3⟩ := h
  rcases h1 with ⟨rfl, _, rfl⟩ | ⟨_, hn, _⟩
  · rw [← h4, hL] at h2 h3; exact ⟨A', c', h2, h3⟩
  · exact absurd hc (by rw [h4]; exact hn)
theorem kSpoil (ags : List Ag) (hok : Oks ags) (h4 : ags.length = 4) (L : List Nat) (hc : Clr ags (usedAll ags.length) 0 7) (hL : spoilL ags 0 7 (canTo ags (usedAll ags.length) 7 ags.length) = L) (A : Option Addr) (c : Nat) (w : World) (hA : RdL Ag.cells 5 w A ags) : Calls Tryd.prog 57 #[.slice A 4 c, .int .i64 7, .int .i64 0] w (Says w L 0) := by
  have h := Spoils_ok A c ags hok 7 0 (by decide) (by decide) w hA
  rw [h4] at h
  refine h.mono fun e w' h => ?_
  obtain ⟨L', E, A', c', h1, h2, h3⟩ := h
  rcases h1 with ⟨rfl, _, rfl⟩ | ⟨_, hn, _⟩
  · rw [← h4, hL] at h2 h3; exact ⟨A', c', h2, h3⟩
  · exact absurd hc (by rw [h4]; exact hn)
theorem kBoth26 (A mA : Option Addr) (c mc : Nat) (w : World) (hA : RdL Ag.cells 5 w A sAgs) (hM : RdL ncell 1 w mA [2, 6]) : Calls Tryd.prog 28 #[.slice A 4 c, .slice mA 2 mc, .int .i64 0] w (Says w [] 11) :=
  (Both_ok A c sAgs sOks mA mc [2, 6] 0 (by decide) (by decide) (by decide) (by decide) w hA hM).mono fun e w' h => by
    obtain ⟨o, h1, h2, h3⟩ := h
    obtain rfl := found_none (k := 5) (show FoundO sAgs 15 2 5 (teamOf [2, 6] 2) (fun t => clearT 0 t 2) o from h1) (by decide) ex_both26
    exact ⟨_, _, h2, h3⟩
theorem kBothN (A : Option Addr) (c : Nat) (w : World) (hA : RdL Ag.cells 5 w A sAgs) : Calls Tryd.prog 28 #[.slice A 4 c, .slice none 0 0, .int .i64 0] w (Says w [] 7) :=
  (Both_e7 A c sAgs sOks none 0 [] 0 rfl w hA).mono fun e w' h => Says.nil h
theorem kTells55 (A : Option Addr) (c : Nat) (w : World) (hA : RdL Ag.cells 5 w A sAgs) : Calls Tryd.prog 30 #[.slice A 4 c, .int .i64 5, .int .i64 5] w (Says w [] 11) :=
  (Tells_ok A c sAgs sOks 5 5 (by decide) (by decide) w hA).mono fun e w' h => by
    obtain ⟨o, A', c', h1, h2, h3⟩ := h
    obtain rfl := found_none (k := 4) (show FoundO sAgs 15 2 4 (5, 5, 0) (tellsG sAgs) o from h1) (by decide) ex_tells55
    exact ⟨A', c', h2, h3⟩
theorem kTells13 (A : Option Addr) (c : Nat) (w : World) (hA : RdL Ag.cells 5 w A sAgs) : Calls Tryd.prog 30 #[.slice A 4 c, .int .i64 1, .int .i64 3] w (Says w [1] 0) :=
  (Tells_ok A c sAgs sOks 1 3 (by decide) (by decide) w hA).mono fun e w' h => by
    obtain ⟨o, A', c', h1, h2, h3⟩ := h
    obtain ⟨k, rfl, hk⟩ := found_firstB (show FoundO sAgs 15 2 4 (1, 3, 0) (tellsG sAgs) o from h1) (by decide) ex_tells13
    have ht : k.team = (1, 3, 0) := by
      have h4 := h1.2.1
      rw [hk] at h4
      exact (Option.some.inj h4).symm
    have hl : tellsL sAgs (some k) = [1] := by simp only [tellsL, hk, ht, ex_tellsI13, List.nil_append]
    rw [hl] at h2 h3
    exact ⟨A', c', h2, h3⟩
theorem kFew (A : Option Addr) (c : Nat) (w : World) (hA : RdL Ag.cells 5 w A sAgs) : Calls Tryd.prog 67 #[.slice A 4 c, .int .i64 56] w (Says w [0, 1, 2] 0) :=
  (Fewest_v A c sAgs sOks 56 (by decide) w hA).mono fun e w' h => by
    obtain ⟨W, A', c', h1, _, h2, h3⟩ := h
    obtain rfl := h1.unique ex_few
    exact ⟨A', c', h2, h3⟩
theorem kReach (f : Nat) (hf : f < 64) (L : List Nat) (hL : rchL sAgs f = L) (A : Option Addr) (c : Nat) (w : World) (hA : RdL Ag.cells 5 w A sAgs) (hR : Rdy w) : Calls Tryd.prog 59 #[.slice A 4 c, .int .i64 (f : Int)] w (Says w L 0) :=
  (Reach_ok A c sAgs sOks f hf w hA hR).mono fun e w' h => by rw [hL] at h; exact h
end
end Go.Proofs.YtofkhehcnfiopaaDoor.N
namespace Go.Proofs.YtofkhehcnfiopaaDoor.N
open Go Go.RowKit Go.Proofs
set_option linter.unusedSectionVars false
variable [I : Sys]
section
variable {C : Ctx} {fr : List (Nat × Value)} {hp hp' : List Res} {ops : Array Oper} {Q : Exit → Act → World → Prop}
theorem lst_less {l : List Oper} {fr' : List (Nat × Value)} (hs : Sub fr' fr) (hh : hp'.Sublist hp) (h : Lst C ops Q l fr' hp') : Lst C ops Q l fr hp := fun a w ha => h a w ((ha.drop_slots hs).drop_res hh)
theorem lst_as_rowK {l : List Oper} {b e : Nat} (size n m : Nat) {cs : List Value} (hl : cs.length = m * size) (hn : n ≤ m) (hm : m ≤ maxLen) (hu : Upd (.blk b (.cells cs.toArray e (0, 0))) (.row e size (some ⟨b, 0, none⟩) n m (cs.take (n * size))) hp hp') (h : Lst C ops Q l fr hp') : Lst C ops Q l fr hp := by
  refine fun a w ha => h a w ?_
  have hb := ha.own _ hu.mem
  have hle : n * size ≤ m * size := Nat.mul_le_mul_right size hn
  refine ha.turn hu (⟨rfl, rfl, rfl, Nat.le_refl _, fun _ _ _ => rfl⟩ : w.grownBy w _) ⟨by rw [List.length_take, hl]; omega, .inr ⟨b, m, cs.toArray, rfl, hb.1, hb.2, hn, hm, by simp [hl], by simp⟩⟩ (fun k hk => .inl ?_)
  exact hk
end
def highR : List RA := [⟨64, 0, 1, 2, 1⟩, ⟨2, 4, 2, 0, 2⟩, ⟨4, 0, 4, 1, 1⟩, ⟨6, 1, 6, 0, 5⟩]
def bothRA : List RA := [⟨3, 1, 1, 2, 1⟩, ⟨2, 4, 2, 0, 2⟩, ⟨4, 0, 4, 1, 1⟩, ⟨6, 1, 6, 0, 5⟩]
def freeR : List RA := [⟨1, 0, 1, 2, 0⟩, ⟨2, 4, 2, 0, 2⟩, ⟨4, 0, 4, 1, 1⟩, ⟨6, 1, 6, 0, 5⟩]
theorem kCheck (l : List RA) (n E : Nat) (hl : l.length = n) (hE : checkR l = E) (A : Option Addr) (c : Nat) (w : World) (hA : RdL RA.cells 5 w A l) : Calls Tryd.prog 46 #[.slice A n c] w fun e w' => e = .returned (.int .i64 (E : Int)) ∧ Grew w w' [] := by
  have h := check_c A c l w hA
  rw [hE, hl] at h
  exact h
theorem hope_get {k : Nat} (hk : k < 32) : hope62[k]? = some (2 * k + 1) := by simp [hope62, hk]
end Go.Proofs.YtofkhehcnfiopaaDoor.N
namespace Go.Proofs.YtofkhehcnfiopaaDoor.N
open Go Go.RowKit Go.Proofs
set_option linter.unusedSectionVars false
variable [I : Sys] [R : Rea]
theorem F.ent67 : Enters Tryd.prog 67 := enters_of Tryd.func67 rfl (by kernel_rfl)
theorem F.ent72 : Enters Tryd.prog 72 := enters_of Tryd.func72 rfl (by kernel_rfl)
theorem t_c  (w : World) : Calls Tryd.prog 72 #[] w fun e w' => ∃ A c, e = .returned (.slice A 4 c) ∧ Grew w w' [.row 24 5 A 4 c (tAgs.flatMap Ag.cells)] := by
  refine enter (N := 6) [] Tryd.func72 rfl Tryd.ntmps72 rfl rfl ?_
  refine cod_seq ?_
  refine cod_region ?_
  refine lst_assign rfl rfl ?_
  refine lst_nil ?_
  refine ex_then ?_
  refine cod_seq ?_
  refine cod_region ?_
  refine lst_fn (X := Nat) (vs := []) (p := fun _ => True) (val := fun b => .slice (some ⟨b, 0, none⟩) 4 4) (rs := fun b => [.blk b (.cells ((sAgs.flatMap Ag.cells) : List Value).toArray 24 (0, 0))]) rfl rfl F.ent71 (fun a w ha => (s_c w).mono (fun e w' h => by obtain ⟨b, h1, h2⟩ := h; exact ⟨b, trivial, h1, h2⟩)) ?_
  intro b1 _
  dsimp only [List.cons_append, List.nil_append]
  refine lst_slice_h (h := 3) rfl rfl rfl Tryd.underlying22 F.ti24 rfl (by decide) ?_
  refine lst_as_rowK 5 3 4 rfl (by decide) (by unfold maxLen; omega) (.head _) ?_
  refine lst_struct (vs := [(2, _), (3, _), (4, _)]) (l' := [_, _, _, _, _]) rfl rfl F.ti24 F.pl24 (.cons rfl rfl (.cons rfl rfl (.cons rfl rfl (.nil _)))) rfl ?_
  refine lst_litN (vs := [(0, _)]) [_, _, _, _, _] rfl rfl Tryd.underlying22 F.ti24 rfl rfl rfl ⟨rfl, [_, _, _, _, _], [], rfl, rfl, rfl, rfl⟩ ?_
  intro b4
  refine lst_append rfl rfl rfl Tryd.underlying22 F.ti24 rfl rfl rfl (by unfold maxLen; omega) (by omega) ?_
  intro A1 c1
  refine lst_assign rfl rfl ?_
  refine lst_nil ?_
  refine ex_then ?_
  refine cod_ret ?_
  exact ex_ret rfl (fun a w ha => res_one rfl rfl ha) (fun a w ha => ⟨A1, c1, rfl, ha.grown sbl⟩)

theorem FiningKnown_c  (w : World) (hR : Rdy w) (hE : w.cell? ⟨0, 0, none⟩ = some (iT 107)) : Calls Tryd.prog 20 #[] w fun e w' => e = .returned (.bool true) ∧ Grew w w' [] := by
  have hlt : 0 < w.heap.size := heap_pos hE
  refine enter (N := 415) [] Tryd.func20 rfl Tryd.ntmps20 rfl rfl ?_
  refine cod_seq ?_
  refine cod_region ?_
  refine lst_assign rfl rfl ?_
  refine lst_nil ?_
  refine ex_then ?_
  refine cod_seq ?_
  refine cod_region ?_
  refine lst_fn (X := Nat) (vs := []) (p := fun _ => True) (val := fun b => .slice (some ⟨b, 0, none⟩) 4 4) (rs := fun b => [.blk b (.cells ([.int .i64 1, .int .i64 0, .int .i64 1, .int .i64 2, .int .i64 1, .int .i64 2, .int .i64 4, .int .i64 2, .int .i64 0, .int .i64 2, .int .i64 4, .int .i64 0, .int .i64 4, .int .i64 1, .int .i64 1, .int .i64 6, .int .i64 1, .int .i64 6, .int .i64 0, .int .i64 5] : List Value).toArray 24 (0, 0))]) rfl rfl F.ent71 (fun a w ha => (s_c w).mono (fun e w' h => by obtain ⟨b, h1, h2⟩ := h; exact ⟨b, trivial, h1, h2⟩)) ?_
  intro sH _
  dsimp only [List.cons_append, List.nil_append]
  refine lst_fn (X := Nat) (vs := []) (p := fun _ => True) (val := fun b => .slice (some ⟨b, 0, none⟩) 4 4) (rs := fun b => [.blk b (.cells ([.int .i64 1, .int .i64 0, .int .i64 1, .int .i64 2, .int .i64 1, .int .i64 2, .int .i64 4, .int .i64 2, .int .i64 0, .int .i64 2, .int .i64 4, .int .i64 0, .int .i64 4, .int .i64 1, .int .i64 1, .int .i64 6, .int .i64 1, .int .i64 6, .int .i64 0, .int .i64 5] : List Value).toArray 24 (0, 0))]) rfl rfl F.ent71 (fun a w ha => (s_c w).mono (fun e w' h => by obtain ⟨b, h1, h2⟩ := h; exact ⟨b, trivial, h1, h2⟩)) ?_
  intro sB _
  dsimp only [List.cons_append, List.nil_append]
  refine lst_fn (X := Nat) (vs := []) (p := fun _ => True) (val := fun b => .slice (some ⟨b, 0, none⟩) 4 4) (rs := fun b => [.blk b (.cells ([.int .i64 1, .int .i64 0, .int .i64 1, .int .i64 2, .int .i64 1, .int .i64 2, .int .i64 4, .int .i64 2, .int .i64 0, .int .i64 2, .int .i64 4, .int .i64 0, .int .i64 4, .int .i64 1, .int .i64 1, .int .i64 6, .int .i64 1, .int .i64 6, .int .i64 0, .int .i64 5] : List Value).toArray 24 (0, 0))]) rfl rfl F.ent71 (fun a w ha => (s_c w).mono (fun e w' h => by obtain ⟨b, h1, h2⟩ := h; exact ⟨b, trivial, h1, h2⟩)) ?_
  intro sF _
  dsimp only [List.cons_append, List.nil_append]
  refine lst_assign rfl rfl ?_
  refine lst_assign rfl rfl ?_
  refine lst_assign rfl rfl ?_
  refine lst_nil ?_
  refine ex_then ?_
  refine cod_seq ?_
  refine cod_region ?_
  refine lst_move rfl rfl ?_
  refine lst_move rfl rfl ?_
  refine lst_move rfl rfl ?_
  refine lst_move rfl rfl ?_
  refine lst_index (j := 0) rfl rfl rfl Tryd.underlying22 F.ti24 rfl (by decide) ?_
  refine lst_field rfl rfl F.fi24_0 F.ti3 ?_
  refine lst_store (o := 0) rfl rfl F.ti3 rfl ?_
  refine lst_index (j := 0) rfl rfl rfl Tryd.underlying22 F.ti24 rfl (by decide) ?_
  refine lst_field rfl rfl F.fi24_0 F.ti3 ?_
  refine lst_store (o := 0) rfl rfl F.ti3 rfl ?_
  refine lst_index (j := 0) rfl rfl rfl Tryd.underlying22 F.ti24 rfl (by decide) ?_
  refine lst_field rfl rfl F.fi24_1 F.ti3 ?_
  refine lst_store (o := 1) rfl rfl F.ti3 rfl ?_
  refine lst_index (j := 0) rfl rfl rfl Tryd.underlying22 F.ti24 rfl (by decide) ?_
  refine lst_field rfl rfl F.fi24_4 F.ti3 ?_
  refine lst_store (o := 4) rfl rfl F.ti3 rfl ?_
  refine lst_nil ?_
  refine ex_then ?_
  refine cod_seq ?_
  refine cod_seq ?_
  refine cod_region ?_
  refine lst_fn0 (v := .bool true) (vs := []) rfl rfl F.ent21 (fun a w ha => fined_c w) ?_
  refine lst_not rfl rfl ?_
  refine lst_move rfl rfl ?_
  refine lst_on rfl rfl ?_
  refine lst_fn (X := Nat) (vs := []) (p := fun _ => True) (val := fun b => .slice (some ⟨b, 0, none⟩) 4 4) (rs := fun b => [.blk b (.cells ((sAgs.flatMap Ag.cells) : List Value).toArray 24 (0, 0))]) rfl rfl F.ent71 (fun a w ha => (s_c w).mono (fun e w' h => by obtain ⟨b, h1, h2⟩ := h; exact ⟨b, trivial, h1, h2⟩)) ?_
  intro s3_3 _
  dsimp only [List.cons_append, List.nil_append]
  refine lst_on rfl rfl ?_
  refine lst_fn0 (v := .int .i64 0) (vs := [_]) rfl rfl F.ent46 (fun a w ha => kCheck (sAgs.map Ag.raw) 4 0 rfl (by decide) (some ⟨s3_3, 0, none⟩) 4 w (blk_reads ha (cells := Ag.cells) (size := 5) (b := s3_3) (l := sAgs) (fun _ => rfl) rfl).raw) ?_
  refine lst_on rfl rfl ?_
  refine lst_int rfl rfl rfl bin_neq ?_
  refine lst_pick_false rfl rfl rfl ?_
  refine lst_move rfl rfl ?_
  refine lst_on rfl rfl ?_
  refine lst_fn (X := Nat) (vs := []) (p := fun _ => True) (val := fun b => .slice (some ⟨b, 0, none⟩) 4 4) (rs := fun b => [.blk b (.cells ((sAgs.flatMap Ag.cells) : List Value).toArray 24 (0, 0))]) rfl rfl F.ent71 (fun a w ha => (s_c w).mono (fun e w' h => by obtain ⟨b, h1, h2⟩ := h; exact ⟨b, trivial, h1, h2⟩)) ?_
  intro s3_8 _
  dsimp only [List.cons_append, List.nil_append]
  refine lst_on rfl rfl ?_
  refine lst_fn (X := Nat) (vs := []) (p := fun _ => True) (val := fun b => .slice (some ⟨b, 0, none⟩) 4 4) (rs := fun b => [.blk b (.cells ([.int .i64 1, .int .i64 0, .int .i64 1, .int .i64 2, .int .i64 1, .int .i64 2, .int .i64 4, .int .i64 2, .int .i64 0, .int .i64 2, .int .i64 4, .int .i64 0, .int .i64 4, .int .i64 1, .int .i64 1, .int .i64 6, .int .i64 1, .int .i64 6, .int .i64 0, .int .i64 5] : List Value).toArray 24 (0, 0))]) rfl rfl F.ent71 (fun a w ha => (s_c w).mono (fun e w' h => by obtain ⟨b, h1, h2⟩ := h; exact ⟨b, trivial, h1, h2⟩)) ?_
  intro s3_9 _
  dsimp only [List.cons_append, List.nil_append]
  refine lst_on rfl rfl ?_
  refine lst_index (j := 0) rfl rfl rfl Tryd.underlying22 F.ti24 rfl (by decide) ?_
  refine lst_on rfl rfl ?_
  refine lst_loadN (o := 0) rfl rfl F.agg24 F.ti24 ?_
  refine lst_on rfl rfl ?_
  refine lst_litN (vs := [(0, _)]) [_, _, _, _, _] rfl rfl Tryd.underlying22 F.ti24 rfl rfl rfl ⟨rfl, [_, _, _, _, _], [], rfl, rfl, rfl, rfl⟩ ?_
  intro b48
  refine lst_as_rowN 5 4 rfl (by unfold maxLen; omega) (.tail _ (.tail _ (.head _))) ?_
  refine lst_on rfl rfl ?_
  refine lst_append rfl rfl rfl Tryd.underlying22 F.ti24 rfl rfl rfl (by unfold maxLen; omega) (by omega) ?_
  intro A13 c13
  refine lst_on rfl rfl ?_
  refine lst_fn0 (v := .int .i64 6) (vs := [_]) rfl rfl F.ent46 (fun a w ha => kCheck ((sAgs ++ [(⟨1, 0, 1, 2, 1⟩ : Ag)]).map Ag.raw) 5 6 rfl (by decide) A13 c13 w (row_reads ha (cells := Ag.cells) (size := 5) (e := 24) (c := c13) (n := 5) (l := (sAgs ++ [(⟨1, 0, 1, 2, 1⟩ : Ag)])) (fun _ => rfl) (InR.mem (A := A13)) rfl).raw) ?_
  refine lst_on rfl rfl ?_
  refine lst_int rfl rfl rfl bin_neq ?_
  refine lst_pick_false rfl rfl rfl ?_
  refine lst_move rfl rfl ?_
  refine lst_on rfl rfl ?_
  refine lst_move rfl rfl ?_
  refine lst_on rfl rfl ?_
  refine lst_fn0 (v := .int .i64 1) (vs := [_]) rfl rfl F.ent46 (fun a w ha => kCheck (highR) 4 1 rfl (by decide) (some ⟨sH, 0, none⟩) 4 w (blk_reads ha (cells := RA.cells) (size := 5) (b := sH) (l := highR) (fun _ => rfl) rfl)) ?_
  refine lst_on rfl rfl ?_
  refine lst_int rfl rfl rfl bin_neq ?_
  refine lst_pick_false rfl rfl rfl ?_
  refine lst_move rfl rfl ?_
  refine lst_on rfl rfl ?_
  refine lst_move rfl rfl ?_
  refine lst_on rfl rfl ?_
  refine lst_fn0 (v := .int .i64 9) (vs := [_]) rfl rfl F.ent46 (fun a w ha => kCheck (bothRA) 4 9 rfl (by decide) (some ⟨sB, 0, none⟩) 4 w (blk_reads ha (cells := RA.cells) (size := 5) (b := sB) (l := bothRA) (fun _ => rfl) rfl)) ?_
  refine lst_on rfl rfl ?_
  refine lst_int rfl rfl rfl bin_neq ?_
  refine lst_pick_false rfl rfl rfl ?_
  refine lst_move rfl rfl ?_
  refine lst_on rfl rfl ?_
  refine lst_move rfl rfl ?_
  refine lst_on rfl rfl ?_
  refine lst_fn0 (v := .int .i64 1) (vs := [_]) rfl rfl F.ent46 (fun a w ha => kCheck (freeR) 4 1 rfl (by decide) (some ⟨sF, 0, none⟩) 4 w (blk_reads ha (cells := RA.cells) (size := 5) (b := sF) (l := freeR) (fun _ => rfl) rfl)) ?_
  refine lst_on rfl rfl ?_
  refine lst_int rfl rfl rfl bin_neq ?_
  refine lst_pick_false rfl rfl rfl ?_
  refine lst_nil ?_
  refine ex_then ?_
  refine cod_cond_false rfl ?_
  refine cod_skip ?_
  refine ex_then ?_
  refine cod_seq ?_
  refine cod_region ?_
  refine lst_less (fr' := []) (hp' := []) sbn sbl ?_
  refine lst_fn (X := Nat) (vs := []) (p := fun _ => True) (val := fun b => .slice (some ⟨b, 0, none⟩) 4 4) (rs := fun b => [.blk b (.cells ((sAgs.flatMap Ag.cells) : List Value).toArray 24 (0, 0))]) rfl rfl F.ent71 (fun a w ha => (s_c w).mono (fun e w' h => by obtain ⟨b, h1, h2⟩ := h; exact ⟨b, trivial, h1, h2⟩)) ?_
  intro s5_0 _
  dsimp only [List.cons_append, List.nil_append]
  refine lst_fn (X := Option Addr × Nat) (vs := [_, _]) (p := fun _ => True) (val := fun y => .tuple #[.slice y.1 2 y.2, .int .i64 0]) (rs := fun y => [.row 3 1 y.1 2 y.2 (ints [0, 2])]) rfl rfl F.ent41 (fun a w ha => (kMay 7 [0, 2] (by decide) (by decide +kernel) (some ⟨s5_0, 0, none⟩) 4 w (blk_reads ha (cells := Ag.cells) (size := 5) (b := s5_0) (l := sAgs) (fun _ => rfl) rfl)).mono (fun e w' h => by obtain ⟨A', c', h1, h2⟩ := h; exact ⟨(A', c'), trivial, h1, h2⟩)) ?_
  rintro ⟨A5, c5⟩ -
  dsimp only [List.cons_append, List.nil_append]
  refine lst_move rfl rfl ?_
  refine lst_extract rfl rfl rfl ?_
  refine lst_extract rfl rfl rfl ?_
  refine lst_assign rfl rfl ?_
  refine lst_assign rfl rfl ?_
  refine lst_nil ?_
  refine ex_then ?_
  refine cod_seq ?_
  refine cod_region ?_
  refine lst_less (fr' := [(4, .slice A5 2 c5), (5, .int .i64 0)]) (hp' := [.row 3 1 A5 2 c5 (ints [0, 2])]) sbn sbl ?_
  refine lst_fn (X := Nat) (vs := []) (p := fun _ => True) (val := fun b => .slice (some ⟨b, 0, none⟩) 4 4) (rs := fun b => [.blk b (.cells ((sAgs.flatMap Ag.cells) : List Value).toArray 24 (0, 0))]) rfl rfl F.ent71 (fun a w ha => (s_c w).mono (fun e w' h => by obtain ⟨b, h1, h2⟩ := h; exact ⟨b, trivial, h1, h2⟩)) ?_
  intro s6_0 _
  dsimp only [List.cons_append, List.nil_append]
  refine lst_fn (X := Option Addr × Nat) (vs := [_, _]) (p := fun _ => True) (val := fun y => .tuple #[.slice y.1 2 y.2, .int .i64 0]) (rs := fun y => [.row 3 1 y.1 2 y.2 (ints [2, 3])]) rfl rfl F.ent41 (fun a w ha => (kMay 6 [2, 3] (by decide) (by decide +kernel) (some ⟨s6_0, 0, none⟩) 4 w (blk_reads ha (cells := Ag.cells) (size := 5) (b := s6_0) (l := sAgs) (fun _ => rfl) rfl)).mono (fun e w' h => by obtain ⟨A', c', h1, h2⟩ := h; exact ⟨(A', c'), trivial, h1, h2⟩)) ?_
  rintro ⟨A6, c6⟩ -
  dsimp only [List.cons_append, List.nil_append]
  refine lst_move rfl rfl ?_
  refine lst_extract rfl rfl rfl ?_
  refine lst_extract rfl rfl rfl ?_
  refine lst_assign rfl rfl ?_
  refine lst_assign rfl rfl ?_
  refine lst_nil ?_
  refine ex_then ?_
  refine cod_seq ?_
  refine cod_region ?_
  refine lst_less (fr' := [(4, .slice A5 2 c5), (5, .int .i64 0), (6, .slice A6 2 c6), (7, .int .i64 0)]) (hp' := [.row 3 1 A6 2 c6 (ints [2, 3]), .row 3 1 A5 2 c5 (ints [0, 2])]) sbn sbl ?_
  refine lst_fn (X := Nat) (vs := []) (p := fun _ => True) (val := fun b => .slice (some ⟨b, 0, none⟩) 4 4) (rs := fun b => [.blk b (.cells ((sAgs.flatMap Ag.cells) : List Value).toArray 24 (0, 0))]) rfl rfl F.ent71 (fun a w ha => (s_c w).mono (fun e w' h => by obtain ⟨b, h1, h2⟩ := h; exact ⟨b, trivial, h1, h2⟩)) ?_
  intro s7_0 _
  dsimp only [List.cons_append, List.nil_append]
  refine lst_fn (X := Option Addr × Nat) (vs := [_, _]) (p := fun _ => True) (val := fun y => .tuple #[.slice y.1 0 y.2, .int .i64 0]) (rs := fun y => [.row 3 1 y.1 0 y.2 (ints [])]) rfl rfl F.ent41 (fun a w ha => (kMay 0 [] (by decide) (by decide +kernel) (some ⟨s7_0, 0, none⟩) 4 w (blk_reads ha (cells := Ag.cells) (size := 5) (b := s7_0) (l := sAgs) (fun _ => rfl) rfl)).mono (fun e w' h => by obtain ⟨A', c', h1, h2⟩ := h; exact ⟨(A', c'), trivial, h1, h2⟩)) ?_
  rintro ⟨A7, c7⟩ -
  dsimp only [List.cons_append, List.nil_append]
  refine lst_move rfl rfl ?_
  refine lst_extract rfl rfl rfl ?_
  refine lst_extract rfl rfl rfl ?_
  refine lst_assign rfl rfl ?_
  refine lst_assign rfl rfl ?_
  refine lst_nil ?_
  refine ex_then ?_
  refine cod_seq ?_
  refine cod_region ?_
  refine lst_less (fr' := [(4, .slice A5 2 c5), (5, .int .i64 0), (6, .slice A6 2 c6), (7, .int .i64 0), (8, .slice A7 0 c7), (9, .int .i64 0)]) (hp' := [.row 3 1 A7 0 c7 (ints []), .row 3 1 A6 2 c6 (ints [2, 3]), .row 3 1 A5 2 c5 (ints [0, 2])]) sbn sbl ?_
  refine lst_fn (X := Nat) (vs := []) (p := fun _ => True) (val := fun b => .slice (some ⟨b, 0, none⟩) 4 4) (rs := fun b => [.blk b (.cells ((sAgs.flatMap Ag.cells) : List Value).toArray 24 (0, 0))]) rfl rfl F.ent71 (fun a w ha => (s_c w).mono (fun e w' h => by obtain ⟨b, h1, h2⟩ := h; exact ⟨b, trivial, h1, h2⟩)) ?_
  intro s8_0 _
  dsimp only [List.cons_append, List.nil_append]
  refine lst_fn (X := Option Addr × Nat) (vs := [_, _]) (p := fun _ => True) (val := fun y => .tuple #[.slice y.1 0 y.2, .int .i64 1]) (rs := fun y => [.row 3 1 y.1 0 y.2 (ints [])]) rfl rfl F.ent41 (fun a w ha => (kMay64 (some ⟨s8_0, 0, none⟩) 4 w (blk_reads ha (cells := Ag.cells) (size := 5) (b := s8_0) (l := sAgs) (fun _ => rfl) rfl)).mono (fun e w' h => by obtain ⟨A', c', h1, h2⟩ := h; exact ⟨(A', c'), trivial, h1, h2⟩)) ?_
  rintro ⟨A8, c8⟩ -
  dsimp only [List.cons_append, List.nil_append]
  refine lst_move rfl rfl ?_
  refine lst_extract rfl rfl rfl ?_
  refine lst_extract rfl rfl rfl ?_
  refine lst_assign rfl rfl ?_
  refine lst_assign rfl rfl ?_
  refine lst_nil ?_
  refine ex_then ?_
  refine cod_seq ?_
  refine cod_region ?_
  refine lst_less (fr' := [(4, .slice A5 2 c5), (5, .int .i64 0), (6, .slice A6 2 c6), (7, .int .i64 0), (8, .slice A7 0 c7), (9, .int .i64 0), (10, .slice A8 0 c8), (11, .int .i64 1)]) (hp' := [.row 3 1 A8 0 c8 (ints []), .row 3 1 A7 0 c7 (ints []), .row 3 1 A6 2 c6 (ints [2, 3]), .row 3 1 A5 2 c5 (ints [0, 2])]) sbn sbl ?_
  refine lst_fn (X := Nat) (vs := []) (p := fun _ => True) (val := fun b => .slice (some ⟨b, 0, none⟩) 4 4) (rs := fun b => [.blk b (.cells ((sAgs.flatMap Ag.cells) : List Value).toArray 24 (0, 0))]) rfl rfl F.ent71 (fun a w ha => (s_c w).mono (fun e w' h => by obtain ⟨b, h1, h2⟩ := h; exact ⟨b, trivial, h1, h2⟩)) ?_
  intro s9_0 _
  dsimp only [List.cons_append, List.nil_append]
  refine lst_lit (vs := [(0, _)]) rfl rfl Tryd.underlying25 F.ti3 rfl rfl rfl ?_
  intro b90
  refine lst_fn (X := Option Addr × Nat) (vs := [_, _, _]) (p := fun _ => True) (val := fun y => .tuple #[.slice y.1 0 y.2, .int .i64 12]) (rs := fun y => [.row 3 1 y.1 0 y.2 (ints [])]) rfl rfl F.ent40 (fun a w ha => (kPut [1] 12 (by decide) rfl (some ⟨s9_0, 0, none⟩) (some ⟨b90, 0, none⟩) 4 1 w (blk_reads ha (cells := Ag.cells) (size := 5) (b := s9_0) (l := sAgs) (fun _ => rfl) rfl) (blk_reads ha (cells := icell) (size := 1) (b := b90) (l := [1]) (fun _ => rfl) rfl) (ha.old hE hlt)).mono (fun e w' h => by obtain ⟨A', c', h1, h2⟩ := h; exact ⟨(A', c'), trivial, h1, h2⟩)) ?_
  rintro ⟨A9, c9⟩ -
  dsimp only [List.cons_append, List.nil_append]
  refine lst_move rfl rfl ?_
  refine lst_extract rfl rfl rfl ?_
  refine lst_extract rfl rfl rfl ?_
  refine lst_assign rfl rfl ?_
  refine lst_assign rfl rfl ?_
  refine lst_nil ?_
  refine ex_then ?_
  refine cod_seq ?_
  refine cod_region ?_
  refine lst_less (fr' := [(4, .slice A5 2 c5), (5, .int .i64 0), (6, .slice A6 2 c6), (7, .int .i64 0), (8, .slice A7 0 c7), (9, .int .i64 0), (10, .slice A8 0 c8), (11, .int .i64 1), (12, .slice A9 0 c9), (13, .int .i64 12)]) (hp' := [.row 3 1 A9 0 c9 (ints []), .row 3 1 A8 0 c8 (ints []), .row 3 1 A7 0 c7 (ints []), .row 3 1 A6 2 c6 (ints [2, 3]), .row 3 1 A5 2 c5 (ints [0, 2])]) sbn sbl ?_
  refine lst_fn (X := Nat) (vs := []) (p := fun _ => True) (val := fun b => .slice (some ⟨b, 0, none⟩) 4 4) (rs := fun b => [.blk b (.cells ((sAgs.flatMap Ag.cells) : List Value).toArray 24 (0, 0))]) rfl rfl F.ent71 (fun a w ha => (s_c w).mono (fun e w' h => by obtain ⟨b, h1, h2⟩ := h; exact ⟨b, trivial, h1, h2⟩)) ?_
  intro s10_0 _
  dsimp only [List.cons_append, List.nil_append]
  refine lst_lit (vs := [(0, _)]) rfl rfl Tryd.underlying25 F.ti3 rfl rfl rfl ?_
  intro b96
  refine lst_fn (X := Option Addr × Nat) (vs := [_, _, _]) (p := fun _ => True) (val := fun y => .tuple #[.slice y.1 0 y.2, .int .i64 3]) (rs := fun y => [.row 3 1 y.1 0 y.2 (ints [])]) rfl rfl F.ent40 (fun a w ha => (kPut [4] 3 (by decide) rfl (some ⟨s10_0, 0, none⟩) (some ⟨b96, 0, none⟩) 4 1 w (blk_reads ha (cells := Ag.cells) (size := 5) (b := s10_0) (l := sAgs) (fun _ => rfl) rfl) (blk_reads ha (cells := icell) (size := 1) (b := b96) (l := [4]) (fun _ => rfl) rfl) (ha.old hE hlt)).mono (fun e w' h => by obtain ⟨A', c', h1, h2⟩ := h; exact ⟨(A', c'), trivial, h1, h2⟩)) ?_
  rintro ⟨A10, c10⟩ -
  dsimp only [List.cons_append, List.nil_append]
  refine lst_move rfl rfl ?_
  refine lst_extract rfl rfl rfl ?_
  refine lst_extract rfl rfl rfl ?_
  refine lst_assign rfl rfl ?_
  refine lst_assign rfl rfl ?_
  refine lst_nil ?_
  refine ex_then ?_
  refine cod_seq ?_
  refine cod_seq ?_
  refine cod_region ?_
  refine lst_less (fr' := [(4, .slice A5 2 c5), (5, .int .i64 0), (6, .slice A6 2 c6), (7, .int .i64 0), (8, .slice A7 0 c7), (9, .int .i64 0), (10, .slice A8 0 c8), (11, .int .i64 1), (12, .slice A9 0 c9), (13, .int .i64 12), (14, .slice A10 0 c10), (15, .int .i64 3)]) (hp' := [.row 3 1 A10 0 c10 (ints []), .row 3 1 A9 0 c9 (ints []), .row 3 1 A8 0 c8 (ints []), .row 3 1 A7 0 c7 (ints []), .row 3 1 A6 2 c6 (ints [2, 3]), .row 3 1 A5 2 c5 (ints [0, 2])]) sbn sbl ?_
  refine lst_move rfl rfl ?_
  refine lst_int rfl rfl rfl bin_neq ?_
  refine lst_move rfl rfl ?_
  refine lst_on rfl rfl ?_
  refine lst_move rfl rfl ?_
  refine lst_on rfl rfl ?_
  refine lst_int rfl rfl rfl bin_neq ?_
  refine lst_pick_false rfl rfl rfl ?_
  refine lst_move rfl rfl ?_
  refine lst_on rfl rfl ?_
  refine lst_move rfl rfl ?_
  refine lst_on rfl rfl ?_
  refine lst_int rfl rfl rfl bin_neq ?_
  refine lst_pick_false rfl rfl rfl ?_
  refine lst_move rfl rfl ?_
  refine lst_on rfl rfl ?_
  refine lst_move rfl rfl ?_
  refine lst_on rfl rfl ?_
  refine lst_int rfl rfl rfl bin_neq ?_
  refine lst_pick_false rfl rfl rfl ?_
  refine lst_move rfl rfl ?_
  refine lst_on rfl rfl ?_
  refine lst_move rfl rfl ?_
  refine lst_on rfl rfl ?_
  refine lst_int rfl rfl rfl bin_neq ?_
  refine lst_pick_false rfl rfl rfl ?_
  refine lst_move rfl rfl ?_
  refine lst_on rfl rfl ?_
  refine lst_move rfl rfl ?_
  refine lst_on rfl rfl ?_
  refine lst_int rfl rfl rfl bin_neq ?_
  refine lst_pick_false rfl rfl rfl ?_
  refine lst_move rfl rfl ?_
  refine lst_on rfl rfl ?_
  refine lst_move rfl rfl ?_
  refine lst_on rfl rfl ?_
  refine lst_len rfl rfl Tryd.underlying25 ?_
  refine lst_on rfl rfl ?_
  refine lst_int rfl rfl rfl bin_gtr ?_
  refine lst_pick_false rfl rfl rfl ?_
  refine lst_move rfl rfl ?_
  refine lst_on rfl rfl ?_
  refine lst_move rfl rfl ?_
  refine lst_on rfl rfl ?_
  refine lst_lit (vs := [(0, _), (1, _)]) rfl rfl Tryd.underlying25 F.ti3 rfl rfl rfl ?_
  intro b129
  refine lst_on rfl rfl ?_
  refine lst_fn0 (v := .bool true) (vs := [_, _]) rfl rfl F.ent32 (fun a w ha => (eqInts_c A5 (some ⟨b129, 0, none⟩) c5 2 [0, 2] [0, 2] (by decide) w (row_reads ha (cells := icell) (size := 1) (e := 3) (c := c5) (n := 2) (l := [0, 2]) (fun _ => rfl) (InR.mem (A := A5)) rfl) (blk_reads ha (cells := icell) (size := 1) (b := b129) (l := [0, 2]) (fun _ => rfl) rfl)).mono (fun e w' h => h)) ?_
  refine lst_on rfl rfl ?_
  refine lst_not rfl rfl ?_
  refine lst_pick_false rfl rfl rfl ?_
  refine lst_move rfl rfl ?_
  refine lst_on rfl rfl ?_
  refine lst_move rfl rfl ?_
  refine lst_on rfl rfl ?_
  refine lst_lit (vs := [(0, _), (1, _)]) rfl rfl Tryd.underlying25 F.ti3 rfl rfl rfl ?_
  intro b135
  refine lst_on rfl rfl ?_
  refine lst_fn0 (v := .bool true) (vs := [_, _]) rfl rfl F.ent32 (fun a w ha => (eqInts_c A6 (some ⟨b135, 0, none⟩) c6 2 [2, 3] [2, 3] (by decide) w (row_reads ha (cells := icell) (size := 1) (e := 3) (c := c6) (n := 2) (l := [2, 3]) (fun _ => rfl) (InR.mem (A := A6)) rfl) (blk_reads ha (cells := icell) (size := 1) (b := b135) (l := [2, 3]) (fun _ => rfl) rfl)).mono (fun e w' h => h)) ?_
  refine lst_on rfl rfl ?_
  refine lst_not rfl rfl ?_
  refine lst_pick_false rfl rfl rfl ?_
  refine lst_nil ?_
  refine ex_then ?_
  refine cod_cond_false rfl ?_
  refine cod_skip ?_
  refine ex_then ?_
  refine cod_seq ?_
  refine cod_region ?_
  refine lst_less (fr' := []) (hp' := []) sbn sbl ?_
  refine lst_fn (X := Nat) (vs := []) (p := fun _ => True) (val := fun b => .slice (some ⟨b, 0, none⟩) 4 4) (rs := fun b => [.blk b (.cells ((sAgs.flatMap Ag.cells) : List Value).toArray 24 (0, 0))]) rfl rfl F.ent71 (fun a w ha => (s_c w).mono (fun e w' h => by obtain ⟨b, h1, h2⟩ := h; exact ⟨b, trivial, h1, h2⟩)) ?_
  intro s13_0 _
  dsimp only [List.cons_append, List.nil_append]
  refine lst_fn (X := Option Addr × Nat) (vs := [_, _]) (p := fun _ => True) (val := fun y => .tuple #[.slice y.1 6 y.2, .int .i64 0]) (rs := fun y => [.row 3 1 y.1 6 y.2 (ints [0, 1, 2, 3, 6, 7])]) rfl rfl F.ent59 (fun a w ha => (kReach 7 (by decide) [0, 1, 2, 3, 6, 7] ex_reach7 (some ⟨s13_0, 0, none⟩) 4 w (blk_reads ha (cells := Ag.cells) (size := 5) (b := s13_0) (l := sAgs) (fun _ => rfl) rfl) (hR.later ha.below)).mono (fun e w' h => by obtain ⟨A', c', h1, h2⟩ := h; exact ⟨(A', c'), trivial, h1, h2⟩)) ?_
  rintro ⟨A13, c13⟩ -
  dsimp only [List.cons_append, List.nil_append]
  refine lst_move rfl rfl ?_
  refine lst_extract rfl rfl rfl ?_
  refine lst_extract rfl rfl rfl ?_
  refine lst_assign rfl rfl ?_
  refine lst_assign rfl rfl ?_
  refine lst_nil ?_
  refine ex_then ?_
  refine cod_seq ?_
  refine cod_region ?_
  refine lst_less (fr' := [(4, .slice A13 6 c13), (5, .int .i64 0)]) (hp' := [.row 3 1 A13 6 c13 (ints [0, 1, 2, 3, 6, 7])]) sbn sbl ?_
  refine lst_fn (X := Nat) (vs := []) (p := fun _ => True) (val := fun b => .slice (some ⟨b, 0, none⟩) 4 4) (rs := fun b => [.blk b (.cells ((sAgs.flatMap Ag.cells) : List Value).toArray 24 (0, 0))]) rfl rfl F.ent71 (fun a w ha => (s_c w).mono (fun e w' h => by obtain ⟨b, h1, h2⟩ := h; exact ⟨b, trivial, h1, h2⟩)) ?_
  intro s14_0 _
  dsimp only [List.cons_append, List.nil_append]
  refine lst_fn (X := Option Addr × Nat) (vs := [_, _]) (p := fun _ => True) (val := fun y => .tuple #[.slice y.1 1 y.2, .int .i64 0]) (rs := fun y => [.row 3 1 y.1 1 y.2 (ints [8])]) rfl rfl F.ent59 (fun a w ha => (kReach 8 (by decide) [8] ex_reach8 (some ⟨s14_0, 0, none⟩) 4 w (blk_reads ha (cells := Ag.cells) (size := 5) (b := s14_0) (l := sAgs) (fun _ => rfl) rfl) (hR.later ha.below)).mono (fun e w' h => by obtain ⟨A', c', h1, h2⟩ := h; exact ⟨(A', c'), trivial, h1, h2⟩)) ?_
  rintro ⟨A14, c14⟩ -
  dsimp only [List.cons_append, List.nil_append]
  refine lst_move rfl rfl ?_
  refine lst_extract rfl rfl rfl ?_
  refine lst_extract rfl rfl rfl ?_
  refine lst_assign rfl rfl ?_
  refine lst_assign rfl rfl ?_
  refine lst_nil ?_
  refine ex_then ?_
  refine cod_seq ?_
  refine cod_region ?_
  refine lst_less (fr' := [(4, .slice A13 6 c13), (5, .int .i64 0), (6, .slice A14 1 c14), (7, .int .i64 0)]) (hp' := [.row 3 1 A14 1 c14 (ints [8]), .row 3 1 A13 6 c13 (ints [0, 1, 2, 3, 6, 7])]) sbn sbl ?_
  refine lst_fn (X := Option Addr × Nat) (vs := []) (p := fun _ => True) (val := fun x => .slice x.1 4 x.2) (rs := fun x => [.row 24 5 x.1 4 x.2 (tAgs.flatMap Ag.cells)]) rfl rfl F.ent72 (fun a w ha => (t_c w).mono (fun e w' h => by obtain ⟨A, c, h1, h2⟩ := h; exact ⟨(A, c), trivial, h1, h2⟩)) ?_
  rintro ⟨T15, tc15⟩ -
  dsimp only [List.cons_append, List.nil_append]
  refine lst_fn (X := Option Addr × Nat) (vs := [_, _]) (p := fun _ => True) (val := fun y => .tuple #[.slice y.1 1 y.2, .int .i64 0]) (rs := fun y => [.row 3 1 y.1 1 y.2 (ints [3])]) rfl rfl F.ent48 (fun a w ha => (kIdle tAgs tOks rfl [3] (by decide +kernel) T15 tc15 w (row_reads ha (cells := Ag.cells) (size := 5) (e := 24) (c := tc15) (n := 4) (l := tAgs) (fun _ => rfl) (InR.mem (A := T15)) rfl)).mono (fun e w' h => by obtain ⟨A', c', h1, h2⟩ := h; exact ⟨(A', c'), trivial, h1, h2⟩)) ?_
  rintro ⟨A15, c15⟩ -
  dsimp only [List.cons_append, List.nil_append]
  refine lst_move rfl rfl ?_
  refine lst_extract rfl rfl rfl ?_
  refine lst_extract rfl rfl rfl ?_
  refine lst_assign rfl rfl ?_
  refine lst_assign rfl rfl ?_
  refine lst_nil ?_
  refine ex_then ?_
  refine cod_seq ?_
  refine cod_region ?_
  refine lst_less (fr' := [(4, .slice A13 6 c13), (5, .int .i64 0), (6, .slice A14 1 c14), (7, .int .i64 0), (8, .slice A15 1 c15), (9, .int .i64 0)]) (hp' := [.row 3 1 A15 1 c15 (ints [3]), .row 3 1 A14 1 c14 (ints [8]), .row 3 1 A13 6 c13 (ints [0, 1, 2, 3, 6, 7])]) sbn sbl ?_
  refine lst_fn (X := Nat) (vs := []) (p := fun _ => True) (val := fun b => .slice (some ⟨b, 0, none⟩) 4 4) (rs := fun b => [.blk b (.cells ((sAgs.flatMap Ag.cells) : List Value).toArray 24 (0, 0))]) rfl rfl F.ent71 (fun a w ha => (s_c w).mono (fun e w' h => by obtain ⟨b, h1, h2⟩ := h; exact ⟨b, trivial, h1, h2⟩)) ?_
  intro s16_0 _
  dsimp only [List.cons_append, List.nil_append]
  refine lst_fn (X := Option Addr × Nat) (vs := [_, _]) (p := fun _ => True) (val := fun y => .tuple #[.slice y.1 0 y.2, .int .i64 0]) (rs := fun y => [.row 3 1 y.1 0 y.2 (ints [])]) rfl rfl F.ent48 (fun a w ha => (kIdle sAgs sOks rfl [] (by decide +kernel) (some ⟨s16_0, 0, none⟩) 4 w (blk_reads ha (cells := Ag.cells) (size := 5) (b := s16_0) (l := sAgs) (fun _ => rfl) rfl)).mono (fun e w' h => by obtain ⟨A', c', h1, h2⟩ := h; exact ⟨(A', c'), trivial, h1, h2⟩)) ?_
  rintro ⟨A16, c16⟩ -
  dsimp only [List.cons_append, List.nil_append]
  refine lst_move rfl rfl ?_
  refine lst_extract rfl rfl rfl ?_
  refine lst_extract rfl rfl rfl ?_
  refine lst_assign rfl rfl ?_
  refine lst_assign rfl rfl ?_
  refine lst_nil ?_
  refine ex_then ?_
  refine cod_seq ?_
  refine cod_region ?_
  refine lst_less (fr' := [(4, .slice A13 6 c13), (5, .int .i64 0), (6, .slice A14 1 c14), (7, .int .i64 0), (8, .slice A15 1 c15), (9, .int .i64 0), (11, .int .i64 0), (16, .slice A16 0 c16)]) (hp' := [.row 3 1 A16 0 c16 (ints []), .row 3 1 A15 1 c15 (ints [3]), .row 3 1 A14 1 c14 (ints [8]), .row 3 1 A13 6 c13 (ints [0, 1, 2, 3, 6, 7])]) sbn sbl ?_
  refine lst_fn (X := Nat) (vs := []) (p := fun _ => True) (val := fun b => .slice (some ⟨b, 0, none⟩) 4 4) (rs := fun b => [.blk b (.cells ((sAgs.flatMap Ag.cells) : List Value).toArray 24 (0, 0))]) rfl rfl F.ent71 (fun a w ha => (s_c w).mono (fun e w' h => by obtain ⟨b, h1, h2⟩ := h; exact ⟨b, trivial, h1, h2⟩)) ?_
  intro s17_0 _
  dsimp only [List.cons_append, List.nil_append]
  refine lst_fn (X := Option Addr × Nat) (vs := [_, _, _]) (p := fun _ => True) (val := fun y => .tuple #[.slice y.1 0 y.2, .int .i64 11]) (rs := fun y => [.row 3 1 y.1 0 y.2 (ints [])]) rfl rfl F.ent53 (fun a w ha => (kShort80 (some ⟨s17_0, 0, none⟩) 4 w (blk_reads ha (cells := Ag.cells) (size := 5) (b := s17_0) (l := sAgs) (fun _ => rfl) rfl)).mono (fun e w' h => by obtain ⟨A', c', h1, h2⟩ := h; exact ⟨(A', c'), trivial, h1, h2⟩)) ?_
  rintro ⟨A17, c17⟩ -
  dsimp only [List.cons_append, List.nil_append]
  refine lst_move rfl rfl ?_
  refine lst_extract rfl rfl rfl ?_
  refine lst_extract rfl rfl rfl ?_
  refine lst_assign rfl rfl ?_
  refine lst_nil ?_
  refine ex_then ?_
  refine cod_seq ?_
  refine cod_region ?_
  refine lst_less (fr' := [(4, .slice A13 6 c13), (5, .int .i64 0), (6, .slice A14 1 c14), (7, .int .i64 0), (8, .slice A15 1 c15), (9, .int .i64 0), (11, .int .i64 0), (13, .int .i64 11), (16, .slice A16 0 c16)]) (hp' := [.row 3 1 A16 0 c16 (ints []), .row 3 1 A15 1 c15 (ints [3]), .row 3 1 A14 1 c14 (ints [8]), .row 3 1 A13 6 c13 (ints [0, 1, 2, 3, 6, 7])]) sbn sbl ?_
  refine lst_fn (X := Nat) (vs := []) (p := fun _ => True) (val := fun b => .slice (some ⟨b, 0, none⟩) 4 4) (rs := fun b => [.blk b (.cells ((sAgs.flatMap Ag.cells) : List Value).toArray 24 (0, 0))]) rfl rfl F.ent71 (fun a w ha => (s_c w).mono (fun e w' h => by obtain ⟨b, h1, h2⟩ := h; exact ⟨b, trivial, h1, h2⟩)) ?_
  intro s18_0 _
  dsimp only [List.cons_append, List.nil_append]
  refine lst_fn (X := Option Addr × Nat) (vs := [_, _, _]) (p := fun _ => True) (val := fun y => .tuple #[.slice y.1 0 y.2, .int .i64 0]) (rs := fun y => [.row 3 1 y.1 0 y.2 (ints [])]) rfl rfl F.ent53 (fun a w ha => (kShort sAgs sOks rfl 8 8 (by decide) (by decide) [] ex_short88 (some ⟨s18_0, 0, none⟩) 4 w (blk_reads ha (cells := Ag.cells) (size := 5) (b := s18_0) (l := sAgs) (fun _ => rfl) rfl)).mono (fun e w' h => by obtain ⟨A', c', h1, h2⟩ := h; exact ⟨(A', c'), trivial, h1, h2⟩)) ?_
  rintro ⟨A18, c18⟩ -
  dsimp only [List.cons_append, List.nil_append]
  refine lst_move rfl rfl ?_
  refine lst_extract rfl rfl rfl ?_
  refine lst_extract rfl rfl rfl ?_
  refine lst_assign rfl rfl ?_
  refine lst_assign rfl rfl ?_
  refine lst_nil ?_
  refine ex_then ?_
  refine cod_seq ?_
  refine cod_seq ?_
  refine cod_region ?_
  refine lst_less (fr' := [(4, .slice A13 6 c13), (5, .int .i64 0), (6, .slice A14 1 c14), (7, .int .i64 0), (8, .slice A15 1 c15), (9, .int .i64 0), (11, .int .i64 0), (13, .int .i64 11), (15, .int .i64 0), (16, .slice A16 0 c16), (17, .slice A18 0 c18)]) (hp' := [.row 3 1 A18 0 c18 (ints []), .row 3 1 A16 0 c16 (ints []), .row 3 1 A15 1 c15 (ints [3]), .row 3 1 A14 1 c14 (ints [8]), .row 3 1 A13 6 c13 (ints [0, 1, 2, 3, 6, 7])]) sbn sbl ?_
  refine lst_move rfl rfl ?_
  refine lst_int rfl rfl rfl bin_neq ?_
  refine lst_move rfl rfl ?_
  refine lst_on rfl rfl ?_
  refine lst_move rfl rfl ?_
  refine lst_on rfl rfl ?_
  refine lst_int rfl rfl rfl bin_neq ?_
  refine lst_pick_false rfl rfl rfl ?_
  refine lst_move rfl rfl ?_
  refine lst_on rfl rfl ?_
  refine lst_move rfl rfl ?_
  refine lst_on rfl rfl ?_
  refine lst_int rfl rfl rfl bin_neq ?_
  refine lst_pick_false rfl rfl rfl ?_
  refine lst_move rfl rfl ?_
  refine lst_on rfl rfl ?_
  refine lst_move rfl rfl ?_
  refine lst_on rfl rfl ?_
  refine lst_int rfl rfl rfl bin_neq ?_
  refine lst_pick_false rfl rfl rfl ?_
  refine lst_move rfl rfl ?_
  refine lst_on rfl rfl ?_
  refine lst_move rfl rfl ?_
  refine lst_on rfl rfl ?_
  refine lst_int rfl rfl rfl bin_neq ?_
  refine lst_pick_false rfl rfl rfl ?_
  refine lst_move rfl rfl ?_
  refine lst_on rfl rfl ?_
  refine lst_move rfl rfl ?_
  refine lst_on rfl rfl ?_
  refine lst_int rfl rfl rfl bin_neq ?_
  refine lst_pick_false rfl rfl rfl ?_
  refine lst_move rfl rfl ?_
  refine lst_on rfl rfl ?_
  refine lst_move rfl rfl ?_
  refine lst_on rfl rfl ?_
  refine lst_len rfl rfl Tryd.underlying25 ?_
  refine lst_on rfl rfl ?_
  refine lst_move rfl rfl ?_
  refine lst_on rfl rfl ?_
  refine lst_len rfl rfl Tryd.underlying25 ?_
  refine lst_on rfl rfl ?_
  refine lst_int rfl rfl rfl (fun w => bin_add w (wrap_i64' _ (by omega) (by omega))) ?_
  refine lst_on rfl rfl ?_
  refine lst_int rfl rfl rfl bin_gtr ?_
  refine lst_pick_false rfl rfl rfl ?_
  refine lst_move rfl rfl ?_
  refine lst_on rfl rfl ?_
  refine lst_move rfl rfl ?_
  refine lst_on rfl rfl ?_
  refine lst_lit (vs := [(0, _), (1, _), (2, _), (3, _), (4, _), (5, _)]) rfl rfl Tryd.underlying25 F.ti3 rfl rfl rfl ?_
  intro b201
  refine lst_on rfl rfl ?_
  refine lst_fn0 (v := .bool true) (vs := [_, _]) rfl rfl F.ent32 (fun a w ha => (eqInts_c A13 (some ⟨b201, 0, none⟩) c13 6 [0, 1, 2, 3, 6, 7] [0, 1, 2, 3, 6, 7] (by decide) w (row_reads ha (cells := icell) (size := 1) (e := 3) (c := c13) (n := 6) (l := [0, 1, 2, 3, 6, 7]) (fun _ => rfl) (InR.mem (A := A13)) rfl) (blk_reads ha (cells := icell) (size := 1) (b := b201) (l := [0, 1, 2, 3, 6, 7]) (fun _ => rfl) rfl)).mono (fun e w' h => h)) ?_
  refine lst_on rfl rfl ?_
  refine lst_not rfl rfl ?_
  refine lst_pick_false rfl rfl rfl ?_
  refine lst_move rfl rfl ?_
  refine lst_on rfl rfl ?_
  refine lst_move rfl rfl ?_
  refine lst_on rfl rfl ?_
  refine lst_lit (vs := [(0, _)]) rfl rfl Tryd.underlying25 F.ti3 rfl rfl rfl ?_
  intro b207
  refine lst_on rfl rfl ?_
  refine lst_fn0 (v := .bool true) (vs := [_, _]) rfl rfl F.ent32 (fun a w ha => (eqInts_c A14 (some ⟨b207, 0, none⟩) c14 1 [8] [8] (by decide) w (row_reads ha (cells := icell) (size := 1) (e := 3) (c := c14) (n := 1) (l := [8]) (fun _ => rfl) (InR.mem (A := A14)) rfl) (blk_reads ha (cells := icell) (size := 1) (b := b207) (l := [8]) (fun _ => rfl) rfl)).mono (fun e w' h => h)) ?_
  refine lst_on rfl rfl ?_
  refine lst_not rfl rfl ?_
  refine lst_pick_false rfl rfl rfl ?_
  refine lst_move rfl rfl ?_
  refine lst_on rfl rfl ?_
  refine lst_move rfl rfl ?_
  refine lst_on rfl rfl ?_
  refine lst_lit (vs := [(0, _)]) rfl rfl Tryd.underlying25 F.ti3 rfl rfl rfl ?_
  intro b213
  refine lst_on rfl rfl ?_
  refine lst_fn0 (v := .bool true) (vs := [_, _]) rfl rfl F.ent32 (fun a w ha => (eqInts_c A15 (some ⟨b213, 0, none⟩) c15 1 [3] [3] (by decide) w (row_reads ha (cells := icell) (size := 1) (e := 3) (c := c15) (n := 1) (l := [3]) (fun _ => rfl) (InR.mem (A := A15)) rfl) (blk_reads ha (cells := icell) (size := 1) (b := b213) (l := [3]) (fun _ => rfl) rfl)).mono (fun e w' h => h)) ?_
  refine lst_on rfl rfl ?_
  refine lst_not rfl rfl ?_
  refine lst_pick_false rfl rfl rfl ?_
  refine lst_nil ?_
  refine ex_then ?_
  refine cod_cond_false rfl ?_
  refine cod_skip ?_
  refine ex_then ?_
  refine cod_seq ?_
  refine cod_region ?_
  refine lst_less (fr' := []) (hp' := []) sbn sbl ?_
  refine lst_fn (X := Option Addr × Nat) (vs := []) (p := fun _ => True) (val := fun x => .slice x.1 4 x.2) (rs := fun x => [.row 24 5 x.1 4 x.2 (tAgs.flatMap Ag.cells)]) rfl rfl F.ent72 (fun a w ha => (t_c w).mono (fun e w' h => by obtain ⟨A, c, h1, h2⟩ := h; exact ⟨(A, c), trivial, h1, h2⟩)) ?_
  rintro ⟨T21, tc21⟩ -
  dsimp only [List.cons_append, List.nil_append]
  refine lst_fn (X := Option Addr × Nat) (vs := [_, _, _]) (p := fun _ => True) (val := fun y => .tuple #[.slice y.1 3 y.2, .int .i64 0]) (rs := fun y => [.row 3 1 y.1 3 y.2 (ints [2, 0, 1])]) rfl rfl F.ent53 (fun a w ha => (kShort tAgs tOks rfl 7 0 (by decide) (by decide) [2, 0, 1] ex_shortT T21 tc21 w (row_reads ha (cells := Ag.cells) (size := 5) (e := 24) (c := tc21) (n := 4) (l := tAgs) (fun _ => rfl) (InR.mem (A := T21)) rfl)).mono (fun e w' h => by obtain ⟨A', c', h1, h2⟩ := h; exact ⟨(A', c'), trivial, h1, h2⟩)) ?_
  rintro ⟨A21, c21⟩ -
  dsimp only [List.cons_append, List.nil_append]
  refine lst_move rfl rfl ?_
  refine lst_extract rfl rfl rfl ?_
  refine lst_extract rfl rfl rfl ?_
  refine lst_assign rfl rfl ?_
  refine lst_assign rfl rfl ?_
  refine lst_nil ?_
  refine ex_then ?_
  refine cod_seq ?_
  refine cod_region ?_
  refine lst_less (fr' := [(4, .slice A21 3 c21), (5, .int .i64 0)]) (hp' := [.row 3 1 A21 3 c21 (ints [2, 0, 1])]) sbn sbl ?_
  refine lst_fn (X := Nat) (vs := []) (p := fun _ => True) (val := fun b => .slice (some ⟨b, 0, none⟩) 4 4) (rs := fun b => [.blk b (.cells ((sAgs.flatMap Ag.cells) : List Value).toArray 24 (0, 0))]) rfl rfl F.ent71 (fun a w ha => (s_c w).mono (fun e w' h => by obtain ⟨b, h1, h2⟩ := h; exact ⟨b, trivial, h1, h2⟩)) ?_
  intro s22_0 _
  dsimp only [List.cons_append, List.nil_append]
  refine lst_fn (X := Option Addr × Nat) (vs := [_, _, _]) (p := fun _ => True) (val := fun y => .tuple #[.slice y.1 3 y.2, .int .i64 4, .int .i64 0]) (rs := fun y => [.row 3 1 y.1 3 y.2 (ints [2, 0, 1])]) rfl rfl F.ent35 (fun a w ha => (kCheap (some ⟨s22_0, 0, none⟩) 4 w (blk_reads ha (cells := Ag.cells) (size := 5) (b := s22_0) (l := sAgs) (fun _ => rfl) rfl)).mono (fun e w' h => by obtain ⟨A', c', h1, h2⟩ := h; exact ⟨(A', c'), trivial, h1, h2⟩)) ?_
  rintro ⟨A22, c22⟩ -
  dsimp only [List.cons_append, List.nil_append]
  refine lst_move rfl rfl ?_
  refine lst_extract rfl rfl rfl ?_
  refine lst_extract rfl rfl rfl ?_
  refine lst_extract rfl rfl rfl ?_
  refine lst_assign rfl rfl ?_
  refine lst_assign rfl rfl ?_
  refine lst_assign rfl rfl ?_
  refine lst_nil ?_
  refine ex_then ?_
  refine cod_seq ?_
  refine cod_region ?_
  refine lst_less (fr' := [(4, .slice A21 3 c21), (5, .int .i64 0), (6, .slice A22 3 c22), (7, .int .i64 0), (18, .int .i64 4)]) (hp' := [.row 3 1 A22 3 c22 (ints [2, 0, 1]), .row 3 1 A21 3 c21 (ints [2, 0, 1])]) sbn sbl ?_
  refine lst_fn (X := Nat) (vs := []) (p := fun _ => True) (val := fun b => .slice (some ⟨b, 0, none⟩) 4 4) (rs := fun b => [.blk b (.cells ((sAgs.flatMap Ag.cells) : List Value).toArray 24 (0, 0))]) rfl rfl F.ent71 (fun a w ha => (s_c w).mono (fun e w' h => by obtain ⟨b, h1, h2⟩ := h; exact ⟨b, trivial, h1, h2⟩)) ?_
  intro s23_0 _
  dsimp only [List.cons_append, List.nil_append]
  refine lst_fn (X := Option Addr × Nat) (vs := [_, _, _]) (p := fun _ => True) (val := fun y => .tuple #[.slice y.1 1 y.2, .int .i64 0]) (rs := fun y => [.row 3 1 y.1 1 y.2 (ints [0])]) rfl rfl F.ent55 (fun a w ha => (kNeed sAgs sOks rfl [0] ex_clrS ex_needS (some ⟨s23_0, 0, none⟩) 4 w (blk_reads ha (cells := Ag.cells) (size := 5) (b := s23_0) (l := sAgs) (fun _ => rfl) rfl)).mono (fun e w' h => by obtain ⟨A', c', h1, h2⟩ := h; exact ⟨(A', c'), trivial, h1, h2⟩)) ?_
  rintro ⟨A23, c23⟩ -
  dsimp only [List.cons_append, List.nil_append]
  refine lst_move rfl rfl ?_
  refine lst_extract rfl rfl rfl ?_
  refine lst_extract rfl rfl rfl ?_
  refine lst_assign rfl rfl ?_
  refine lst_assign rfl rfl ?_
  refine lst_nil ?_
  refine ex_then ?_
  refine cod_seq ?_
  refine cod_region ?_
  refine lst_less (fr' := [(4, .slice A21 3 c21), (5, .int .i64 0), (6, .slice A22 3 c22), (7, .int .i64 0), (8, .slice A23 1 c23), (9, .int .i64 0), (18, .int .i64 4)]) (hp' := [.row 3 1 A23 1 c23 (ints [0]), .row 3 1 A22 3 c22 (ints [2, 0, 1]), .row 3 1 A21 3 c21 (ints [2, 0, 1])]) sbn sbl ?_
  refine lst_fn (X := Option Addr × Nat) (vs := []) (p := fun _ => True) (val := fun x => .slice x.1 4 x.2) (rs := fun x => [.row 24 5 x.1 4 x.2 (tAgs.flatMap Ag.cells)]) rfl rfl F.ent72 (fun a w ha => (t_c w).mono (fun e w' h => by obtain ⟨A, c, h1, h2⟩ := h; exact ⟨(A, c), trivial, h1, h2⟩)) ?_
  rintro ⟨T24, tc24⟩ -
  dsimp only [List.cons_append, List.nil_append]
  refine lst_fn (X := Option Addr × Nat) (vs := [_, _, _]) (p := fun _ => True) (val := fun y => .tuple #[.slice y.1 3 y.2, .int .i64 0]) (rs := fun y => [.row 3 1 y.1 3 y.2 (ints [0, 1, 2])]) rfl rfl F.ent55 (fun a w ha => (kNeed tAgs tOks rfl [0, 1, 2] ex_clrT ex_needT T24 tc24 w (row_reads ha (cells := Ag.cells) (size := 5) (e := 24) (c := tc24) (n := 4) (l := tAgs) (fun _ => rfl) (InR.mem (A := T24)) rfl)).mono (fun e w' h => by obtain ⟨A', c', h1, h2⟩ := h; exact ⟨(A', c'), trivial, h1, h2⟩)) ?_
  rintro ⟨A24, c24⟩ -
  dsimp only [List.cons_append, List.nil_append]
  refine lst_move rfl rfl ?_
  refine lst_extract rfl rfl rfl ?_
  refine lst_extract rfl rfl rfl ?_
  refine lst_assign rfl rfl ?_
  refine lst_assign rfl rfl ?_
  refine lst_nil ?_
  refine ex_then ?_
  refine cod_seq ?_
  refine cod_region ?_
  refine lst_less (fr' := [(4, .slice A21 3 c21), (5, .int .i64 0), (6, .slice A22 3 c22), (7, .int .i64 0), (8, .slice A23 1 c23), (9, .int .i64 0), (11, .int .i64 0), (16, .slice A24 3 c24), (18, .int .i64 4)]) (hp' := [.row 3 1 A24 3 c24 (ints [0, 1, 2]), .row 3 1 A23 1 c23 (ints [0]), .row 3 1 A22 3 c22 (ints [2, 0, 1]), .row 3 1 A21 3 c21 (ints [2, 0, 1])]) sbn sbl ?_
  refine lst_fn (X := Option Addr × Nat) (vs := []) (p := fun _ => True) (val := fun x => .slice x.1 4 x.2) (rs := fun x => [.row 24 5 x.1 4 x.2 (tAgs.flatMap Ag.cells)]) rfl rfl F.ent72 (fun a w ha => (t_c w).mono (fun e w' h => by obtain ⟨A, c, h1, h2⟩ := h; exact ⟨(A, c), trivial, h1, h2⟩)) ?_
  rintro ⟨T25, tc25⟩ -
  dsimp only [List.cons_append, List.nil_append]
  refine lst_fn (X := Option Addr × Nat) (vs := [_, _, _]) (p := fun _ => True) (val := fun y => .tuple #[.slice y.1 1 y.2, .int .i64 0]) (rs := fun y => [.row 3 1 y.1 1 y.2 (ints [3])]) rfl rfl F.ent57 (fun a w ha => (kSpoil tAgs tOks rfl [3] ex_clrT ex_spoilT T25 tc25 w (row_reads ha (cells := Ag.cells) (size := 5) (e := 24) (c := tc25) (n := 4) (l := tAgs) (fun _ => rfl) (InR.mem (A := T25)) rfl)).mono (fun e w' h => by obtain ⟨A', c', h1, h2⟩ := h; exact ⟨(A', c'), trivial, h1, h2⟩)) ?_
  rintro ⟨A25, c25⟩ -
  dsimp only [List.cons_append, List.nil_append]
  refine lst_move rfl rfl ?_
  refine lst_extract rfl rfl rfl ?_
  refine lst_extract rfl rfl rfl ?_
  refine lst_assign rfl rfl ?_
  refine lst_assign rfl rfl ?_
  refine lst_nil ?_
  refine ex_then ?_
  refine cod_seq ?_
  refine cod_region ?_
  refine lst_less (fr' := [(4, .slice A21 3 c21), (5, .int .i64 0), (6, .slice A22 3 c22), (7, .int .i64 0), (8, .slice A23 1 c23), (9, .int .i64 0), (11, .int .i64 0), (13, .int .i64 0), (16, .slice A24 3 c24), (17, .slice A25 1 c25), (18, .int .i64 4)]) (hp' := [.row 3 1 A25 1 c25 (ints [3]), .row 3 1 A24 3 c24 (ints [0, 1, 2]), .row 3 1 A23 1 c23 (ints [0]), .row 3 1 A22 3 c22 (ints [2, 0, 1]), .row 3 1 A21 3 c21 (ints [2, 0, 1])]) sbn sbl ?_
  refine lst_fn (X := Nat) (vs := []) (p := fun _ => True) (val := fun b => .slice (some ⟨b, 0, none⟩) 4 4) (rs := fun b => [.blk b (.cells ((sAgs.flatMap Ag.cells) : List Value).toArray 24 (0, 0))]) rfl rfl F.ent71 (fun a w ha => (s_c w).mono (fun e w' h => by obtain ⟨b, h1, h2⟩ := h; exact ⟨b, trivial, h1, h2⟩)) ?_
  intro s26_0 _
  dsimp only [List.cons_append, List.nil_append]
  refine lst_fn (X := Option Addr × Nat) (vs := [_, _, _]) (p := fun _ => True) (val := fun y => .tuple #[.slice y.1 0 y.2, .int .i64 0]) (rs := fun y => [.row 3 1 y.1 0 y.2 (ints [])]) rfl rfl F.ent57 (fun a w ha => (kSpoil sAgs sOks rfl [] ex_clrS ex_spoilS (some ⟨s26_0, 0, none⟩) 4 w (blk_reads ha (cells := Ag.cells) (size := 5) (b := s26_0) (l := sAgs) (fun _ => rfl) rfl)).mono (fun e w' h => by obtain ⟨A', c', h1, h2⟩ := h; exact ⟨(A', c'), trivial, h1, h2⟩)) ?_
  rintro ⟨A26, c26⟩ -
  dsimp only [List.cons_append, List.nil_append]
  refine lst_move rfl rfl ?_
  refine lst_extract rfl rfl rfl ?_
  refine lst_extract rfl rfl rfl ?_
  refine lst_assign rfl rfl ?_
  refine lst_assign rfl rfl ?_
  refine lst_nil ?_
  refine ex_then ?_
  refine cod_seq ?_
  refine cod_seq ?_
  refine cod_region ?_
  refine lst_less (fr' := [(4, .slice A21 3 c21), (5, .int .i64 0), (6, .slice A22 3 c22), (7, .int .i64 0), (8, .slice A23 1 c23), (9, .int .i64 0), (11, .int .i64 0), (13, .int .i64 0), (15, .int .i64 0), (16, .slice A24 3 c24), (17, .slice A25 1 c25), (18, .int .i64 4), (19, .slice A26 0 c26)]) (hp' := [.row 3 1 A26 0 c26 (ints []), .row 3 1 A25 1 c25 (ints [3]), .row 3 1 A24 3 c24 (ints [0, 1, 2]), .row 3 1 A23 1 c23 (ints [0]), .row 3 1 A22 3 c22 (ints [2, 0, 1]), .row 3 1 A21 3 c21 (ints [2, 0, 1])]) sbn sbl ?_
  refine lst_move rfl rfl ?_
  refine lst_int rfl rfl rfl bin_neq ?_
  refine lst_move rfl rfl ?_
  refine lst_on rfl rfl ?_
  refine lst_move rfl rfl ?_
  refine lst_on rfl rfl ?_
  refine lst_int rfl rfl rfl bin_neq ?_
  refine lst_pick_false rfl rfl rfl ?_
  refine lst_move rfl rfl ?_
  refine lst_on rfl rfl ?_
  refine lst_move rfl rfl ?_
  refine lst_on rfl rfl ?_
  refine lst_int rfl rfl rfl bin_neq ?_
  refine lst_pick_false rfl rfl rfl ?_
  refine lst_move rfl rfl ?_
  refine lst_on rfl rfl ?_
  refine lst_move rfl rfl ?_
  refine lst_on rfl rfl ?_
  refine lst_int rfl rfl rfl bin_neq ?_
  refine lst_pick_false rfl rfl rfl ?_
  refine lst_move rfl rfl ?_
  refine lst_on rfl rfl ?_
  refine lst_move rfl rfl ?_
  refine lst_on rfl rfl ?_
  refine lst_int rfl rfl rfl bin_neq ?_
  refine lst_pick_false rfl rfl rfl ?_
  refine lst_move rfl rfl ?_
  refine lst_on rfl rfl ?_
  refine lst_move rfl rfl ?_
  refine lst_on rfl rfl ?_
  refine lst_int rfl rfl rfl bin_neq ?_
  refine lst_pick_false rfl rfl rfl ?_
  refine lst_move rfl rfl ?_
  refine lst_on rfl rfl ?_
  refine lst_move rfl rfl ?_
  refine lst_on rfl rfl ?_
  refine lst_int rfl rfl rfl bin_neq ?_
  refine lst_pick_false rfl rfl rfl ?_
  refine lst_move rfl rfl ?_
  refine lst_on rfl rfl ?_
  refine lst_move rfl rfl ?_
  refine lst_on rfl rfl ?_
  refine lst_len rfl rfl Tryd.underlying25 ?_
  refine lst_on rfl rfl ?_
  refine lst_int rfl rfl rfl bin_gtr ?_
  refine lst_pick_false rfl rfl rfl ?_
  refine lst_move rfl rfl ?_
  refine lst_on rfl rfl ?_
  refine lst_move rfl rfl ?_
  refine lst_on rfl rfl ?_
  refine lst_lit (vs := [(0, _), (1, _), (2, _)]) rfl rfl Tryd.underlying25 F.ti3 rfl rfl rfl ?_
  intro b281
  refine lst_on rfl rfl ?_
  refine lst_fn0 (v := .bool true) (vs := [_, _]) rfl rfl F.ent32 (fun a w ha => (eqInts_c A21 (some ⟨b281, 0, none⟩) c21 3 [2, 0, 1] [2, 0, 1] (by decide) w (row_reads ha (cells := icell) (size := 1) (e := 3) (c := c21) (n := 3) (l := [2, 0, 1]) (fun _ => rfl) (InR.mem (A := A21)) rfl) (blk_reads ha (cells := icell) (size := 1) (b := b281) (l := [2, 0, 1]) (fun _ => rfl) rfl)).mono (fun e w' h => h)) ?_
  refine lst_on rfl rfl ?_
  refine lst_not rfl rfl ?_
  refine lst_pick_false rfl rfl rfl ?_
  refine lst_move rfl rfl ?_
  refine lst_on rfl rfl ?_
  refine lst_move rfl rfl ?_
  refine lst_on rfl rfl ?_
  refine lst_lit (vs := [(0, _), (1, _), (2, _)]) rfl rfl Tryd.underlying25 F.ti3 rfl rfl rfl ?_
  intro b287
  refine lst_on rfl rfl ?_
  refine lst_fn0 (v := .bool true) (vs := [_, _]) rfl rfl F.ent32 (fun a w ha => (eqInts_c A22 (some ⟨b287, 0, none⟩) c22 3 [2, 0, 1] [2, 0, 1] (by decide) w (row_reads ha (cells := icell) (size := 1) (e := 3) (c := c22) (n := 3) (l := [2, 0, 1]) (fun _ => rfl) (InR.mem (A := A22)) rfl) (blk_reads ha (cells := icell) (size := 1) (b := b287) (l := [2, 0, 1]) (fun _ => rfl) rfl)).mono (fun e w' h => h)) ?_
  refine lst_on rfl rfl ?_
  refine lst_not rfl rfl ?_
  refine lst_pick_false rfl rfl rfl ?_
  refine lst_move rfl rfl ?_
  refine lst_on rfl rfl ?_
  refine lst_move rfl rfl ?_
  refine lst_on rfl rfl ?_
  refine lst_lit (vs := [(0, _)]) rfl rfl Tryd.underlying25 F.ti3 rfl rfl rfl ?_
  intro b293
  refine lst_on rfl rfl ?_
  refine lst_fn0 (v := .bool true) (vs := [_, _]) rfl rfl F.ent32 (fun a w ha => (eqInts_c A23 (some ⟨b293, 0, none⟩) c23 1 [0] [0] (by decide) w (row_reads ha (cells := icell) (size := 1) (e := 3) (c := c23) (n := 1) (l := [0]) (fun _ => rfl) (InR.mem (A := A23)) rfl) (blk_reads ha (cells := icell) (size := 1) (b := b293) (l := [0]) (fun _ => rfl) rfl)).mono (fun e w' h => h)) ?_
  refine lst_on rfl rfl ?_
  refine lst_not rfl rfl ?_
  refine lst_pick_false rfl rfl rfl ?_
  refine lst_move rfl rfl ?_
  refine lst_on rfl rfl ?_
  refine lst_move rfl rfl ?_
  refine lst_on rfl rfl ?_
  refine lst_lit (vs := [(0, _), (1, _), (2, _)]) rfl rfl Tryd.underlying25 F.ti3 rfl rfl rfl ?_
  intro b299
  refine lst_on rfl rfl ?_
  refine lst_fn0 (v := .bool true) (vs := [_, _]) rfl rfl F.ent32 (fun a w ha => (eqInts_c A24 (some ⟨b299, 0, none⟩) c24 3 [0, 1, 2] [0, 1, 2] (by decide) w (row_reads ha (cells := icell) (size := 1) (e := 3) (c := c24) (n := 3) (l := [0, 1, 2]) (fun _ => rfl) (InR.mem (A := A24)) rfl) (blk_reads ha (cells := icell) (size := 1) (b := b299) (l := [0, 1, 2]) (fun _ => rfl) rfl)).mono (fun e w' h => h)) ?_
  refine lst_on rfl rfl ?_
  refine lst_not rfl rfl ?_
  refine lst_pick_false rfl rfl rfl ?_
  refine lst_move rfl rfl ?_
  refine lst_on rfl rfl ?_
  refine lst_move rfl rfl ?_
  refine lst_on rfl rfl ?_
  refine lst_lit (vs := [(0, _)]) rfl rfl Tryd.underlying25 F.ti3 rfl rfl rfl ?_
  intro b305
  refine lst_on rfl rfl ?_
  refine lst_fn0 (v := .bool true) (vs := [_, _]) rfl rfl F.ent32 (fun a w ha => (eqInts_c A25 (some ⟨b305, 0, none⟩) c25 1 [3] [3] (by decide) w (row_reads ha (cells := icell) (size := 1) (e := 3) (c := c25) (n := 1) (l := [3]) (fun _ => rfl) (InR.mem (A := A25)) rfl) (blk_reads ha (cells := icell) (size := 1) (b := b305) (l := [3]) (fun _ => rfl) rfl)).mono (fun e w' h => h)) ?_
  refine lst_on rfl rfl ?_
  refine lst_not rfl rfl ?_
  refine lst_pick_false rfl rfl rfl ?_
  refine lst_nil ?_
  refine ex_then ?_
  refine cod_cond_false rfl ?_
  refine cod_skip ?_
  refine ex_then ?_
  refine cod_seq ?_
  refine cod_region ?_
  refine lst_less (fr' := []) (hp' := []) sbn sbl ?_
  refine lst_fn (X := Nat) (vs := []) (p := fun _ => True) (val := fun b => .slice (some ⟨b, 0, none⟩) 4 4) (rs := fun b => [.blk b (.cells ((sAgs.flatMap Ag.cells) : List Value).toArray 24 (0, 0))]) rfl rfl F.ent71 (fun a w ha => (s_c w).mono (fun e w' h => by obtain ⟨b, h1, h2⟩ := h; exact ⟨b, trivial, h1, h2⟩)) ?_
  intro s29_0 _
  dsimp only [List.cons_append, List.nil_append]
  refine lst_fn (X := Option Addr × Nat) (vs := [_, _]) (p := fun _ => True) (val := fun y => .tuple #[.slice y.1 0 y.2, .int .i64 0]) (rs := fun y => [.row 3 1 y.1 0 y.2 (ints [])]) rfl rfl F.ent51 (fun a w ha => (kHope sAgs sOks 56 (by decide) [] ex_hopeS (some ⟨s29_0, 0, none⟩) 4 w (blk_reads ha (cells := Ag.cells) (size := 5) (b := s29_0) (l := sAgs) (fun _ => rfl) rfl)).mono (fun e w' h => by obtain ⟨A', c', h1, h2⟩ := h; exact ⟨(A', c'), trivial, h1, h2⟩)) ?_
  rintro ⟨A29, c29⟩ -
  dsimp only [List.cons_append, List.nil_append]
  refine lst_move rfl rfl ?_
  refine lst_extract rfl rfl rfl ?_
  refine lst_extract rfl rfl rfl ?_
  refine lst_assign rfl rfl ?_
  refine lst_assign rfl rfl ?_
  refine lst_nil ?_
  refine ex_then ?_
  refine cod_seq ?_
  refine cod_region ?_
  refine lst_less (fr' := [(4, .slice A29 0 c29), (5, .int .i64 0)]) (hp' := [.row 3 1 A29 0 c29 (ints [])]) sbn sbl ?_
  refine lst_fn (X := Option Addr × Nat) (vs := []) (p := fun _ => True) (val := fun x => .slice x.1 4 x.2) (rs := fun x => [.row 24 5 x.1 4 x.2 (tAgs.flatMap Ag.cells)]) rfl rfl F.ent72 (fun a w ha => (t_c w).mono (fun e w' h => by obtain ⟨A, c, h1, h2⟩ := h; exact ⟨(A, c), trivial, h1, h2⟩)) ?_
  rintro ⟨T30, tc30⟩ -
  dsimp only [List.cons_append, List.nil_append]
  refine lst_fn (X := Option Addr × Nat) (vs := [_, _]) (p := fun _ => True) (val := fun y => .tuple #[.slice y.1 0 y.2, .int .i64 0]) (rs := fun y => [.row 3 1 y.1 0 y.2 (ints [])]) rfl rfl F.ent51 (fun a w ha => (kHope tAgs tOks 56 (by decide) [] ex_hopeT T30 tc30 w (row_reads ha (cells := Ag.cells) (size := 5) (e := 24) (c := tc30) (n := 4) (l := tAgs) (fun _ => rfl) (InR.mem (A := T30)) rfl)).mono (fun e w' h => by obtain ⟨A', c', h1, h2⟩ := h; exact ⟨(A', c'), trivial, h1, h2⟩)) ?_
  rintro ⟨A30, c30⟩ -
  dsimp only [List.cons_append, List.nil_append]
  refine lst_move rfl rfl ?_
  refine lst_extract rfl rfl rfl ?_
  refine lst_extract rfl rfl rfl ?_
  refine lst_assign rfl rfl ?_
  refine lst_assign rfl rfl ?_
  refine lst_nil ?_
  refine ex_then ?_
  refine cod_seq ?_
  refine cod_region ?_
  refine lst_less (fr' := [(4, .slice A29 0 c29), (5, .int .i64 0), (6, .slice A30 0 c30), (7, .int .i64 0)]) (hp' := [.row 3 1 A30 0 c30 (ints []), .row 3 1 A29 0 c29 (ints [])]) sbn sbl ?_
  refine lst_fn (X := Option Addr × Nat) (vs := [_, _]) (p := fun _ => True) (val := fun y => .tuple #[.slice y.1 32 y.2, .int .i64 0]) (rs := fun y => [.row 3 1 y.1 32 y.2 (ints hope62)]) rfl rfl F.ent51 (fun a w ha => (kHope [] nOks 62 (by decide) hope62 ex_hopeN none 0 w (fun h => absurd h (by decide))).mono (fun e w' h => by obtain ⟨A', c', h1, h2⟩ := h; exact ⟨(A', c'), trivial, h1, h2⟩)) ?_
  rintro ⟨A31, c31⟩ -
  dsimp only [List.cons_append, List.nil_append]
  refine lst_move rfl rfl ?_
  refine lst_extract rfl rfl rfl ?_
  refine lst_extract rfl rfl rfl ?_
  refine lst_assign rfl rfl ?_
  refine lst_assign rfl rfl ?_
  refine lst_nil ?_
  refine ex_then ?_
  refine cod_seq ?_
  refine cod_region ?_
  refine lst_less (fr' := [(4, .slice A29 0 c29), (5, .int .i64 0), (6, .slice A30 0 c30), (7, .int .i64 0), (8, .slice A31 32 c31), (9, .int .i64 0)]) (hp' := [.row 3 1 A31 32 c31 (ints hope62), .row 3 1 A30 0 c30 (ints []), .row 3 1 A29 0 c29 (ints [])]) sbn sbl ?_
  refine lst_fn (X := Nat) (vs := []) (p := fun _ => True) (val := fun b => .slice (some ⟨b, 0, none⟩) 4 4) (rs := fun b => [.blk b (.cells ((sAgs.flatMap Ag.cells) : List Value).toArray 24 (0, 0))]) rfl rfl F.ent71 (fun a w ha => (s_c w).mono (fun e w' h => by obtain ⟨b, h1, h2⟩ := h; exact ⟨b, trivial, h1, h2⟩)) ?_
  intro s32_0 _
  dsimp only [List.cons_append, List.nil_append]
  refine lst_fn (X := Option Addr × Nat) (vs := [_, _]) (p := fun _ => True) (val := fun y => .tuple #[.slice y.1 3 y.2, .int .i64 0]) (rs := fun y => [.row 3 1 y.1 3 y.2 (ints [0, 1, 2])]) rfl rfl F.ent67 (fun a w ha => (kFew (some ⟨s32_0, 0, none⟩) 4 w (blk_reads ha (cells := Ag.cells) (size := 5) (b := s32_0) (l := sAgs) (fun _ => rfl) rfl)).mono (fun e w' h => by obtain ⟨A', c', h1, h2⟩ := h; exact ⟨(A', c'), trivial, h1, h2⟩)) ?_
  rintro ⟨A32, c32⟩ -
  dsimp only [List.cons_append, List.nil_append]
  refine lst_move rfl rfl ?_
  refine lst_extract rfl rfl rfl ?_
  refine lst_extract rfl rfl rfl ?_
  refine lst_assign rfl rfl ?_
  refine lst_assign rfl rfl ?_
  refine lst_nil ?_
  refine ex_then ?_
  refine cod_seq ?_
  refine cod_seq ?_
  refine cod_region ?_
  refine lst_less (fr' := [(4, .slice A29 0 c29), (5, .int .i64 0), (6, .slice A30 0 c30), (7, .int .i64 0), (8, .slice A31 32 c31), (9, .int .i64 0), (11, .int .i64 0), (16, .slice A32 3 c32)]) (hp' := [.row 3 1 A32 3 c32 (ints [0, 1, 2]), .row 3 1 A31 32 c31 (ints hope62), .row 3 1 A30 0 c30 (ints []), .row 3 1 A29 0 c29 (ints [])]) sbn sbl ?_
  refine lst_move rfl rfl ?_
  refine lst_int rfl rfl rfl bin_neq ?_
  refine lst_move rfl rfl ?_
  refine lst_on rfl rfl ?_
  refine lst_move rfl rfl ?_
  refine lst_on rfl rfl ?_
  refine lst_int rfl rfl rfl bin_neq ?_
  refine lst_pick_false rfl rfl rfl ?_
  refine lst_move rfl rfl ?_
  refine lst_on rfl rfl ?_
  refine lst_move rfl rfl ?_
  refine lst_on rfl rfl ?_
  refine lst_int rfl rfl rfl bin_neq ?_
  refine lst_pick_false rfl rfl rfl ?_
  refine lst_move rfl rfl ?_
  refine lst_on rfl rfl ?_
  refine lst_move rfl rfl ?_
  refine lst_on rfl rfl ?_
  refine lst_int rfl rfl rfl bin_neq ?_
  refine lst_pick_false rfl rfl rfl ?_
  refine lst_move rfl rfl ?_
  refine lst_on rfl rfl ?_
  refine lst_move rfl rfl ?_
  refine lst_on rfl rfl ?_
  refine lst_len rfl rfl Tryd.underlying25 ?_
  refine lst_on rfl rfl ?_
  refine lst_move rfl rfl ?_
  refine lst_on rfl rfl ?_
  refine lst_len rfl rfl Tryd.underlying25 ?_
  refine lst_on rfl rfl ?_
  refine lst_int rfl rfl rfl (fun w => bin_add w (wrap_i64' _ (by omega) (by omega))) ?_
  refine lst_on rfl rfl ?_
  refine lst_int rfl rfl rfl bin_gtr ?_
  refine lst_pick_false rfl rfl rfl ?_
  refine lst_move rfl rfl ?_
  refine lst_on rfl rfl ?_
  refine lst_move rfl rfl ?_
  refine lst_on rfl rfl ?_
  refine lst_len rfl rfl Tryd.underlying25 ?_
  refine lst_on rfl rfl ?_
  refine lst_int rfl rfl rfl bin_neq ?_
  refine lst_pick_false rfl rfl rfl ?_
  refine lst_move rfl rfl ?_
  refine lst_on rfl rfl ?_
  refine lst_move rfl rfl ?_
  refine lst_on rfl rfl ?_
  refine lst_lit (vs := [(0, _), (1, _), (2, _)]) rfl rfl Tryd.underlying25 F.ti3 rfl rfl rfl ?_
  intro b357
  refine lst_on rfl rfl ?_
  refine lst_fn0 (v := .bool true) (vs := [_, _]) rfl rfl F.ent32 (fun a w ha => (eqInts_c A32 (some ⟨b357, 0, none⟩) c32 3 [0, 1, 2] [0, 1, 2] (by decide) w (row_reads ha (cells := icell) (size := 1) (e := 3) (c := c32) (n := 3) (l := [0, 1, 2]) (fun _ => rfl) (InR.mem (A := A32)) rfl) (blk_reads ha (cells := icell) (size := 1) (b := b357) (l := [0, 1, 2]) (fun _ => rfl) rfl)).mono (fun e w' h => h)) ?_
  refine lst_on rfl rfl ?_
  refine lst_not rfl rfl ?_
  refine lst_pick_false rfl rfl rfl ?_
  refine lst_nil ?_
  refine ex_then ?_
  refine cod_cond_false rfl ?_
  refine cod_skip ?_
  refine ex_then ?_
  refine cod_seq ?_
  refine cod_seq ?_
  refine cod_region ?_
  refine lst_less (fr' := [(8, .slice A31 32 c31)]) (hp' := [.row 3 1 A31 32 c31 (ints hope62)]) sbn sbl ?_
  refine lst_assign rfl rfl ?_
  refine lst_nil ?_
  refine ex_then ?_
  refine cod_block ?_
  refine cod_loop' (G := Nat) (fun g => g ≤ 32) (fun g => 32 - g) (fun g => [(8, .slice A31 32 c31), (20, .int .i64 (g : Int))]) (fun g => [.row 3 1 A31 32 c31 (ints hope62)]) (0) (Nat.zero_le _) sbn pkk ?_
  rintro k hkl
  try dsimp only at hkl ⊢
  refine cod_seq ?_
  refine cod_seq ?_
  refine cod_region ?_
  refine lst_move rfl rfl ?_
  refine lst_move rfl rfl ?_
  refine lst_len rfl rfl Tryd.underlying25 ?_
  refine lst_int rfl rfl rfl bin_lss ?_
  refine lst_nil ?_
  refine ex_then ?_
  refine cod_cond_dec rfl (fun hc5 => ?_) (fun hc5 => ?_)
  · skip
    have hk' : k < 32 := by omega
    refine cod_skip ?_
    refine ex_then ?_
    refine cod_seq ?_
    refine cod_block ?_
    refine cod_seq ?_
    refine cod_region ?_
    refine lst_move rfl rfl ?_
    refine lst_move rfl rfl ?_
    refine lst_index_row (j := k) rfl rfl rfl Tryd.underlying25 F.ti3 rfl hk' rfl rfl ?_
    intro gm hgm
    refine lst_load_row (v := .int .i64 ((2 * k + 1 : Nat) : Int)) rfl rfl F.one3 hgm (ints_get (hope_get hk')) ?_
    refine lst_move rfl rfl ?_
    refine lst_int (v := .int .i64 ((2 * k : Nat) : Int)) rfl rfl rfl (fun w => by rw [bin_mul w (r := ((2 * k : Nat) : Int)) (by rw [show (2 : Int) * (k : Int) = ((2 * k : Nat) : Int) from by omega]; exact wrap_i64' _ (by omega) (by omega))]) ?_
    refine lst_int (v := .int .i64 ((2 * k + 1 : Nat) : Int)) rfl rfl rfl (fun w => bin_add w (by rw [wrap_i64' _ (by omega) (by omega)]; omega)) ?_
    refine lst_int (v := .bool false) rfl rfl rfl (fun w => by rw [bin_neq, decide_eq_false (by omega)]) ?_
    refine lst_nil ?_
    refine ex_then ?_
    refine cod_cond_false rfl ?_
    refine cod_skip ?_
    refine ex_block_normal ?_
    refine ex_then ?_
    refine cod_region ?_
    refine lst_move rfl rfl ?_
    refine lst_int rfl rfl rfl (fun w => bin_add w (wrap_i64' _ (by omega) (by omega))) ?_
    refine lst_assign rfl rfl ?_
    refine lst_nil ?_
    refine ex_round' (k + 1) (by (try dsimp only); omega) (by (try dsimp only); omega) sbn pkk
  · skip
    refine cod_exit ?_
    refine ex_then_exit ?_
    refine ex_then_exit ?_
    refine ex_block_exit ?_
    refine ex_then ?_
    refine cod_seq ?_
    refine cod_region ?_
    refine lst_less (fr' := []) (hp' := []) sbn sbl ?_
    refine lst_fn (X := Nat) (vs := []) (p := fun _ => True) (val := fun b => .slice (some ⟨b, 0, none⟩) 4 4) (rs := fun b => [.blk b (.cells ((sAgs.flatMap Ag.cells) : List Value).toArray 24 (0, 0))]) rfl rfl F.ent71 (fun a w ha => (s_c w).mono (fun e w' h => by obtain ⟨b, h1, h2⟩ := h; exact ⟨b, trivial, h1, h2⟩)) ?_
    intro s40_0 _
    dsimp only [List.cons_append, List.nil_append]
    refine lst_lit (vs := [(0, _), (1, _)]) rfl rfl Tryd.underlying25 F.ti3 rfl rfl rfl ?_
    intro b377
    refine lst_fn (X := Option Addr × Nat) (vs := [_, _, _]) (p := fun _ => True) (val := fun y => .tuple #[.slice y.1 0 y.2, .int .i64 11]) (rs := fun y => [.row 3 1 y.1 0 y.2 (ints [])]) rfl rfl F.ent28 (fun a w ha => (kBoth26 (some ⟨s40_0, 0, none⟩) (some ⟨b377, 0, none⟩) 4 2 w (blk_reads ha (cells := Ag.cells) (size := 5) (b := s40_0) (l := sAgs) (fun _ => rfl) rfl) (blk_reads ha (cells := ncell) (size := 1) (b := b377) (l := [2, 6]) (fun _ => rfl) rfl)).mono (fun e w' h => by obtain ⟨A', c', h1, h2⟩ := h; exact ⟨(A', c'), trivial, h1, h2⟩)) ?_
    rintro ⟨A40, c40⟩ -
    dsimp only [List.cons_append, List.nil_append]
    refine lst_move rfl rfl ?_
    refine lst_extract rfl rfl rfl ?_
    refine lst_extract rfl rfl rfl ?_
    refine lst_assign rfl rfl ?_
    refine lst_nil ?_
    refine ex_then ?_
    refine cod_seq ?_
    refine cod_region ?_
    refine lst_less (fr' := [(5, .int .i64 11)]) (hp' := []) sbn sbl ?_
    refine lst_fn (X := Nat) (vs := []) (p := fun _ => True) (val := fun b => .slice (some ⟨b, 0, none⟩) 4 4) (rs := fun b => [.blk b (.cells ((sAgs.flatMap Ag.cells) : List Value).toArray 24 (0, 0))]) rfl rfl F.ent71 (fun a w ha => (s_c w).mono (fun e w' h => by obtain ⟨b, h1, h2⟩ := h; exact ⟨b, trivial, h1, h2⟩)) ?_
    intro s41_0 _
    dsimp only [List.cons_append, List.nil_append]
    refine lst_fn (X := Option Addr × Nat) (vs := [_, _, _]) (p := fun _ => True) (val := fun y => .tuple #[.slice y.1 0 y.2, .int .i64 7]) (rs := fun y => [.row 3 1 y.1 0 y.2 (ints [])]) rfl rfl F.ent28 (fun a w ha => (kBothN (some ⟨s41_0, 0, none⟩) 4 w (blk_reads ha (cells := Ag.cells) (size := 5) (b := s41_0) (l := sAgs) (fun _ => rfl) rfl)).mono (fun e w' h => by obtain ⟨A', c', h1, h2⟩ := h; exact ⟨(A', c'), trivial, h1, h2⟩)) ?_
    rintro ⟨A41, c41⟩ -
    dsimp only [List.cons_append, List.nil_append]
    refine lst_move rfl rfl ?_
    refine lst_extract rfl rfl rfl ?_
    refine lst_extract rfl rfl rfl ?_
    refine lst_assign rfl rfl ?_
    refine lst_nil ?_
    refine ex_then ?_
    refine cod_seq ?_
    refine cod_region ?_
    refine lst_less (fr' := [(5, .int .i64 11), (7, .int .i64 7)]) (hp' := []) sbn sbl ?_
    refine lst_fn (X := Nat) (vs := []) (p := fun _ => True) (val := fun b => .slice (some ⟨b, 0, none⟩) 4 4) (rs := fun b => [.blk b (.cells ((sAgs.flatMap Ag.cells) : List Value).toArray 24 (0, 0))]) rfl rfl F.ent71 (fun a w ha => (s_c w).mono (fun e w' h => by obtain ⟨b, h1, h2⟩ := h; exact ⟨b, trivial, h1, h2⟩)) ?_
    intro s42_0 _
    dsimp only [List.cons_append, List.nil_append]
    refine lst_fn (X := Option Addr × Nat) (vs := [_, _, _]) (p := fun _ => True) (val := fun y => .tuple #[.slice y.1 1 y.2, .int .i64 0]) (rs := fun y => [.row 3 1 y.1 1 y.2 (ints [1])]) rfl rfl F.ent30 (fun a w ha => (kTells13 (some ⟨s42_0, 0, none⟩) 4 w (blk_reads ha (cells := Ag.cells) (size := 5) (b := s42_0) (l := sAgs) (fun _ => rfl) rfl)).mono (fun e w' h => by obtain ⟨A', c', h1, h2⟩ := h; exact ⟨(A', c'), trivial, h1, h2⟩)) ?_
    rintro ⟨A42, c42⟩ -
    dsimp only [List.cons_append, List.nil_append]
    refine lst_move rfl rfl ?_
    refine lst_extract rfl rfl rfl ?_
    refine lst_extract rfl rfl rfl ?_
    refine lst_assign rfl rfl ?_
    refine lst_assign rfl rfl ?_
    refine lst_nil ?_
    refine ex_then ?_
    refine cod_seq ?_
    refine cod_region ?_
    refine lst_less (fr' := [(4, .slice A42 1 c42), (5, .int .i64 11), (7, .int .i64 7), (9, .int .i64 0)]) (hp' := [.row 3 1 A42 1 c42 (ints [1])]) sbn sbl ?_
    refine lst_fn (X := Nat) (vs := []) (p := fun _ => True) (val := fun b => .slice (some ⟨b, 0, none⟩) 4 4) (rs := fun b => [.blk b (.cells ((sAgs.flatMap Ag.cells) : List Value).toArray 24 (0, 0))]) rfl rfl F.ent71 (fun a w ha => (s_c w).mono (fun e w' h => by obtain ⟨b, h1, h2⟩ := h; exact ⟨b, trivial, h1, h2⟩)) ?_
    intro s43_0 _
    dsimp only [List.cons_append, List.nil_append]
    refine lst_fn (X := Option Addr × Nat) (vs := [_, _, _]) (p := fun _ => True) (val := fun y => .tuple #[.slice y.1 0 y.2, .int .i64 11]) (rs := fun y => [.row 3 1 y.1 0 y.2 (ints [])]) rfl rfl F.ent30 (fun a w ha => (kTells55 (some ⟨s43_0, 0, none⟩) 4 w (blk_reads ha (cells := Ag.cells) (size := 5) (b := s43_0) (l := sAgs) (fun _ => rfl) rfl)).mono (fun e w' h => by obtain ⟨A', c', h1, h2⟩ := h; exact ⟨(A', c'), trivial, h1, h2⟩)) ?_
    rintro ⟨A43, c43⟩ -
    dsimp only [List.cons_append, List.nil_append]
    refine lst_move rfl rfl ?_
    refine lst_extract rfl rfl rfl ?_
    refine lst_extract rfl rfl rfl ?_
    refine lst_assign rfl rfl ?_
    refine lst_nil ?_
    refine ex_then ?_
    refine cod_seq ?_
    refine cod_region ?_
    refine lst_less (fr' := [(4, .slice A42 1 c42), (5, .int .i64 11), (7, .int .i64 7), (9, .int .i64 0), (11, .int .i64 11)]) (hp' := [.row 3 1 A42 1 c42 (ints [1])]) sbn sbl ?_
    refine lst_move rfl rfl ?_
    refine lst_int rfl rfl rfl bin_eql ?_
    refine lst_move rfl rfl ?_
    refine lst_on rfl rfl ?_
    refine lst_move rfl rfl ?_
    refine lst_on rfl rfl ?_
    refine lst_int rfl rfl rfl bin_eql ?_
    refine lst_pick_true rfl rfl rfl ?_
    refine lst_move rfl rfl ?_
    refine lst_on rfl rfl ?_
    refine lst_move rfl rfl ?_
    refine lst_on rfl rfl ?_
    refine lst_int rfl rfl rfl bin_eql ?_
    refine lst_pick_true rfl rfl rfl ?_
    refine lst_move rfl rfl ?_
    refine lst_on rfl rfl ?_
    refine lst_move rfl rfl ?_
    refine lst_on rfl rfl ?_
    refine lst_int rfl rfl rfl bin_eql ?_
    refine lst_pick_true rfl rfl rfl ?_
    refine lst_move rfl rfl ?_
    refine lst_on rfl rfl ?_
    refine lst_move rfl rfl ?_
    refine lst_on rfl rfl ?_
    refine lst_lit (vs := [(0, _)]) rfl rfl Tryd.underlying25 F.ti3 rfl rfl rfl ?_
    intro b412
    refine lst_on rfl rfl ?_
    refine lst_fn0 (v := .bool true) (vs := [_, _]) rfl rfl F.ent32 (fun a w ha => (eqInts_c A42 (some ⟨b412, 0, none⟩) c42 1 [1] [1] (by decide) w (row_reads ha (cells := icell) (size := 1) (e := 3) (c := c42) (n := 1) (l := [1]) (fun _ => rfl) (InR.mem (A := A42)) rfl) (blk_reads ha (cells := icell) (size := 1) (b := b412) (l := [1]) (fun _ => rfl) rfl)).mono (fun e w' h => h)) ?_
    refine lst_pick_true rfl rfl rfl ?_
    refine lst_assign rfl rfl ?_
    refine lst_nil ?_
    refine ex_then ?_
    refine cod_ret ?_
    exact ex_ret rfl (fun a w ha => res_one rfl rfl ha) (fun a w ha => ⟨rfl, ha.grown (List.nil_sublist _)⟩)

end Go.Proofs.YtofkhehcnfiopaaDoor.N
/- What rows of laws about numbers share that start goroutines: the laid world, and the law from its call in company. -/
namespace Go.Proofs.YtofkhehcnfiopaaDoor.N
open Go Go.ChangeShapes Go.WideShapes Go.ChangeAt Go.RowKit Go.Proofs Go.Proofs.YtofkhehcnfiopaaDoor Go.Proofs.YtofkhehcnfiopaaDoor.Rows
set_option linter.unusedSectionVars false
theorem own_ : ownKnob Tryd.prog.godebug = Option.none := by kernel_rfl
theorem laidOut_ : laidOutB Tryd.prog = true := by kernel_rfl
theorem und4_ : Tryd.prog.underlying 4 = some .bool := by kernel_rfl
def laidL : List (String × DataW Unit) := [("errors.errorType", laid_errors_errorType)]
/-- The settled world, with the one listed variable laid. -/
noncomputable def laidWorld (os : Os) : World :=
  let w0 := World.holding Tryd.prog os ⟨#[], #[], []⟩
  { w0 with heap := w0.heap.modify 0 fun
      | .cells _ t frozen => .cells #[.iface 166 (.agg #[.pointer (some ⟨1, 107, Option.none⟩)])] t frozen
      | o => o }
theorem laidWorld_met (os : Os) (args : Array Value) : laidMetH Tryd.prog laidL ((laidWorld os).forCall (fun _ _ => 0) ⟨#[], args, []⟩).memory :=
  laidMetH_of_parts (laidMet_nil _ _) (by kernel_rfl)
theorem rdy_seen (W : World) : @Rdy (mSys Tryd.prog (Kf W.heap.size)) (rea_main W.heap.size) (seenW W) := ⟨by show W.heap.size ≤ (seenW W).heap.size; simp [seenW], rfl⟩
/-! What the listed variable holds. -/
theorem et_ : Tryd.prog.globalNamed "errors.errorType" = some 0 := by kernel_rfl
theorem rt_ : (Tryd.prog.cutTypes.find? (·.1 == "internal/reflectlite.rtype")).map (·.2) = some 166 := by kernel_rfl
set_option maxRecDepth 100000 in
theorem oneRow_ : ((List.range 208).filter fun t => Tryd.prog.rowNamed t [101, 114, 114, 111, 114]) = [107] := by kernel_rfl
theorem tsize_ : Tryd.prog.types.size = 208 := by kernel_rfl
theorem handle_of_laid {W : World} (h : laidMetH Tryd.prog laidL W) : W.cell? ⟨0, 0, Option.none⟩ = some (.iface 166 (.agg #[.pointer (some ⟨1, 107, Option.none⟩)])) := by
  have h' : laidMet Tryd.prog [] W ∧ handlesMet Tryd.prog laidL W := h
  obtain ⟨name, u, ty, e1, e2, e3, e4, e5⟩ := h'.2 _ (List.mem_singleton.2 rfl)
  have en : name = [101, 114, 114, 111, 114] := (Option.some.inj e1).symm
  subst en
  obtain rfl := Option.some.inj (rt_.symm.trans e2)
  have hm : ty ∈ (List.range 208).filter fun t => Tryd.prog.rowNamed t [101, 114, 114, 111, 114] := List.mem_filter.2 ⟨List.mem_range.2 (by rw [← tsize_]; exact e3), e4⟩
  rw [oneRow_] at hm
  obtain rfl := List.mem_singleton.1 hm
  have hh : typeHandle Tryd.prog 107 = .pointer (some ⟨1, 107, Option.none⟩) := by kernel_rfl
  rw [hh] at e5
  simpa using World.var?_cell et_ e5 0
/-! The program's order of start-up, letter by letter: what is said of it is then soon shown. -/
def orderN : List Nat := [104, 97, 114, 110, 101, 115, 115, 32, 52, 51, 55, 51, 50, 49, 102, 55, 48, 48, 50, 49, 100, 55, 53, 49, 98, 55, 102, 54, 57, 52, 102, 101, 54, 102, 52, 54, 99, 48, 98, 99, 101, 56, 49, 49, 56, 98, 100, 51, 55, 102, 52, 101, 52, 49, 49, 99, 97, 53, 99, 100, 55, 50, 51, 98, 48, 101, 48, 53, 57, 50, 100, 98, 32, 99, 117, 116, 32, 97, 116, 32, 109, 117, 115, 99, 111, 118, 97, 100, 111, 47, 109, 117, 115, 99, 111, 118, 97, 100, 111, 108, 97, 119, 48, 57, 46, 70, 105, 110, 105, 110, 103, 66, 111, 116, 104, 115, 32, 109, 117, 115, 99, 111, 118, 97, 100, 111, 47, 109, 117, 115, 99, 111, 118, 97, 100, 111, 108, 97, 119, 48, 57, 46, 70, 105, 110, 105, 110, 103, 67, 104, 101, 97, 112, 101, 115, 116, 32, 109, 117, 115, 99, 111, 118, 97, 100, 111, 47, 109, 117, 115, 99, 111, 118, 97, 100, 111, 108, 97, 119, 48, 57, 46, 70, 105, 110, 105, 110, 103, 66, 111, 116, 104, 32, 109, 117, 115, 99, 111, 118, 97, 100, 111, 47, 109, 117, 115, 99, 111, 118, 97, 100, 111, 108, 97, 119, 48, 57, 46, 70, 105, 110, 105, 110, 103, 84, 101, 108, 108, 115, 32, 109, 117, 115, 99, 111, 118, 97, 100, 111, 47, 109, 117, 115, 99, 111, 118, 97, 100, 111, 108, 97, 119, 48, 57, 46, 70, 105, 110, 105, 110, 103, 80, 117, 116, 32, 109, 117, 115, 99, 111, 118, 97, 100, 111, 47, 109, 117, 115, 99, 111, 118, 97, 100, 111, 108, 97, 119, 48, 57, 46, 70, 105, 110, 105, 110, 103, 80, 117, 116, 115, 32, 109, 117, 115, 99, 111, 118, 97, 100, 111, 47, 109, 117, 115, 99, 111, 118, 97, 100, 111, 108, 97, 119, 48, 57, 46, 70, 105, 110, 105, 110, 103, 77, 111, 114, 101, 32, 109, 117, 115, 99, 111, 118, 97, 100, 111, 47, 109, 117, 115, 99, 111, 118, 97, 100, 111, 108, 97, 119, 48, 57, 46, 70, 105, 110, 105, 110, 103, 78, 117, 109, 98, 101, 114, 101, 100, 32, 109, 117, 115, 99, 111, 118, 97, 100, 111, 47, 109, 117, 115, 99, 111, 118, 97, 100, 111, 108, 97, 119, 48, 57, 46, 70, 105, 110, 105, 110, 103, 78, 101, 101, 100, 115, 32, 109, 117, 115, 99, 111, 118, 97, 100, 111, 47, 109, 117, 115, 99, 111, 118, 97, 100, 111, 108, 97, 119, 48, 57, 46, 70, 105, 110, 105, 110, 103, 78, 101, 101, 100, 101, 100, 32, 109, 117, 115, 99, 111, 118, 97, 100, 111, 47, 109, 117, 115, 99, 111, 118, 97, 100, 111, 108, 97, 119, 48, 57, 46, 70, 105, 110, 105, 110, 103, 87, 97, 121, 115, 32, 109, 117, 115, 99, 111, 118, 97, 100, 111, 47, 109, 117, 115, 99, 111, 118, 97, 100, 111, 108, 97, 119, 48, 57, 46, 70, 105, 110, 105, 110, 103, 82, 101, 97, 99, 104, 32, 109, 117, 115, 99, 111, 118, 97, 100, 111, 47, 109, 117, 115, 99, 111, 118, 97, 100, 111, 108, 97, 119, 48, 57, 46, 70, 105, 110, 105, 110, 103, 83, 104, 111, 114, 116, 101, 115, 116, 32, 109, 117, 115, 99, 111, 118, 97, 100, 111, 47, 109, 117, 115, 99, 111, 118, 97, 100, 111, 108, 97, 119, 48, 57, 46, 70, 105, 110, 105, 110, 103, 72, 111, 112, 101, 108, 101, 115, 115, 32, 109, 117, 115, 99, 111, 118, 97, 100, 111, 47, 109, 117, 115, 99, 111, 118, 97, 100, 111, 108, 97, 119, 48, 57, 46, 70, 105, 110, 105, 110, 103, 70, 97, 117, 108, 116, 115, 32, 109, 117, 115, 99, 111, 118, 97, 100, 111, 47, 109, 117, 115, 99, 111, 118, 97, 100, 111, 108, 97, 119, 48, 57, 46, 70, 105, 110, 105, 110, 103, 72, 111, 112, 101, 115, 32, 109, 117, 115, 99, 111, 118, 97, 100, 111, 47, 109, 117, 115, 99, 111, 118, 97, 100, 111, 108, 97, 119, 48, 57, 46, 70, 105, 110, 105, 110, 103, 70, 101, 119, 101, 115, 116, 32, 109, 117, 115, 99, 111, 118, 97, 100, 111, 47, 109, 117, 115, 99, 111, 118, 97, 100, 111, 108, 97, 119, 48, 57, 46, 70, 105, 110, 105, 110, 103, 75, 110, 111, 119, 110]
def wordsN : List (List Nat) := [[104, 97, 114, 110, 101, 115, 115], [52, 51, 55, 51, 50, 49, 102, 55, 48, 48, 50, 49, 100, 55, 53, 49, 98, 55, 102, 54, 57, 52, 102, 101, 54, 102, 52, 54, 99, 48, 98, 99, 101, 56, 49, 49, 56, 98, 100, 51, 55, 102, 52, 101, 52, 49, 49, 99, 97, 53, 99, 100, 55, 50, 51, 98, 48, 101, 48, 53, 57, 50, 100, 98], [99, 117, 116], [97, 116], [109, 117, 115, 99, 111, 118, 97, 100, 111, 47, 109, 117, 115, 99, 111, 118, 97, 100, 111, 108, 97, 119, 48, 57, 46, 70, 105, 110, 105, 110, 103, 66, 111, 116, 104, 115], [109, 117, 115, 99, 111, 118, 97, 100, 111, 47, 109, 117, 115, 99, 111, 118, 97, 100, 111, 108, 97, 119, 48, 57, 46, 70, 105, 110, 105, 110, 103, 67, 104, 101, 97, 112, 101, 115, 116], [109, 117, 115, 99, 111, 118, 97, 100, 111, 47, 109, 117, 115, 99, 111, 118, 97, 100, 111, 108, 97, 119, 48, 57, 46, 70, 105, 110, 105, 110, 103, 66, 111, 116, 104], [109, 117, 115, 99, 111, 118, 97, 100, 111, 47, 109, 117, 115, 99, 111, 118, 97, 100, 111, 108, 97, 119, 48, 57, 46, 70, 105, 110, 105, 110, 103, 84, 101, 108, 108, 115], [109, 117, 115, 99, 111, 118, 97, 100, 111, 47, 109, 117, 115, 99, 111, 118, 97, 100, 111, 108, 97, 119, 48, 57, 46, 70, 105, 110, 105, 110, 103, 80, 117, 116], [109, 117, 115, 99, 111, 118, 97, 100, 111, 47, 109, 117, 115, 99, 111, 118, 97, 100, 111, 108, 97, 119, 48, 57, 46, 70, 105, 110, 105, 110, 103, 80, 117, 116, 115], [109, 117, 115, 99, 111, 118, 97, 100, 111, 47, 109, 117, 115, 99, 111, 118, 97, 100, 111, 108, 97, 119, 48, 57, 46, 70, 105, 110, 105, 110, 103, 77, 111, 114, 101], [109, 117, 115, 99, 111, 118, 97, 100, 111, 47, 109, 117, 115, 99, 111, 118, 97, 100, 111, 108, 97, 119, 48, 57, 46, 70, 105, 110, 105, 110, 103, 78, 117, 109, 98, 101, 114, 101, 100], [109, 117, 115, 99, 111, 118, 97, 100, 111, 47, 109, 117, 115, 99, 111, 118, 97, 100, 111, 108, 97, 119, 48, 57, 46, 70, 105, 110, 105, 110, 103, 78, 101, 101, 100, 115], [109, 117, 115, 99, 111, 118, 97, 100, 111, 47, 109, 117, 115, 99, 111, 118, 97, 100, 111, 108, 97, 119, 48, 57, 46, 70, 105, 110, 105, 110, 103, 78, 101, 101, 100, 101, 100], [109, 117, 115, 99, 111, 118, 97, 100, 111, 47, 109, 117, 115, 99, 111, 118, 97, 100, 111, 108, 97, 119, 48, 57, 46, 70, 105, 110, 105, 110, 103, 87, 97, 121, 115], [109, 117, 115, 99, 111, 118, 97, 100, 111, 47, 109, 117, 115, 99, 111, 118, 97, 100, 111, 108, 97, 119, 48, 57, 46, 70, 105, 110, 105, 110, 103, 82, 101, 97, 99, 104], [109, 117, 115, 99, 111, 118, 97, 100, 111, 47, 109, 117, 115, 99, 111, 118, 97, 100, 111, 108, 97, 119, 48, 57, 46, 70, 105, 110, 105, 110, 103, 83, 104, 111, 114, 116, 101, 115, 116], [109, 117, 115, 99, 111, 118, 97, 100, 111, 47, 109, 117, 115, 99, 111, 118, 97, 100, 111, 108, 97, 119, 48, 57, 46, 70, 105, 110, 105, 110, 103, 72, 111, 112, 101, 108, 101, 115, 115], [109, 117, 115, 99, 111, 118, 97, 100, 111, 47, 109, 117, 115, 99, 111, 118, 97, 100, 111, 108, 97, 119, 48, 57, 46, 70, 105, 110, 105, 110, 103, 70, 97, 117, 108, 116, 115], [109, 117, 115, 99, 111, 118, 97, 100, 111, 47, 109, 117, 115, 99, 111, 118, 97, 100, 111, 108, 97, 119, 48, 57, 46, 70, 105, 110, 105, 110, 103, 72, 111, 112, 101, 115], [109, 117, 115, 99, 111, 118, 97, 100, 111, 47, 109, 117, 115, 99, 111, 118, 97, 100, 111, 108, 97, 119, 48, 57, 46, 70, 105, 110, 105, 110, 103, 70, 101, 119, 101, 115, 116], [109, 117, 115, 99, 111, 118, 97, 100, 111, 47, 109, 117, 115, 99, 111, 118, 97, 100, 111, 108, 97, 119, 48, 57, 46, 70, 105, 110, 105, 110, 103, 75, 110, 111, 119, 110]]
set_option maxRecDepth 100000 in
theorem order_ : Tryd.prog.initOrder = String.ofList (orderN.map Char.ofNat) := by kernel_rfl
theorem orderL_ : Tryd.prog.initOrder.toList = orderN.map Char.ofNat := by rw [order_, String.toList_ofList]
def wordN (k : Nat) : List Char := (wordsN.getD k []).map Char.ofNat
def wordR : List (List Char) := (wordsN.drop 3).map (·.map Char.ofNat)
set_option maxRecDepth 100000 in
theorem words0_ : wordsSigns Tryd.prog.initOrder.toList = wordN 0 :: wordN 1 :: wordN 2 :: wordR := by
  rw [orderL_]
  kernel_rfl
theorem behind_of {a b : List Char} {r : List (List Char)} (h1 : (a == "harness".toList || a == "ownmain".toList) = true) (h2 : isSumSigns b = true) : behindMainWord (a :: b :: r) = r := by
  unfold behindMainWord
  dsimp only
  rw [h1, h2]
  rfl
theorem words_ : behindMainWord (wordsSigns Tryd.prog.initOrder.toList) = wordN 2 :: wordR := by
  rw [words0_]
  exact behind_of (by kernel_rfl) (by kernel_rfl)
theorem make_of {P : Program} {c : List Char} {rest : List (List Char)} (h : behindMainWord (wordsSigns P.initOrder.toList) = c :: rest) (h1 : (c == "gc".toList || c == "spec".toList) = false) (h2 : (c == "cut".toList) = true) : P.make = some .cut := by
  unfold Program.make
  rw [h]
  dsimp only
  rw [h1, h2]
  rfl
theorem may_of {P : Program} {c : List Char} {rest : List (List Char)} (h : behindMainWord (wordsSigns P.initOrder.toList) = c :: rest) (h1 : (stripLifts liftWords (c :: rest)).1 = []) (h2 : ((stripLifts liftWords (c :: rest)).2.head? == some "cut".toList) = true) (h3 : P.laysLater = false) (h4 : P.bearsReflect = false) (h5 : P.doorFits [] = true) : P.mayEnter = true := by
  unfold Program.mayEnter
  rw [h]
  dsimp only
  rw [h1, h2, h3, h4, h5]
  simp
theorem lifts_of {P : Program} {c : List Char} {rest : List (List Char)} (h : behindMainWord (wordsSigns P.initOrder.toList) = c :: rest) (h1 : (stripLifts liftWords (c :: rest)).1 = []) (h2 : (c == "carried".toList) = false) : P.liftsFinal = false := by
  have e : (some c == some "carried".toList) = false := h2
  unfold Program.liftsFinal Program.headLifts
  dsimp only
  rw [h, h1, List.head?_cons, e]
  simp
theorem main_of {P : Program} {a b : List Char} {r : List (List Char)} {s : String} (h : wordsSigns P.initOrder.toList = a :: b :: r) (h1 : isSumSigns b = true) (h2 : (a == "harness".toList) = true) (h3 : s = String.ofList b) : P.mainIs = some (true, s.toList) := by
  unfold Program.mainIs
  rw [h]
  dsimp only
  rw [h1, h2, h3]
  simp [String.toList_ofList]
theorem word_lifts : (stripLifts liftWords (wordN 2 :: wordR)).1 = [] := by kernel_rfl
set_option maxRecDepth 100000 in
theorem make_ : Tryd.prog.make = some .cut := make_of words_ (by kernel_rfl) (by kernel_rfl)
set_option maxRecDepth 100000 in
theorem lifts_ : Tryd.prog.liftsFinal = false := lifts_of words_ word_lifts (by kernel_rfl)
set_option maxRecDepth 100000 in
theorem main_ : Tryd.prog.mainIs = some (true, "437321f70021d751b7f694fe6f46c0bce8118bd37f4e411ca5cd723b0e0592db".toList) := main_of words0_ (by kernel_rfl) (by kernel_rfl) (by kernel_rfl)
set_option maxRecDepth 100000 in
theorem laysLater_ : Tryd.prog.laysLater = false := by kernel_rfl
set_option maxRecDepth 100000 in
theorem bearsReflect_ : Tryd.prog.bearsReflect = false := by kernel_rfl
set_option maxRecDepth 100000 in
theorem door_ : Tryd.prog.doorFits [] = true := by kernel_rfl
set_option maxRecDepth 100000 in
theorem may_ : Tryd.prog.mayEnter = true := may_of words_ word_lifts (by kernel_rfl) laysLater_ bearsReflect_ door_
set_option maxRecDepth 100000 in
theorem mapsRowed_ : mapsRowed Tryd.prog = true := by kernel_rfl
set_option maxRecDepth 100000 in
theorem plainKeys_ : Tryd.prog.plainKeys = false := by kernel_rfl
set_option maxRecDepth 100000 in
theorem stopsHeard_ : Tryd.prog.stopsHeard = true := by kernel_rfl
set_option maxRecDepth 100000 in
theorem looks_ : Tryd.prog.looks [] = true := by kernel_rfl
/-- A tied card whose calls can start goroutines. -/
theorem holds_tied_goes (Lk : Looks) {p : Pinned} {s : OpenSpec} {c : OpenClaim} (kinds : List LaidKind) (tests : Bool) (har : Bool × String) (lk g : Bool)
    (hc : c.holds p s) (hw : c.wfByText s = true) (htie : c.laidByTextAt Lk p kinds tests)
    (hst : c.start = .entering) (hnb : c.noBlocks = false ∧ c.again = false) (hm : p.checked.prog.mainIs = some (har.1, har.2.toList)) (hn : (!har.1 && har.2.isEmpty && !lk) = false)
    (hl : ∀ f fn, p.checked.prog.funcNamed c.func = some f → p.checked.prog.funcs[f]? = some fn → lk = p.checked.prog.looks [] ∧ ∀ (j : Nat) t, fn.params[j]? = some t → p.checked.prog.wantsStandIn t = false)
    (hg : g = c.goesBy p.checked.prog) :
    Claim7.holds p (.plain s) { stood := { row := c, standIns := [], harness := har, looks := lk }, kinds := [], alts := [], goes := g, laidByText := true, laidKinds := kinds, laidTests := tests, laidLooks := Lk } := by
  have h6 : ∀ r : OpenClaim, Claim7.isSixth { stood := { row := r, standIns := [], harness := har, looks := lk }, kinds := [] } = false := fun r => by simpa [Claim7.isSixth] using hn
  refine ⟨Claim7.tied_new_at Lk kinds tests (Claim7.new_of_sixth hc har lk hst hnb hm (h6 c) hl) hw, fun D hD => ?_, htie, (fun h => by cases h), hg⟩
  cases hD
end Go.Proofs.YtofkhehcnfiopaaDoor.N
namespace Go.Proofs.YtofkhehcnfiopaaDoor.N
open Go Go.ChangeShapes Go.WideShapes Go.ChangeAt Go.RowKit Go.Proofs Go.Proofs.YtofkhehcnfiopaaDoor Go.Proofs.YtofkhehcnfiopaaDoor.Rows
set_option linter.unusedSectionVars false
/-- A law without arguments, from its call in company. -/
theorem none_contractV {H : Type} {enc : TypeId × Value → H} {f : FuncId} {fn : Func} {s : ChangeSpec} (hp : fn.params = #[]) (hr : fn.resultTypes = #[4]) (hs : s.vars = []) (hfn : s.fn H [] = { results := [.lit (.bool true)], args := [] })
    (W : World) (law : @Calls Tryd.prog (mSys Tryd.prog (Kf W.heap.size)) f #[] (seenW W) fun e w' => e = .returned (.bool true) ∧ Grew (seenW W) w' [])
    (base : Nat) (args : Array Value) (ds gs : List (DataW H)) (before : List MemPlace)
    (_hval : ∀ (j : Nat) t v, fn.params[j]? = some t → args[j]? = some v → Value.okWide Tryd.prog W .any base t v)
    (hW : DataW.Whole enc Tryd.prog fn.params.toList s.vars false W args.toList ds gs before) :
    ∃ K : Prot, K.low = W.heap.size ∧ @Calls Tryd.prog (mSys Tryd.prog K) f args (seenW W) fun e v' => ∃ x, e = .returned x ∧ Below (seenW W).heap.size (seenW W) v' ∧ ∀ W', Below W.heap.size W W' → s.post enc Tryd.prog fn false true false false W args x W' := by
  refine ⟨Kf W.heap.size, rfl, ?_⟩
  have hW' := hW
  obtain ⟨p, q, hA, hV, rfl, _, _⟩ := hW
  rw [hs] at hV
  rw [hp] at hA
  obtain ⟨rfl, rfl, rfl⟩ := trodAll_none hA
  obtain ⟨rfl, rfl⟩ := trodVars_none hV
  simp only [List.append_nil] at hW'
  refine @Calls.mono _ (mSys Tryd.prog (Kf W.heap.size)) _ _ _ _ _ law fun e v' ⟨he, hg⟩ => ⟨_, he, hg.1, fun W' hb => ?_⟩
  refine ⟨_, _, _, [], [], [], hW', ?_, ?_, ?_, hb.frame _, fun h => Bool.noConfusion h⟩
  · rw [show s.fn H ([] ++ []) = _ from hfn, hr]; exact trodAll_mk1 (shut_bool und4_ true)
  · rw [show s.fn H ([] ++ []) = _ from hfn, hp]; exact trodAll_mk0
  · rw [show s.fn H ([] ++ []) = _ from hfn, hs]; rfl
end Go.Proofs.YtofkhehcnfiopaaDoor.N
