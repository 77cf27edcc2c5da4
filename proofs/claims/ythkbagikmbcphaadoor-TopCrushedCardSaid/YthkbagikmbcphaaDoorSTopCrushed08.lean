/- Parts of the walk of the law TopCrushed: T20, TopZ. -/
import Derived.Test.YthkbagikmbcphaaDoorSTopCrushed07
import Derived.Test.YthkbagikmbcphaaDoorProg
import Derived.Test.YthkbagikmbcphaaDoorSTopCrushed00
import Derived.Test.YthkbagikmbcphaaDoorSTopCrushed01
namespace Go.Proofs.YthkbagikmbcphaaDoor.N
open Go Go.RowKit Go.Proofs
theorem F.ent24 : Enters Tryd.prog 24 := enters_of Tryd.func24 rfl (by kernel_rfl)
theorem F.ent25 : Enters Tryd.prog 25 := enters_of Tryd.func25 rfl (by kernel_rfl)
theorem F.ent26 : Enters Tryd.prog 26 := enters_of Tryd.func26 rfl (by kernel_rfl)
theorem F.ent28 : Enters Tryd.prog 28 := enters_of Tryd.func28 rfl (by kernel_rfl)
theorem F.ent40 : Enters Tryd.prog 40 := enters_of Tryd.func40 rfl (by kernel_rfl)
theorem F.ent41 : Enters Tryd.prog 41 := enters_of Tryd.func41 rfl (by kernel_rfl)
theorem F.ent42 : Enters Tryd.prog 42 := enters_of Tryd.func42 rfl (by kernel_rfl)
theorem F.ent46 : Enters Tryd.prog 46 := enters_of Tryd.func46 rfl (by kernel_rfl)
theorem F.fi111_1 : FI Tryd.prog 111 1 86 1 := ⟨_, _, Tryd.underlying111, rfl, rfl, rfl⟩
theorem F.fi111_2 : FI Tryd.prog 111 2 3 4 := ⟨_, _, Tryd.underlying111, rfl, rfl, rfl⟩
theorem F.fi111_4 : FI Tryd.prog 111 4 4 6 := ⟨_, _, Tryd.underlying111, rfl, rfl, rfl⟩
theorem F.pl40 : Places Tryd.prog 40 [(0, 1), (1, 1), (2, 1), (3, 1)] := .inl ⟨_, Tryd.underlying40, by kernel_rfl⟩
theorem F.pl75 : Places Tryd.prog 75 [(0, 1), (1, 1), (2, 1), (3, 1)] := .inl ⟨_, Tryd.underlying75, by kernel_rfl⟩
theorem Crush_y (l : List Nat) (lA : Option Addr) (lc Lb Sb Wb st p : Nat) (A : Option Addr) (c : Nat) (hge : p ≤ st * sumN l) (w : World) (hM : SawM w l lA lc Lb Sb Wb st p) (hA : RdL ncell 1 w A [0]) : Calls Tryd.prog 25 #[.agg [.slice (some ⟨Lb, 0, none⟩) 1 1, .slice (some ⟨Sb, 0, none⟩) 1 1, .int .i64 1, .slice (some ⟨Wb, 0, none⟩) 1 1].toArray, .slice A 1 c] w fun e w' => ∃ (A' : Option Addr) (c' : Nat), e = .returned (.tuple #[.slice A' 1 c', .int .i64 (st : Int), .int .i64 0]) ∧ Grew w w' [.row 3 1 A' 1 c' (ints [st])] := by
  refine enter (N := 40) [(0, .agg [.slice (some ⟨Lb, 0, none⟩) 1 1, .slice (some ⟨Sb, 0, none⟩) 1 1, .int .i64 1, .slice (some ⟨Wb, 0, none⟩) 1 1].toArray), (1, .slice A 1 c)] Tryd.func25 rfl Tryd.ntmps25 rfl rfl ?_
  refine cod_seq ?_
  refine cod_region ?_
  refine lst_box rfl rfl ?_
  intro b2
  refine lst_assign rfl rfl ?_
  refine lst_assign rfl rfl ?_
  refine lst_assign rfl rfl ?_
  refine lst_nil ?_
  refine ex_then ?_
  refine cod_seq ?_
  refine cod_region ?_
  refine lst_loadN rfl rfl F.agg40 F.ti40 ?_
  refine lst_fn0 (vs := [_, _, _]) rfl rfl F.ent24 (fun a w ha => sopen_c l lA lc Lb Sb Wb st p w (hM.later ha.below)) ?_
  refine lst_move rfl rfl ?_
  refine lst_extract rfl rfl rfl ?_
  refine lst_extract rfl rfl rfl ?_
  refine lst_alloc rfl F.ti78 ?_
  intro b7
  refine lst_store rfl rfl F.ti78 rfl ?_
  refine lst_assign rfl rfl ?_
  refine lst_nil ?_
  refine ex_then ?_
  refine cod_seq ?_
  refine cod_seq ?_
  refine cod_region ?_
  refine lst_move rfl rfl ?_
  refine lst_int rfl rfl rfl bin_neq ?_
  refine lst_nil ?_
  refine ex_then ?_
  refine cod_cond_false rfl ?_
  refine cod_skip ?_
  refine ex_then ?_
  refine cod_seq ?_
  refine cod_region ?_
  refine lst_loadN rfl rfl F.agg78 F.ti78 ?_
  refine lst_move rfl rfl ?_
  refine lst_fn0 (vs := [_, _]) rfl rfl F.ent40 (fun a w ha => sread_c A c Lb Sb Wb w (hA.later ha.below)) ?_
  refine lst_move rfl rfl ?_
  refine lst_extract rfl rfl rfl ?_
  refine lst_extract rfl rfl rfl ?_
  refine lst_assign rfl rfl ?_
  refine lst_assign rfl rfl ?_
  refine lst_nil ?_
  refine ex_then ?_
  refine cod_seq ?_
  refine cod_seq ?_
  refine cod_region ?_
  refine lst_move rfl rfl ?_
  refine lst_int rfl rfl rfl bin_neq ?_
  refine lst_nil ?_
  refine ex_then ?_
  refine cod_cond_false rfl ?_
  refine cod_skip ?_
  refine ex_then ?_
  refine cod_seq ?_
  refine cod_region ?_
  refine lst_loadN rfl rfl F.agg78 F.ti78 ?_
  refine lst_move rfl rfl ?_
  refine lst_fn0 (vs := [_, _]) rfl rfl F.ent41 (fun a w ha => crush_y l lA lc Lb Sb Wb st p hge w (hM.later ha.below)) ?_
  refine lst_alloc rfl F.ti111 ?_
  intro b10
  refine lst_store rfl rfl F.ti111 rfl ?_
  refine lst_nil ?_
  refine ex_then ?_
  refine cod_seq ?_
  refine cod_seq ?_
  refine cod_region ?_
  refine lst_field_z rfl rfl F.fi111_4 F.ti4 ?_
  refine lst_load rfl rfl F.one4 ?_
  refine lst_not rfl rfl ?_
  refine lst_nil ?_
  refine ex_then ?_
  refine cod_cond_false rfl ?_
  refine cod_skip ?_
  refine ex_then ?_
  refine cod_seq ?_
  refine any_begin [] F.follows 9 rfl [false, false, false, false, false, false, false, false, false] rfl ?_
  refine any_take (listed' := [true, false, false, false, false, false, false, false, false].toArray) 0 rfl rfl rfl (by kernel_rfl) (by kernel_rfl) (by kernel_rfl) (by repeat (first | exact List.Sublist.refl _ | exact List.nil_sublist _ | refine List.Sublist.cons_cons _ ?_ | refine List.Sublist.cons _ ?_)) (yld_loadN rfl F.agg78 F.ti78) rfl ?_
  refine any_take (listed' := [true, true, false, false, false, false, false, false, false].toArray) 1 rfl rfl rfl (by kernel_rfl) (by kernel_rfl) (by kernel_rfl) (by repeat (first | exact List.Sublist.refl _ | exact List.nil_sublist _ | refine List.Sublist.cons_cons _ ?_ | refine List.Sublist.cons _ ?_)) (yld_field_z rfl F.fi111_1 F.ti86) rfl ?_
  refine any_take (listed' := [true, true, true, false, false, false, false, false, false].toArray) 2 rfl rfl rfl (by kernel_rfl) (by kernel_rfl) (by kernel_rfl) (by repeat (first | exact List.Sublist.refl _ | exact List.nil_sublist _ | refine List.Sublist.cons_cons _ ?_ | refine List.Sublist.cons _ ?_)) (yld_loadN rfl F.agg86 F.ti86) rfl ?_
  refine any_take (listed' := [true, true, true, false, true, false, false, false, false].toArray) 4 rfl rfl rfl (by kernel_rfl) (by kernel_rfl) (by kernel_rfl) (by repeat (first | exact List.Sublist.refl _ | exact List.nil_sublist _ | refine List.Sublist.cons_cons _ ?_ | refine List.Sublist.cons _ ?_)) (yld_field_z rfl F.fi111_2 F.ti3) rfl ?_
  refine any_take (listed' := [true, true, true, false, true, true, false, false, false].toArray) 5 rfl rfl rfl (by kernel_rfl) (by kernel_rfl) (by kernel_rfl) (by repeat (first | exact List.Sublist.refl _ | exact List.nil_sublist _ | refine List.Sublist.cons_cons _ ?_ | refine List.Sublist.cons _ ?_)) (yld_load rfl F.one3) rfl ?_
  refine any_one (listed' := [true, true, true, true, true, true, false, false, false].toArray) 3 (by kernel_rfl) rfl rfl ?_
  refine lst_fn (X := Option Addr × Nat) (vs := [_, _]) (p := fun _ => True) (val := fun y => .slice y.1 1 y.2) (rs := fun y => [.row 3 1 y.1 1 y.2 (ints [st])]) rfl rfl F.ent42 (fun a w ha => (slist_c Lb Sb Wb st w).mono (fun e w' h => by obtain ⟨A, c, h1, h2⟩ := h; exact ⟨(A, c), trivial, h1, h2⟩)) ?_
  rintro ⟨A2, c2⟩ -
  dsimp only [List.cons_append, List.nil_append]
  refine lst_nil ?_
  refine any_next (by repeat (first | exact List.Sublist.refl _ | exact List.nil_sublist _ | refine List.Sublist.cons_cons _ ?_ | refine List.Sublist.cons _ ?_)) ?_
  refine any_take (listed' := [true, true, true, true, true, true, true, false, false].toArray) 6 rfl rfl rfl (by kernel_rfl) (by kernel_rfl) (by kernel_rfl) (by repeat (first | exact List.Sublist.refl _ | exact List.nil_sublist _ | refine List.Sublist.cons_cons _ ?_ | refine List.Sublist.cons _ ?_)) (yld_assign rfl) rfl ?_
  refine any_take (listed' := [true, true, true, true, true, true, true, true, false].toArray) 7 rfl rfl rfl (by kernel_rfl) (by kernel_rfl) (by kernel_rfl) (by repeat (first | exact List.Sublist.refl _ | exact List.nil_sublist _ | refine List.Sublist.cons_cons _ ?_ | refine List.Sublist.cons _ ?_)) (yld_assign rfl) rfl ?_
  refine any_take (listed' := [true, true, true, true, true, true, true, true, true].toArray) 8 rfl rfl rfl (by kernel_rfl) (by kernel_rfl) (by kernel_rfl) (by repeat (first | exact List.Sublist.refl _ | exact List.nil_sublist _ | refine List.Sublist.cons_cons _ ?_ | refine List.Sublist.cons _ ?_)) (yld_assign rfl) rfl ?_
  refine any_done rfl (by kernel_rfl) ?_
  refine ex_then ?_
  refine cod_ret ?_
  exact ex_ret rfl (fun a w ha => res_three rfl rfl rfl rfl ha) (fun a w ha => ⟨A2, c2, rfl, ha.grown (by repeat (first | exact List.Sublist.refl _ | exact List.nil_sublist _ | refine List.Sublist.cons_cons _ ?_ | refine List.Sublist.cons _ ?_))⟩)

theorem Crush_n (l : List Nat) (lA : Option Addr) (lc Lb Sb Wb st p : Nat) (A : Option Addr) (c : Nat) (hlt : st * sumN l < p) (w : World) (hM : SawM w l lA lc Lb Sb Wb st p) (hA : RdL ncell 1 w A [0]) : Calls Tryd.prog 25 #[.agg [.slice (some ⟨Lb, 0, none⟩) 1 1, .slice (some ⟨Sb, 0, none⟩) 1 1, .int .i64 1, .slice (some ⟨Wb, 0, none⟩) 1 1].toArray, .slice A 1 c] w fun e w' => e = .returned (.tuple #[.slice none 0 0, .int .i64 0, .int .i64 11]) ∧ Grew w w' [] := by
  refine enter (N := 40) [(0, .agg [.slice (some ⟨Lb, 0, none⟩) 1 1, .slice (some ⟨Sb, 0, none⟩) 1 1, .int .i64 1, .slice (some ⟨Wb, 0, none⟩) 1 1].toArray), (1, .slice A 1 c)] Tryd.func25 rfl Tryd.ntmps25 rfl rfl ?_
  refine cod_seq ?_
  refine cod_region ?_
  refine lst_box rfl rfl ?_
  intro b2
  refine lst_assign rfl rfl ?_
  refine lst_assign rfl rfl ?_
  refine lst_assign rfl rfl ?_
  refine lst_nil ?_
  refine ex_then ?_
  refine cod_seq ?_
  refine cod_region ?_
  refine lst_loadN rfl rfl F.agg40 F.ti40 ?_
  refine lst_fn0 (vs := [_, _, _]) rfl rfl F.ent24 (fun a w ha => sopen_c l lA lc Lb Sb Wb st p w (hM.later ha.below)) ?_
  refine lst_move rfl rfl ?_
  refine lst_extract rfl rfl rfl ?_
  refine lst_extract rfl rfl rfl ?_
  refine lst_alloc rfl F.ti78 ?_
  intro b7
  refine lst_store rfl rfl F.ti78 rfl ?_
  refine lst_assign rfl rfl ?_
  refine lst_nil ?_
  refine ex_then ?_
  refine cod_seq ?_
  refine cod_seq ?_
  refine cod_region ?_
  refine lst_move rfl rfl ?_
  refine lst_int rfl rfl rfl bin_neq ?_
  refine lst_nil ?_
  refine ex_then ?_
  refine cod_cond_false rfl ?_
  refine cod_skip ?_
  refine ex_then ?_
  refine cod_seq ?_
  refine cod_region ?_
  refine lst_loadN rfl rfl F.agg78 F.ti78 ?_
  refine lst_move rfl rfl ?_
  refine lst_fn0 (vs := [_, _]) rfl rfl F.ent40 (fun a w ha => sread_c A c Lb Sb Wb w (hA.later ha.below)) ?_
  refine lst_move rfl rfl ?_
  refine lst_extract rfl rfl rfl ?_
  refine lst_extract rfl rfl rfl ?_
  refine lst_assign rfl rfl ?_
  refine lst_assign rfl rfl ?_
  refine lst_nil ?_
  refine ex_then ?_
  refine cod_seq ?_
  refine cod_seq ?_
  refine cod_region ?_
  refine lst_move rfl rfl ?_
  refine lst_int rfl rfl rfl bin_neq ?_
  refine lst_nil ?_
  refine ex_then ?_
  refine cod_cond_false rfl ?_
  refine cod_skip ?_
  refine ex_then ?_
  refine cod_seq ?_
  refine cod_region ?_
  refine lst_loadN rfl rfl F.agg78 F.ti78 ?_
  refine lst_move rfl rfl ?_
  refine lst_fn0 (vs := [_, _]) rfl rfl F.ent41 (fun a w ha => crush_n l lA lc Lb Sb Wb st p hlt w (hM.later ha.below)) ?_
  refine lst_alloc rfl F.ti111 ?_
  intro b10
  refine lst_store rfl rfl F.ti111 rfl ?_
  refine lst_nil ?_
  refine ex_then ?_
  refine cod_seq ?_
  refine cod_seq ?_
  refine cod_region ?_
  refine lst_field_z rfl rfl F.fi111_4 F.ti4 ?_
  refine lst_load rfl rfl F.one4 ?_
  refine lst_not rfl rfl ?_
  refine lst_nil ?_
  refine ex_then ?_
  refine cod_cond_true rfl ?_
  refine cod_seq ?_
  refine cod_region ?_
  refine lst_assign rfl rfl ?_
  refine lst_assign rfl rfl ?_
  refine lst_assign rfl rfl ?_
  refine lst_nil ?_
  refine ex_then ?_
  refine cod_ret ?_
  refine ex_then_ret ?_
  exact ex_ret rfl (fun a w ha => res_three rfl rfl rfl rfl ha) (fun a w ha => ⟨rfl, ha.grown (List.nil_sublist _)⟩)

theorem Fewest_y (l : List Nat) (lA : Option Addr) (lc Lb Sb Wb st p : Nat) (hge : p ≤ st * sumN l) (w : World) (hM : SawM w l lA lc Lb Sb Wb st p) : Calls Tryd.prog 11 #[.agg [.slice (some ⟨Lb, 0, none⟩) 1 1, .slice (some ⟨Sb, 0, none⟩) 1 1, .int .i64 1, .slice (some ⟨Wb, 0, none⟩) 1 1].toArray] w fun e w' => ∃ (A' : Option Addr) (c' : Nat), e = .returned (.tuple #[.slice A' 1 c', .int .i64 (st : Int), .int .i64 0]) ∧ Grew w w' [.row 3 1 A' 1 c' (ints [st])] := by
  refine enter (N := 23) [(0, .agg [.slice (some ⟨Lb, 0, none⟩) 1 1, .slice (some ⟨Sb, 0, none⟩) 1 1, .int .i64 1, .slice (some ⟨Wb, 0, none⟩) 1 1].toArray)] Tryd.func11 rfl Tryd.ntmps11 rfl rfl ?_
  refine cod_seq ?_
  refine cod_region ?_
  refine lst_box rfl rfl ?_
  intro b1
  refine lst_assign rfl rfl ?_
  refine lst_assign rfl rfl ?_
  refine lst_assign rfl rfl ?_
  refine lst_nil ?_
  refine ex_then ?_
  refine cod_seq ?_
  refine cod_region ?_
  refine lst_loadN rfl rfl F.agg40 F.ti40 ?_
  refine lst_fn0 (vs := [_, _, _]) rfl rfl F.ent24 (fun a w ha => sopen_c l lA lc Lb Sb Wb st p w (hM.later ha.below)) ?_
  refine lst_move rfl rfl ?_
  refine lst_extract rfl rfl rfl ?_
  refine lst_extract rfl rfl rfl ?_
  refine lst_alloc rfl F.ti78 ?_
  intro b5
  refine lst_store rfl rfl F.ti78 rfl ?_
  refine lst_assign rfl rfl ?_
  refine lst_nil ?_
  refine ex_then ?_
  refine cod_seq ?_
  refine cod_seq ?_
  refine cod_region ?_
  refine lst_move rfl rfl ?_
  refine lst_int rfl rfl rfl bin_neq ?_
  refine lst_nil ?_
  refine ex_then ?_
  refine cod_cond_false rfl ?_
  refine cod_skip ?_
  refine ex_then ?_
  refine cod_seq ?_
  refine any_begin [] F.follows 11 rfl [false, false, false, false, false, false, false, false, false, false, false] rfl ?_
  refine any_take (listed' := [true, false, false, false, false, false, false, false, false, false, false].toArray) 0 rfl rfl rfl (by kernel_rfl) (by kernel_rfl) (by kernel_rfl) (by repeat (first | exact List.Sublist.refl _ | exact List.nil_sublist _ | refine List.Sublist.cons_cons _ ?_ | refine List.Sublist.cons _ ?_)) (yld_loadN rfl F.agg40 F.ti40) rfl ?_
  refine any_take (listed' := [true, true, false, false, false, false, false, false, false, false, false].toArray) 1 rfl rfl rfl (by kernel_rfl) (by kernel_rfl) (by kernel_rfl) (by repeat (first | exact List.Sublist.refl _ | exact List.nil_sublist _ | refine List.Sublist.cons_cons _ ?_ | refine List.Sublist.cons _ ?_)) (yld_loadN rfl F.agg78 F.ti78) rfl ?_
  refine any_one (listed' := [true, true, true, false, false, false, false, false, false, false, false].toArray) 2 (by kernel_rfl) rfl rfl ?_
  refine lst_fn0 (vs := [_]) rfl rfl F.ent26 (fun a w ha => full_c Lb Sb Wb w) ?_
  refine lst_nil ?_
  refine any_next (by repeat (first | exact List.Sublist.refl _ | exact List.nil_sublist _ | refine List.Sublist.cons_cons _ ?_ | refine List.Sublist.cons _ ?_)) ?_
  refine any_one (listed' := [true, true, true, true, false, false, false, false, false, false, false].toArray) 3 (by kernel_rfl) rfl rfl ?_
  refine lst_fn (X := Option Addr × Nat) (vs := [_]) (p := fun _ => True) (val := fun y => .slice y.1 1 y.2) (rs := fun y => [.row 3 1 y.1 1 y.2 [.int .i64 0]]) rfl rfl F.ent27 (fun a w ha => (listw_c w).mono (fun e w' h => by obtain ⟨A, c, h1, h2⟩ := h; exact ⟨(A, c), trivial, h1, h2⟩)) ?_
  rintro ⟨A, c⟩ -
  dsimp only [List.cons_append, List.nil_append]
  refine lst_nil ?_
  refine any_next (by repeat (first | exact List.Sublist.refl _ | exact List.nil_sublist _ | refine List.Sublist.cons_cons _ ?_ | refine List.Sublist.cons _ ?_)) ?_
  refine any_one (listed' := [true, true, true, true, true, false, false, false, false, false, false].toArray) 4 (by kernel_rfl) rfl rfl ?_
  refine lst_fn (X := Option Addr × Nat) (vs := [_, _]) (p := fun _ => True) (val := fun y => .tuple #[.slice y.1 1 y.2, .int .i64 (st : Int), .int .i64 0]) (rs := fun y => [.row 3 1 y.1 1 y.2 (ints [st])]) rfl rfl F.ent25 (fun a w ha => (Crush_y l lA lc Lb Sb Wb st p A c hge w (hM.later ha.below) (row_reads ha (cells := ncell) (e := 3) (size := 1) (l := [0]) (fun _ => rfl) (by first | exact List.mem_cons_self .. | simp [ncell]) rfl)).mono (fun e w' h => by obtain ⟨A, c, h1, h2⟩ := h; exact ⟨(A, c), trivial, h1, h2⟩)) ?_
  rintro ⟨A2, c2⟩ -
  dsimp only [List.cons_append, List.nil_append]
  refine lst_nil ?_
  refine any_next (by repeat (first | exact List.Sublist.refl _ | exact List.nil_sublist _ | refine List.Sublist.cons_cons _ ?_ | refine List.Sublist.cons _ ?_)) ?_
  refine any_take (listed' := [true, true, true, true, true, true, false, false, false, false, false].toArray) 5 rfl rfl rfl (by kernel_rfl) (by kernel_rfl) (by kernel_rfl) (by repeat (first | exact List.Sublist.refl _ | exact List.nil_sublist _ | refine List.Sublist.cons_cons _ ?_ | refine List.Sublist.cons _ ?_)) (yld_extract rfl rfl) rfl ?_
  refine any_take (listed' := [true, true, true, true, true, true, true, false, false, false, false].toArray) 6 rfl rfl rfl (by kernel_rfl) (by kernel_rfl) (by kernel_rfl) (by repeat (first | exact List.Sublist.refl _ | exact List.nil_sublist _ | refine List.Sublist.cons_cons _ ?_ | refine List.Sublist.cons _ ?_)) (yld_extract rfl rfl) rfl ?_
  refine any_take (listed' := [true, true, true, true, true, true, true, true, false, false, false].toArray) 7 rfl rfl rfl (by kernel_rfl) (by kernel_rfl) (by kernel_rfl) (by repeat (first | exact List.Sublist.refl _ | exact List.nil_sublist _ | refine List.Sublist.cons_cons _ ?_ | refine List.Sublist.cons _ ?_)) (yld_extract rfl rfl) rfl ?_
  refine any_take (listed' := [true, true, true, true, true, true, true, true, true, false, false].toArray) 8 rfl rfl rfl (by kernel_rfl) (by kernel_rfl) (by kernel_rfl) (by repeat (first | exact List.Sublist.refl _ | exact List.nil_sublist _ | refine List.Sublist.cons_cons _ ?_ | refine List.Sublist.cons _ ?_)) (yld_assign rfl) rfl ?_
  refine any_take (listed' := [true, true, true, true, true, true, true, true, true, true, false].toArray) 9 rfl rfl rfl (by kernel_rfl) (by kernel_rfl) (by kernel_rfl) (by repeat (first | exact List.Sublist.refl _ | exact List.nil_sublist _ | refine List.Sublist.cons_cons _ ?_ | refine List.Sublist.cons _ ?_)) (yld_assign rfl) rfl ?_
  refine any_take (listed' := [true, true, true, true, true, true, true, true, true, true, true].toArray) 10 rfl rfl rfl (by kernel_rfl) (by kernel_rfl) (by kernel_rfl) (by repeat (first | exact List.Sublist.refl _ | exact List.nil_sublist _ | refine List.Sublist.cons_cons _ ?_ | refine List.Sublist.cons _ ?_)) (yld_assign rfl) rfl ?_
  refine any_done rfl (by kernel_rfl) ?_
  refine ex_then ?_
  refine cod_ret ?_
  exact ex_ret rfl (fun a w ha => res_three rfl rfl rfl rfl ha) (fun a w ha => ⟨A2, c2, rfl, ha.grown (by repeat (first | exact List.Sublist.refl _ | exact List.nil_sublist _ | refine List.Sublist.cons_cons _ ?_ | refine List.Sublist.cons _ ?_))⟩)

theorem Fewest_n (l : List Nat) (lA : Option Addr) (lc Lb Sb Wb st p : Nat) (hlt : st * sumN l < p) (w : World) (hM : SawM w l lA lc Lb Sb Wb st p) : Calls Tryd.prog 11 #[.agg [.slice (some ⟨Lb, 0, none⟩) 1 1, .slice (some ⟨Sb, 0, none⟩) 1 1, .int .i64 1, .slice (some ⟨Wb, 0, none⟩) 1 1].toArray] w fun e w' => e = .returned (.tuple #[.slice none 0 0, .int .i64 0, .int .i64 11]) ∧ Grew w w' [] := by
  refine enter (N := 23) [(0, .agg [.slice (some ⟨Lb, 0, none⟩) 1 1, .slice (some ⟨Sb, 0, none⟩) 1 1, .int .i64 1, .slice (some ⟨Wb, 0, none⟩) 1 1].toArray)] Tryd.func11 rfl Tryd.ntmps11 rfl rfl ?_
  refine cod_seq ?_
  refine cod_region ?_
  refine lst_box rfl rfl ?_
  intro b1
  refine lst_assign rfl rfl ?_
  refine lst_assign rfl rfl ?_
  refine lst_assign rfl rfl ?_
  refine lst_nil ?_
  refine ex_then ?_
  refine cod_seq ?_
  refine cod_region ?_
  refine lst_loadN rfl rfl F.agg40 F.ti40 ?_
  refine lst_fn0 (vs := [_, _, _]) rfl rfl F.ent24 (fun a w ha => sopen_c l lA lc Lb Sb Wb st p w (hM.later ha.below)) ?_
  refine lst_move rfl rfl ?_
  refine lst_extract rfl rfl rfl ?_
  refine lst_extract rfl rfl rfl ?_
  refine lst_alloc rfl F.ti78 ?_
  intro b5
  refine lst_store rfl rfl F.ti78 rfl ?_
  refine lst_assign rfl rfl ?_
  refine lst_nil ?_
  refine ex_then ?_
  refine cod_seq ?_
  refine cod_seq ?_
  refine cod_region ?_
  refine lst_move rfl rfl ?_
  refine lst_int rfl rfl rfl bin_neq ?_
  refine lst_nil ?_
  refine ex_then ?_
  refine cod_cond_false rfl ?_
  refine cod_skip ?_
  refine ex_then ?_
  refine cod_seq ?_
  refine any_begin [] F.follows 11 rfl [false, false, false, false, false, false, false, false, false, false, false] rfl ?_
  refine any_take (listed' := [true, false, false, false, false, false, false, false, false, false, false].toArray) 0 rfl rfl rfl (by kernel_rfl) (by kernel_rfl) (by kernel_rfl) (by repeat (first | exact List.Sublist.refl _ | exact List.nil_sublist _ | refine List.Sublist.cons_cons _ ?_ | refine List.Sublist.cons _ ?_)) (yld_loadN rfl F.agg40 F.ti40) rfl ?_
  refine any_take (listed' := [true, true, false, false, false, false, false, false, false, false, false].toArray) 1 rfl rfl rfl (by kernel_rfl) (by kernel_rfl) (by kernel_rfl) (by repeat (first | exact List.Sublist.refl _ | exact List.nil_sublist _ | refine List.Sublist.cons_cons _ ?_ | refine List.Sublist.cons _ ?_)) (yld_loadN rfl F.agg78 F.ti78) rfl ?_
  refine any_one (listed' := [true, true, true, false, false, false, false, false, false, false, false].toArray) 2 (by kernel_rfl) rfl rfl ?_
  refine lst_fn0 (vs := [_]) rfl rfl F.ent26 (fun a w ha => full_c Lb Sb Wb w) ?_
  refine lst_nil ?_
  refine any_next (by repeat (first | exact List.Sublist.refl _ | exact List.nil_sublist _ | refine List.Sublist.cons_cons _ ?_ | refine List.Sublist.cons _ ?_)) ?_
  refine any_one (listed' := [true, true, true, true, false, false, false, false, false, false, false].toArray) 3 (by kernel_rfl) rfl rfl ?_
  refine lst_fn (X := Option Addr × Nat) (vs := [_]) (p := fun _ => True) (val := fun y => .slice y.1 1 y.2) (rs := fun y => [.row 3 1 y.1 1 y.2 [.int .i64 0]]) rfl rfl F.ent27 (fun a w ha => (listw_c w).mono (fun e w' h => by obtain ⟨A, c, h1, h2⟩ := h; exact ⟨(A, c), trivial, h1, h2⟩)) ?_
  rintro ⟨A, c⟩ -
  dsimp only [List.cons_append, List.nil_append]
  refine lst_nil ?_
  refine any_next (by repeat (first | exact List.Sublist.refl _ | exact List.nil_sublist _ | refine List.Sublist.cons_cons _ ?_ | refine List.Sublist.cons _ ?_)) ?_
  refine any_one (listed' := [true, true, true, true, true, false, false, false, false, false, false].toArray) 4 (by kernel_rfl) rfl rfl ?_
  refine lst_fn0 (vs := [_, _]) rfl rfl F.ent25 (fun a w ha => Crush_n l lA lc Lb Sb Wb st p A c hlt w (hM.later ha.below) (row_reads ha (cells := ncell) (e := 3) (size := 1) (l := [0]) (fun _ => rfl) (by first | exact List.mem_cons_self .. | simp [ncell]) rfl)) ?_
  refine lst_nil ?_
  refine any_next (by repeat (first | exact List.Sublist.refl _ | exact List.nil_sublist _ | refine List.Sublist.cons_cons _ ?_ | refine List.Sublist.cons _ ?_)) ?_
  refine any_take (listed' := [true, true, true, true, true, true, false, false, false, false, false].toArray) 5 rfl rfl rfl (by kernel_rfl) (by kernel_rfl) (by kernel_rfl) (by repeat (first | exact List.Sublist.refl _ | exact List.nil_sublist _ | refine List.Sublist.cons_cons _ ?_ | refine List.Sublist.cons _ ?_)) (yld_extract rfl rfl) rfl ?_
  refine any_take (listed' := [true, true, true, true, true, true, true, false, false, false, false].toArray) 6 rfl rfl rfl (by kernel_rfl) (by kernel_rfl) (by kernel_rfl) (by repeat (first | exact List.Sublist.refl _ | exact List.nil_sublist _ | refine List.Sublist.cons_cons _ ?_ | refine List.Sublist.cons _ ?_)) (yld_extract rfl rfl) rfl ?_
  refine any_take (listed' := [true, true, true, true, true, true, true, true, false, false, false].toArray) 7 rfl rfl rfl (by kernel_rfl) (by kernel_rfl) (by kernel_rfl) (by repeat (first | exact List.Sublist.refl _ | exact List.nil_sublist _ | refine List.Sublist.cons_cons _ ?_ | refine List.Sublist.cons _ ?_)) (yld_extract rfl rfl) rfl ?_
  refine any_take (listed' := [true, true, true, true, true, true, true, true, true, false, false].toArray) 8 rfl rfl rfl (by kernel_rfl) (by kernel_rfl) (by kernel_rfl) (by repeat (first | exact List.Sublist.refl _ | exact List.nil_sublist _ | refine List.Sublist.cons_cons _ ?_ | refine List.Sublist.cons _ ?_)) (yld_assign rfl) rfl ?_
  refine any_take (listed' := [true, true, true, true, true, true, true, true, true, true, false].toArray) 9 rfl rfl rfl (by kernel_rfl) (by kernel_rfl) (by kernel_rfl) (by repeat (first | exact List.Sublist.refl _ | exact List.nil_sublist _ | refine List.Sublist.cons_cons _ ?_ | refine List.Sublist.cons _ ?_)) (yld_assign rfl) rfl ?_
  refine any_take (listed' := [true, true, true, true, true, true, true, true, true, true, true].toArray) 10 rfl rfl rfl (by kernel_rfl) (by kernel_rfl) (by kernel_rfl) (by repeat (first | exact List.Sublist.refl _ | exact List.nil_sublist _ | refine List.Sublist.cons_cons _ ?_ | refine List.Sublist.cons _ ?_)) (yld_assign rfl) rfl ?_
  refine any_done rfl (by kernel_rfl) ?_
  refine ex_then ?_
  refine cod_ret ?_
  exact ex_ret rfl (fun a w ha => res_three rfl rfl rfl rfl ha) (fun a w ha => ⟨rfl, ha.grown (List.nil_sublist _)⟩)

theorem sasked_c (l : List Nat) (lA : Option Addr) (lc Lb Sb Wb st p : Nat) (A K : Option Addr) (c kc : Nat) (hge : p ≤ st * sumN l) (w : World) (hM : SawM w l lA lc Lb Sb Wb st p) (hA : RdL ncell 1 w A [0]) (hK : RdL ncell 1 w K [st]) : Calls Tryd.prog 28 #[.agg [.slice (some ⟨Lb, 0, none⟩) 1 1, .slice (some ⟨Sb, 0, none⟩) 1 1, .int .i64 1, .slice (some ⟨Wb, 0, none⟩) 1 1].toArray, .slice A 1 c, .slice K 1 kc] w fun e w' => e = .returned (.tuple #[.agg [.slice (some ⟨Lb, 0, none⟩) 1 1, .slice (some ⟨Sb, 0, none⟩) 1 1, .int .i64 1, .slice (some ⟨Wb, 0, none⟩) 1 1].toArray, .agg [.int .i64 (st : Int), .int .i64 0, .int .i64 0, .int .i64 (st * sumN l : Int), .int .i64 0, .int .i64 0, .int .i64 0, .int .i64 0, .int .i64 0, .int .i64 (p : Int)].toArray, .int .i64 0]) ∧ Grew w w' [] := by
  have hks : st * sumN l ≤ 144 := Nat.le_trans (Nat.mul_le_mul hM.st4 hM.sum36) (by decide)
  refine enter (N := 78) [(0, .agg [.slice (some ⟨Lb, 0, none⟩) 1 1, .slice (some ⟨Sb, 0, none⟩) 1 1, .int .i64 1, .slice (some ⟨Wb, 0, none⟩) 1 1].toArray), (1, .slice A 1 c), (2, .slice K 1 kc)] Tryd.func28 rfl Tryd.ntmps28 rfl rfl ?_
  refine cod_seq ?_
  refine cod_region ?_
  refine lst_box rfl rfl ?_
  intro b3
  refine lst_alloc rfl F.ti78 ?_
  intro b6
  refine lst_alloc rfl F.ti88 ?_
  intro b7
  refine lst_assign rfl rfl ?_
  refine lst_nil ?_
  refine ex_then ?_
  refine cod_seq ?_
  refine cod_region ?_
  refine lst_loadN rfl rfl F.agg40 F.ti40 ?_
  refine lst_fn0 (vs := [_, _, _]) rfl rfl F.ent24 (fun a w ha => sopen_c l lA lc Lb Sb Wb st p w (hM.later ha.below)) ?_
  refine lst_move rfl rfl ?_
  refine lst_extract rfl rfl rfl ?_
  refine lst_extract rfl rfl rfl ?_
  refine lst_alloc rfl F.ti78 ?_
  intro b9
  refine lst_store rfl rfl F.ti78 rfl ?_
  refine lst_assign rfl rfl ?_
  refine lst_nil ?_
  refine ex_then ?_
  refine cod_seq ?_
  refine cod_seq ?_
  refine cod_region ?_
  refine lst_move rfl rfl ?_
  refine lst_int rfl rfl rfl bin_neq ?_
  refine lst_nil ?_
  refine ex_then ?_
  refine cod_cond_false rfl ?_
  refine cod_skip ?_
  refine ex_then ?_
  refine cod_seq ?_
  refine cod_region ?_
  refine lst_loadN rfl rfl F.agg78 F.ti78 ?_
  refine lst_move rfl rfl ?_
  refine lst_fn0 (vs := [_, _]) rfl rfl F.ent40 (fun a w ha => sread_c A c Lb Sb Wb w (hA.later ha.below)) ?_
  refine lst_move rfl rfl ?_
  refine lst_extract rfl rfl rfl ?_
  refine lst_extract rfl rfl rfl ?_
  refine lst_assign rfl rfl ?_
  refine lst_assign rfl rfl ?_
  refine lst_nil ?_
  refine ex_then ?_
  refine cod_seq ?_
  refine cod_seq ?_
  refine cod_region ?_
  refine lst_move rfl rfl ?_
  refine lst_int rfl rfl rfl bin_neq ?_
  refine lst_nil ?_
  refine ex_then ?_
  refine cod_cond_false rfl ?_
  refine cod_skip ?_
  refine ex_then ?_
  refine cod_seq ?_
  refine cod_seq ?_
  refine cod_region ?_
  refine lst_move rfl rfl ?_
  refine lst_len rfl rfl Tryd.underlying22 ?_
  refine lst_field_z rfl rfl F.fi40_0 F.ti37 ?_
  refine lst_load rfl rfl F.one37 ?_
  refine lst_len rfl rfl Tryd.underlying37 ?_
  refine lst_field_z rfl rfl F.fi40_0 F.ti37 ?_
  refine lst_load rfl rfl F.one37 ?_
  refine lst_len rfl rfl Tryd.underlying37 ?_
  refine lst_fn0 (v := .int .i64 0) (vs := [_, _, _]) rfl rfl F.ent44 (fun a w ha => (sized_c ((1 : Nat) : Int) ((1 : Nat) : Int) ((1 : Nat) : Int) w).mono (fun e w' h => ⟨by rw [h.1, if_neg (by omega), if_neg (by omega)], h.2⟩)) ?_
  refine lst_assign rfl rfl ?_
  refine lst_nil ?_
  refine ex_then ?_
  refine cod_seq ?_
  refine cod_region ?_
  refine lst_move rfl rfl ?_
  refine lst_int rfl rfl rfl bin_neq ?_
  refine lst_nil ?_
  refine ex_then ?_
  refine cod_cond_false rfl ?_
  refine cod_skip ?_
  refine ex_then ?_
  refine cod_seq ?_
  refine cod_region ?_
  refine lst_alloc rfl F.ti86 ?_
  intro b13
  refine lst_nil ?_
  refine ex_then ?_
  refine cod_seq ?_
  refine cod_seq ?_
  refine cod_region ?_
  refine lst_move rfl rfl ?_
  refine lst_len rfl rfl Tryd.underlying22 ?_
  refine lst_move rfl rfl ?_
  refine lst_nil ?_
  refine ex_then ?_
  refine cod_block ?_
  refine cod_rounds 1 ?_
  obtain ⟨kb, ko, rfl, hkb, hkcell⟩ := hK Nat.one_pos
  refine cod_seq ?_
  refine cod_region ?_
  refine lst_int rfl rfl rfl bin_lss ?_
  refine lst_nil ?_
  refine ex_then ?_
  refine cod_seq ?_
  refine cod_cond_true rfl ?_
  refine cod_skip ?_
  refine ex_then ?_
  refine cod_seq ?_
  refine cod_block ?_
  refine cod_seq ?_
  refine cod_region ?_
  refine lst_move rfl rfl ?_
  refine lst_index (j := 0) rfl rfl rfl Tryd.underlying22 F.ti3 rfl (by decide) ?_
  refine lst_load_at (v := .int .i64 (st : Int)) rfl rfl F.one3 (fun a w ha => ha.old (hkcell 0 st rfl 0 _ rfl) hkb) ?_
  refine lst_assign rfl rfl ?_
  refine lst_assign rfl rfl ?_
  refine lst_nil ?_
  refine ex_then ?_
  refine cod_seq ?_
  refine cod_seq ?_
  refine cod_region ?_
  refine lst_move rfl rfl ?_
  have h4 := hM.st4
  refine lst_fn0 (v := .bool true) (vs := [_, _, _]) rfl rfl F.ent39 (fun a w ha => (within_c (st : Int) 0 4 w).mono (fun e w' h => ⟨by rw [h.1]; refine congrArg (fun b => Ending.returned (Value.bool b)) ?_; simp <;> omega, h.2⟩)) ?_
  refine lst_not rfl rfl ?_
  refine lst_nil ?_
  refine ex_then ?_
  refine cod_cond_false rfl ?_
  refine cod_skip ?_
  refine ex_then ?_
  refine cod_region ?_
  refine lst_move rfl rfl ?_
  refine lst_move rfl rfl ?_
  refine lst_index_lit (j := 0) (off := 0) rfl rfl rfl Tryd.underlying86 F.ti3 rfl rfl ?_
  refine lst_store rfl rfl F.ti3 rfl ?_
  refine lst_nil ?_
  refine ex_block_normal ?_
  refine ex_then ?_
  refine cod_region ?_
  refine lst_int (v := .int .i64 1) rfl rfl rfl (fun w => bin_add w (by decide)) ?_
  refine lst_move rfl rfl ?_
  refine lst_nil ?_
  refine ex_rounds ?_
  refine cod_seq ?_
  refine cod_region ?_
  refine lst_int rfl rfl rfl bin_lss ?_
  refine lst_nil ?_
  refine ex_then ?_
  refine cod_seq ?_
  refine cod_cond_false rfl ?_
  refine cod_exit ?_
  refine ex_then_exit ?_
  refine ex_then_exit ?_
  refine ex_block_exit ?_
  refine ex_then ?_
  refine cod_seq ?_
  refine cod_region ?_
  refine lst_loadN rfl rfl F.agg78 F.ti78 ?_
  refine lst_move rfl rfl ?_
  refine lst_loadN rfl rfl F.agg86 F.ti86 ?_
  refine lst_fn0 (vs := [_, _, _]) rfl rfl F.ent45 (fun a w ha => splan_c l lA lc Lb Sb Wb st p st hM.st4 hks w (hM.later ha.below)) ?_
  refine lst_alloc rfl F.ti88 ?_
  intro b16
  refine lst_store rfl rfl F.ti88 rfl ?_
  refine lst_nil ?_
  refine ex_then ?_
  refine cod_seq ?_
  refine any_begin [.b b6, .b b7] F.follows 9 rfl [false, false, false, false, false, false, false, false, false] rfl ?_
  refine any_take (listed' := [true, false, false, false, false, false, false, false, false].toArray) 0 rfl rfl rfl (by kernel_rfl) (by kernel_rfl) (by kernel_rfl) (by repeat (first | exact List.Sublist.refl _ | exact List.nil_sublist _ | refine List.Sublist.cons_cons _ ?_ | refine List.Sublist.cons _ ?_)) (yld_loadN rfl F.agg78 F.ti78) rfl ?_
  refine any_take (listed' := [true, true, false, false, false, false, false, false, false].toArray) 1 rfl rfl rfl (by kernel_rfl) (by kernel_rfl) (by kernel_rfl) (by repeat (first | exact List.Sublist.refl _ | exact List.nil_sublist _ | refine List.Sublist.cons_cons _ ?_ | refine List.Sublist.cons _ ?_)) (yld_loadN rfl F.agg88 F.ti88) rfl ?_
  refine any_take (listed' := [true, true, true, false, false, false, false, false, false].toArray) 2 rfl rfl rfl (by kernel_rfl) (by kernel_rfl) (by kernel_rfl) (by repeat (first | exact List.Sublist.refl _ | exact List.nil_sublist _ | refine List.Sublist.cons_cons _ ?_ | refine List.Sublist.cons _ ?_)) (yld_loadN rfl F.agg78 F.ti78) rfl ?_
  refine any_take (listed' := [true, true, true, true, false, false, false, false, false].toArray) 3 rfl rfl rfl (by kernel_rfl) (by kernel_rfl) (by kernel_rfl) (by repeat (first | exact List.Sublist.refl _ | exact List.nil_sublist _ | refine List.Sublist.cons_cons _ ?_ | refine List.Sublist.cons _ ?_)) (yld_loadN rfl F.agg88 F.ti88) rfl ?_
  refine any_one (listed' := [true, true, true, true, true, false, false, false, false].toArray) 4 (by kernel_rfl) rfl rfl ?_
  refine lst_fn0 (v := .nilIface) (vs := [_, _]) rfl rfl F.ent47 (fun a w ha => (sright_c l lA lc Lb Sb Wb st p st (st * sumN l) (Nat.le_refl _) (by omega) w (hM.later ha.below)).mono (fun e w' h => ⟨by rw [h.1, if_neg (by omega)], h.2⟩)) ?_
  refine lst_nil ?_
  refine any_next (by repeat (first | exact List.Sublist.refl _ | exact List.nil_sublist _ | refine List.Sublist.cons_cons _ ?_ | refine List.Sublist.cons _ ?_)) ?_
  refine any_one (listed' := [true, true, true, true, true, true, false, false, false].toArray) 5 (by kernel_rfl) rfl rfl ?_
  refine lst_fn0 (vs := [_]) rfl rfl F.ent46 (fun a w ha => serrno_c w) ?_
  refine lst_nil ?_
  refine any_next (by repeat (first | exact List.Sublist.refl _ | exact List.nil_sublist _ | refine List.Sublist.cons_cons _ ?_ | refine List.Sublist.cons _ ?_)) ?_
  refine any_one (listed' := [true, true, true, true, true, true, true, false, false].toArray) 6 (by kernel_rfl) rfl rfl ?_
  refine lst_store rfl rfl F.ti78 rfl ?_
  refine lst_nil ?_
  refine any_next (by repeat (first | exact List.Sublist.refl _ | exact List.nil_sublist _ | refine List.Sublist.cons_cons _ ?_ | refine List.Sublist.cons _ ?_)) ?_
  refine any_one (listed' := [true, true, true, true, true, true, true, true, false].toArray) 7 (by kernel_rfl) rfl rfl ?_
  refine lst_store rfl rfl F.ti88 rfl ?_
  refine lst_nil ?_
  refine any_next (by repeat (first | exact List.Sublist.refl _ | exact List.nil_sublist _ | refine List.Sublist.cons_cons _ ?_ | refine List.Sublist.cons _ ?_)) ?_
  refine any_take (listed' := [true, true, true, true, true, true, true, true, true].toArray) 8 rfl rfl rfl (by kernel_rfl) (by kernel_rfl) (by kernel_rfl) (by repeat (first | exact List.Sublist.refl _ | exact List.nil_sublist _ | refine List.Sublist.cons_cons _ ?_ | refine List.Sublist.cons _ ?_)) (yld_assign rfl) rfl ?_
  refine any_done rfl (by kernel_rfl) ?_
  refine ex_then ?_
  refine cod_ret ?_
  exact ex_ret rfl (fun a w ha => res_NNt (C := ⟨Tryd.prog, _, _, _, _⟩) (fn := Tryd.f28) rfl rfl rfl rfl F.agg78 F.ti78 F.agg88 F.ti88 rfl rfl ha) (fun a w ha => ⟨rfl, ha.grown (List.nil_sublist _)⟩)

theorem Left_c (l : List Nat) (lA : Option Addr) (lc Lb Sb Wb st p : Nat) (A K : Option Addr) (c kc : Nat) (hge : p ≤ st * sumN l) (w : World) (hM : SawM w l lA lc Lb Sb Wb st p) (hA : RdL ncell 1 w A [0]) (hK : RdL ncell 1 w K [st]) : Calls Tryd.prog 13 #[.agg [.slice (some ⟨Lb, 0, none⟩) 1 1, .slice (some ⟨Sb, 0, none⟩) 1 1, .int .i64 1, .slice (some ⟨Wb, 0, none⟩) 1 1].toArray, .slice A 1 c, .slice K 1 kc] w fun e w' => ∃ (A' : Option Addr) (c' : Nat), e = .returned (.tuple #[.slice A' 1 c', .int .i64 ((st * sumN l - p : Nat) : Int), .int .i64 0]) ∧ Grew w w' [.row 3 1 A' 1 c' [.int .i64 0]] := by
  have hks : st * sumN l ≤ 144 := Nat.le_trans (Nat.mul_le_mul hM.st4 hM.sum36) (by decide)
  refine enter (N := 48) [(0, .agg [.slice (some ⟨Lb, 0, none⟩) 1 1, .slice (some ⟨Sb, 0, none⟩) 1 1, .int .i64 1, .slice (some ⟨Wb, 0, none⟩) 1 1].toArray), (1, .slice A 1 c), (2, .slice K 1 kc)] Tryd.func13 rfl Tryd.ntmps13 rfl rfl ?_
  refine cod_seq ?_
  refine cod_region ?_
  refine lst_box rfl rfl ?_
  intro b3
  refine lst_assign rfl rfl ?_
  refine lst_assign rfl rfl ?_
  refine lst_assign rfl rfl ?_
  refine lst_nil ?_
  refine ex_then ?_
  refine cod_seq ?_
  refine cod_region ?_
  refine lst_loadN rfl rfl F.agg40 F.ti40 ?_
  refine lst_move rfl rfl ?_
  refine lst_move rfl rfl ?_
  refine lst_fn0 (v := .tuple #[.agg [.slice (some ⟨Lb, 0, none⟩) 1 1, .slice (some ⟨Sb, 0, none⟩) 1 1, .int .i64 1, .slice (some ⟨Wb, 0, none⟩) 1 1].toArray, .agg [.int .i64 (st : Int), .int .i64 0, .int .i64 0, .int .i64 (st * sumN l : Int), .int .i64 0, .int .i64 0, .int .i64 0, .int .i64 0, .int .i64 0, .int .i64 (p : Int)].toArray, .int .i64 0]) (vs := [_, _, _]) rfl rfl F.ent28 (fun a w ha => sasked_c l lA lc Lb Sb Wb st p A K c kc hge w (hM.later ha.below) (hA.later ha.below) (hK.later ha.below)) ?_
  refine lst_move rfl rfl ?_
  refine lst_extract rfl rfl rfl ?_
  refine lst_extract rfl rfl rfl ?_
  refine lst_extract rfl rfl rfl ?_
  refine lst_alloc rfl F.ti78 ?_
  intro b9
  refine lst_alloc rfl F.ti88 ?_
  intro b10
  refine lst_store rfl rfl F.ti78 rfl ?_
  refine lst_store rfl rfl F.ti88 rfl ?_
  refine lst_assign rfl rfl ?_
  refine lst_nil ?_
  refine ex_then ?_
  refine cod_seq ?_
  refine cod_seq ?_
  refine cod_region ?_
  refine lst_move rfl rfl ?_
  refine lst_int rfl rfl rfl bin_neq ?_
  refine lst_nil ?_
  refine ex_then ?_
  refine cod_cond_false rfl ?_
  refine cod_skip ?_
  refine ex_then ?_
  refine cod_seq ?_
  refine cod_region ?_
  refine lst_assign rfl rfl ?_
  refine lst_nil ?_
  refine ex_then ?_
  refine cod_seq ?_
  refine cod_seq ?_
  refine cod_region ?_
  refine lst_field_z rfl rfl F.fi78_0 F.ti40 ?_
  refine lst_field_z rfl rfl F.fi40_1 F.ti22 ?_
  refine lst_load rfl rfl F.one22 ?_
  refine lst_len rfl rfl Tryd.underlying22 ?_
  refine lst_move rfl rfl ?_
  refine lst_nil ?_
  refine ex_row0 3 1 ?_
  refine ex_then ?_
  refine cod_block ?_
  refine cod_rounds 1 ?_
  refine cod_seq ?_
  refine cod_region ?_
  refine lst_int rfl rfl rfl bin_lss ?_
  refine lst_nil ?_
  refine ex_then ?_
  refine cod_seq ?_
  refine cod_cond_true rfl ?_
  refine cod_skip ?_
  refine ex_then ?_
  refine cod_seq ?_
  refine cod_block ?_
  refine cod_seq ?_
  refine cod_region ?_
  refine lst_move rfl rfl ?_
  refine lst_index (j := 0) rfl rfl rfl Tryd.underlying22 F.ti3 rfl (by decide) ?_
  refine lst_load_at (v := .int .i64 (st : Int)) rfl rfl F.one3 (fun a w ha => ha.old hM.S (cell_lt hM.S)) ?_
  refine lst_assign rfl rfl ?_
  refine lst_assign rfl rfl ?_
  refine lst_nil ?_
  refine ex_then ?_
  refine cod_region ?_
  have h4 := hM.st4
  refine lst_move rfl rfl ?_
  refine lst_move rfl rfl ?_
  refine lst_move rfl rfl ?_
  refine lst_field_z rfl rfl F.fi88_0 F.ti86 ?_
  refine lst_index_lit (j := 0) (off := 0) rfl rfl rfl Tryd.underlying86 F.ti3 rfl rfl ?_
  refine lst_load rfl rfl F.one3 ?_
  refine lst_int (v := .int .i64 0) rfl rfl rfl (fun w => bin_sub w (by rw [Int.sub_self]; decide)) ?_
  refine lst_lit (vs := [(0, _)]) rfl rfl Tryd.underlying22 F.ti3 rfl rfl rfl ?_
  intro b42
  refine lst_append rfl rfl rfl Tryd.underlying22 F.ti3 rfl rfl rfl (by decide) (by decide) ?_
  intro A2 c2
  refine lst_assign rfl rfl ?_
  refine lst_nil ?_
  refine ex_block_normal ?_
  refine ex_then ?_
  refine cod_region ?_
  refine lst_int (v := .int .i64 1) rfl rfl rfl (fun w => bin_add w (by decide)) ?_
  refine lst_move rfl rfl ?_
  refine lst_nil ?_
  refine ex_rounds ?_
  refine cod_seq ?_
  refine cod_region ?_
  refine lst_int rfl rfl rfl bin_lss ?_
  refine lst_nil ?_
  refine ex_then ?_
  refine cod_seq ?_
  refine cod_cond_false rfl ?_
  refine cod_exit ?_
  refine ex_then_exit ?_
  refine ex_then_exit ?_
  refine ex_block_exit ?_
  refine ex_then ?_
  refine cod_seq ?_
  refine cod_region ?_
  refine lst_move rfl rfl ?_
  refine lst_loadN rfl rfl F.agg88 F.ti88 ?_
  refine lst_fn0 (v := .int .i64 ((st * sumN l - p : Nat) : Int)) (vs := [_]) rfl rfl F.ent29 (fun a w ha => (sleft_c st (st * sumN l) p (by omega) hM.p60 w).mono (fun e w' h => ⟨by rw [h.1, show ((st * sumN l : Nat) : Int) - (p : Int) = ((st * sumN l - p : Nat) : Int) by omega], h.2⟩)) ?_
  refine lst_assign rfl rfl ?_
  refine lst_assign rfl rfl ?_
  refine lst_assign rfl rfl ?_
  refine lst_nil ?_
  refine ex_then ?_
  refine cod_ret ?_
  exact ex_ret rfl (fun a w ha => res_three rfl rfl rfl rfl ha) (fun a w ha => ⟨A2, c2, rfl, ha.grown (by repeat (first | exact List.Sublist.refl _ | exact List.nil_sublist _ | refine List.Sublist.cons_cons _ ?_ | refine List.Sublist.cons _ ?_))⟩)

theorem crushing_c (lA : Option Addr) (n lc st p : Nat) (w : World) : Calls Tryd.prog 12 #[.slice lA n lc, .int .i64 (st : Int), .int .i64 (p : Int)] w fun e w' => ∃ Lb Sb Wb : Nat, e = .returned (.agg [.slice (some ⟨Lb, 0, none⟩) 1 1, .slice (some ⟨Sb, 0, none⟩) 1 1, .int .i64 1, .slice (some ⟨Wb, 0, none⟩) 1 1].toArray) ∧ Grew w w' [.blk Wb (.cells [.int .i64 1, .int .i64 (-1), .int .i64 (p : Int), .int .i64 0].toArray 75 (0, 0)), .blk Sb (.cells [.int .i64 (st : Int)].toArray 3 (0, 0)), .blk Lb (.cells [.slice lA n lc].toArray 22 (0, 0))] := by
  refine enter (N := 15) [(0, .slice lA n lc), (1, .int .i64 (st : Int)), (2, .int .i64 (p : Int))] Tryd.func12 rfl Tryd.ntmps12 rfl rfl ?_
  refine cod_seq ?_
  refine cod_region ?_
  refine lst_alloc rfl F.ti40 ?_
  intro b6
  refine lst_nil ?_
  refine ex_then ?_
  refine cod_seq ?_
  refine cod_region ?_
  refine lst_move rfl rfl ?_
  refine lst_lit (vs := [(0, _)]) rfl rfl Tryd.underlying37 F.ti22 rfl rfl rfl ?_
  intro b8
  refine lst_move rfl rfl ?_
  refine lst_lit (vs := [(0, _)]) rfl rfl Tryd.underlying22 F.ti3 rfl rfl rfl ?_
  intro b10
  refine lst_move rfl rfl ?_
  refine lst_struct (vs := [(0, _), (1, _), (2, _)]) (l' := [_, _, _, _]) rfl rfl F.ti75 F.pl75 (.cons rfl rfl (.cons rfl rfl (.cons rfl rfl (.nil _)))) rfl ?_
  refine lst_litN (vs := [(0, _)]) [.int .i64 1, .int .i64 (-1), .int .i64 (p : Int), .int .i64 0] rfl rfl Tryd.underlying38 F.ti75 rfl rfl rfl (Lit.agg rfl rfl) ?_
  intro b13
  refine lst_struct (vs := [(0, _), (1, _), (2, _), (3, _)]) (l' := [_, _, _, _]) rfl rfl F.ti40 F.pl40 (.cons rfl rfl (.cons rfl rfl (.cons rfl rfl (.cons rfl rfl (.nil _))))) rfl ?_
  refine lst_store rfl rfl F.ti40 rfl ?_
  refine lst_nil ?_
  refine ex_then ?_
  refine cod_ret ?_
  exact ex_ret rfl (fun a w ha => res_cellN (C := ⟨Tryd.prog, _, _, _, _⟩) (fn := Tryd.f12) rfl rfl F.agg40 F.ti40 rfl ha) (fun a w ha => ⟨b8, b10, b13, rfl, ha.grown (by repeat (first | exact List.Sublist.refl _ | exact List.nil_sublist _ | refine List.Sublist.cons_cons _ ?_ | refine List.Sublist.cons _ ?_))⟩)

end Go.Proofs.YthkbagikmbcphaaDoor.N
namespace Go.Proofs.YthkbagikmbcphaaDoor.N
open Go Go.RowKit Go.Proofs
/-- A loaf that is right. -/
structure LoafOk (l : List Nat) : Prop where
  len1 : 1 ≤ l.length
  len4 : l.length ≤ 4
  low : ∀ (i : Nat) x, l[i]? = some x → 1 ≤ x
  high : ∀ (i : Nat) x, l[i]? = some x → x ≤ 9
  desc : ∀ (i : Nat) x y, l[i]? = some x → l[i + 1]? = some y → y ≤ x
/-- A loaf on its way: the next slice is n. -/
def LoafP (l : List Nat) (n : Nat) : Prop := 1 ≤ n ∧ n ≤ 9 ∧ (∀ (i : Nat) x, l[i]? = some x → n ≤ x ∧ x ≤ 9) ∧ ∀ (i : Nat) x y, l[i]? = some x → l[i + 1]? = some y → y ≤ x
theorem loafP_nil {n : Nat} (h1 : 1 ≤ n) (h2 : n ≤ 9) : LoafP [] n := ⟨h1, h2, fun i x h => by simp at h, fun i x y h => by simp at h⟩
theorem LoafP.snoc {l : List Nat} {n : Nat} (h : LoafP l n) (x : Nat) : LoafP (l ++ [n]) (max 1 (n - x)) := by
  obtain ⟨h1, h2, h3, h4⟩ := h
  have key : ∀ (i : Nat) y, (l ++ [n])[i]? = some y → l[i]? = some y ∨ i = l.length ∧ y = n := fun i y hy => by
    rcases Nat.lt_or_ge i l.length with hi | hi
    · rw [List.getElem?_append_left hi] at hy; exact .inl hy
    · rw [List.getElem?_append_right hi] at hy
      rcases Nat.lt_or_ge (i - l.length) 1 with h5 | h5
      · have h6 : i - l.length = 0 := by omega
        rw [h6] at hy
        exact .inr ⟨by omega, by simpa using hy.symm⟩
      · rw [List.getElem?_eq_none (by simpa using h5)] at hy; cases hy
  refine ⟨by omega, by omega, fun i y hy => ?_, fun i y z hy hz => ?_⟩
  · rcases key i y hy with h | ⟨_, rfl⟩
    · have := h3 i y h; omega
    · omega
  · rcases key i y hy with h | ⟨hi, rfl⟩
    · rcases key (i + 1) z hz with h' | ⟨_, rfl⟩
      · exact h4 i y z h h'
      · exact (h3 i y h).1
    · rcases key (i + 1) z hz with h' | ⟨h', _⟩
      · have := (List.getElem?_eq_some_iff.1 h').1; omega
      · omega
theorem LoafP.ok {l : List Nat} {n : Nat} (h : LoafP l n) (h1 : 1 ≤ l.length) (h4 : l.length ≤ 4) : LoafOk l :=
  ⟨h1, h4, fun i x hx => by have := h.1; have := h.2.2.1 i x hx; omega, fun i x hx => (h.2.2.1 i x hx).2, h.2.2.2⟩
theorem LoafOk.sum {l : List Nat} (h : LoafOk l) : 1 ≤ sumN l ∧ sumN l ≤ 36 := by
  have h1 := sumN_le9 l h.high
  have h2 := h.len4
  have h3 := h.len1
  refine ⟨?_, by omega⟩
  cases l with
  | nil => simp at h3
  | cons x l => have h2 := h.low 0 x rfl; rw [sumN_cons]; omega
end Go.Proofs.YthkbagikmbcphaaDoor.N
