/- Parts of the walk of the law CharFewests: Y19, YU, Y20, Y21, ChRow, RowC, RowC2, RowZ2. -/
import Derived.Test.YteppiphdbondeaaGreatSCharFewests10
import Derived.Test.YteppiphdbondeaaGreatProg
import Derived.Test.YteppiphdbondeaaGreatSCharFewests09
import Derived.Test.YteppiphdbondeaaGreatSCharFewests03
import Derived.Test.YteppiphdbondeaaGreatSCharFewests07
import Derived.Test.YteppiphdbondeaaGreatSCharFewests04
import Derived.Test.YteppiphdbondeaaGreatRows
import Derived.ChangeSame
import Derived.ChangeVars
import Derived.JoinedOf
import Derived.RowKit
import Derived.RowKitTokens
import Derived.WitnessAt
import Derived.Stop.Joined
import Derived.ProofKit
import Derived.SizedLaws
import Derived.OpenShut
import Derived.Conc.Holds
import Derived.Deep.Slices
import Derived.Deep.Strs
namespace Go.Proofs.YteppiphdbondeaaGreat.N
set_option linter.unusedSectionVars false
open Go.RowKit
section
variable [I:Sys]
variable {dA fA:Option Addr} {dc fc:Nat} {dz:List Int} {fz:List FltZ} {kz:Int}
theorem F.ent64:Enters Tryz.prog 64:=jE Tryz.func64 rfl kr
theorem zYh (hfl:fz.length<1000000) (hdl:dz.length<1000000) (hk:chk fz kz dz≠0) (w:World) (hF:RdL FltZ.cells 4 w fA fz) (hD:RdL zcell 1 w dA dz):Calls Tryz.prog 15 #[.agg #[.slice fA fz.length fc,.int .i64 kz,.slice dA dz.length dc]] w fun e w'=>e=.returned (.tuple #[.slice none 0 0,.int .i64 0,.int .i64 ((chk fz kz dz:Nat):Int)])∧Grew w w' []:=by
 refine enter (N:=26) [(0,.agg #[.slice fA fz.length fc,.int .i64 kz,.slice dA dz.length dc])] Tryz.func15 J Tryz.ntmps15 J J (csr (jR J J ?_));intro b1;refine zH J J (zH J J (lax J J (zG (csr (jF J J F.agg25 F.ti25 (jJ (v:=.int .i64 ((chk fz kz dz:Nat):Int)) (vs:=[_]) J J F.ent33 (fun a w ha=>zB6 hfl hdl w (hF.later ha.below) (hD.later ha.below)) (lax J J (csr (zA J J (zD J J J qN ?_))))))))))
 refine lnx (zL J (fun hc0=>?_) (fun hc0=>?_))
 ·exact csr (zA J J (zH J J (zH J J (lax J J (zX (zW (jB J (fun a w ha=>xH J J J J ha) (fun a w ha=>⟨rfl,ha.grown nsl⟩))))))))
 ·exfalso;omega
  done

theorem zZz (hfl:fz.length<1000000) (hdl:dz.length<1000000) {rp:Bool} (hk:chk fz kz dz≠0) (w:World) (hF:RdL FltZ.cells 4 w fA fz) (hD:RdL zcell 1 w dA dz):Calls Tryz.prog 58 #[.agg #[.slice fA fz.length fc,.int .i64 kz,.slice dA dz.length dc],.bool rp] w fun e w'=>e=.returned (.tuple #[.slice none 0 0,.int .i64 0,.int .i64 ((chk fz kz dz:Nat):Int)])∧Grew w w' []:=by
 refine enter (N:=26) [(0,.agg #[.slice fA fz.length fc,.int .i64 kz,.slice dA dz.length dc]),(1,.bool rp)] Tryz.func58 J Tryz.ntmps58 J J (csr (jR J J ?_));intro b2;refine zH J J (zH J J (lax J J (zG (csr (jF J J F.agg25 F.ti25 (jJ (v:=.int .i64 ((chk fz kz dz:Nat):Int)) (vs:=[_]) J J F.ent34 (fun a w ha=>zPr hfl hdl w (hF.later ha.below) (hD.later ha.below)) (lax J J (csr (zA J J (zD J J J qN ?_))))))))))
 refine lnx (zL J (fun hc0=>?_) (fun hc0=>?_))
 ·exact csr (zA J J (zH J J (zH J J (lax J J (zX (zW (jB J (fun a w ha=>xH J J J J ha) (fun a w ha=>⟨rfl,ha.grown nsl⟩))))))))
 ·exfalso;omega
  done

theorem zZc {kiln:Nat} {fs:List Flt} {days:List Nat} (hc:ChV fs kiln days) {rp:Bool} (w:World) (hF:RdL Flt.cells 4 w fA fs) (hD:RdL ncell 1 w dA days):Calls Tryz.prog 58 #[.agg (CA fA fs.length fc kiln dA days.length dc).toArray,.bool rp] w fun e w'=>∃(A:Option Addr) (c:Nat) (R S:List Meta),(((bO (lasR fs rp) fs kiln days days.length (start fs)).is=true∧R.map (·.2.2)=planN (lasR fs rp) fs kiln days∧e=.returned (.tuple #[.slice A R.length c,.int .i64 (((bO (lasR fs rp) fs kiln days days.length (start fs)).f:Nat):Int),.int .i64 0]))∨((bO (lasR fs rp) fs kiln days days.length (start fs)).is=false∧R=[]∧e=.returned (.tuple #[.slice none 0 0,.int .i64 0,.int .i64 11])))∧(∀m∈R,m∈S)∧Grew w w' (.row 23 1 A R.length c (R.map mcell)::S.map mrow):=by
 refine enter (N:=26) [(0,.agg (CA fA fs.length fc kiln dA days.length dc).toArray),(1,.bool rp)] Tryz.func58 J Tryz.ntmps58 J J (csr (jR J J ?_));intro b2;refine zH J J (zH J J (lax J J (zG (csr (jF J J F.agg25 F.ti25 ?_)))))
 refine jJ (v:=.int .i64 0) (vs:=[_]) J J F.ent34 (fun a w ha=>by
  have h:=zPr (fA:=fA) (dA:=dA) (fc:=fc) (dc:=dc) (fs:=fs.map Flt.toZ) (kiln:=(kiln:Int)) (days:=toZs days) (by have:=hc.f3;simp;omega) (by have:=hc.d4;simp[toZs];omega) w (RdL.mapped Flt.toZ (hF.later ha.below) (fun _=>rfl)) (RdL.mapped (fun (n:Nat)=>(n:Int)) (hD.later ha.below) (fun _=>rfl));rw[chk0 hc] at h
  simpa[toZs] using h) ?_
 refine lax J J (csr (zA J J (zD J J J qN ?_)))
 refine lnx (zL J (fun hc0=>?_) (fun hc0=>?_))
 ·exact absurd J hc0
  done
 ·refine zT (zE (csr (jF J J F.agg25 F.ti25 (zA J J (kT (X:=Option Addr×Nat×List Meta×List Meta) (vs:=[_,_]) (p:=fun y=>(((bO (lasR fs rp) fs kiln days days.length (start fs)).is=true∧y.2.2.1.map (·.2.2)=planN (lasR fs rp) fs kiln days)∨((bO (lasR fs rp) fs kiln days days.length (start fs)).is=false∧y.2.2.1=[]∧y.1=none∧y.2.1=0))∧∀m∈y.2.2.1,m∈y.2.2.2) (val:=fun y=>.tuple #[.slice y.1 y.2.2.1.length y.2.1,.int .i64 (encO (bO (lasR fs rp) fs kiln days days.length (start fs)))]) (rs:=fun y=>.row 23 1 y.1 y.2.2.1.length y.2.1 (y.2.2.1.map mcell)::y.2.2.2.map mrow) J J F.ent64 (fun a w ha=>(zVd hc.w w (hF.later ha.below) (hD.later ha.below)).mono (fun e w' h=>by obtain⟨A',c',R',S',h1,h2,h3,h4⟩:=h;exact⟨(A',c',R',S'),⟨h1,h2⟩,h3,h4⟩)) ?_)))));rintro⟨A,c,R,S⟩ ⟨hcase,hRS⟩;dsimp only at hcase hRS ⊢;have hbl:=zFn (las:=(lasR fs rp)) (kiln:=kiln) (days:=days) hc.f3 days.length (start fs);have hd4:=hc.d4;have heg:=zJt (bO (lasR fs rp) fs kiln days days.length (start fs));refine zA J J (jC J J J (jC J J J (zH J J (lax J J (zG (csr (zA J J (zD J J J kD ?_))))))))
  refine lnx (zL J (fun hc1=>?_) (fun hc1=>?_))
  ·refine csr (zH J J (zH J J (lax J J (zX (zW ?_)))))
   exact jB J (fun a w ha=>xH J J J J ha) (fun a w ha=>⟨A,c,R,S,.inr (by
    rcases hcase with ⟨h1,_⟩|⟨h1,h2,_,_⟩
    ·rw[zHy h1] at hc1;omega
    ·exact⟨h1,h2,rfl⟩),hRS,ha.grown (.cons_cons _ (List.sublist_append_left _ _))⟩)
  ·have his:(bO (lasR fs rp) fs kiln days days.length (start fs)).is=true:=by
    cases h:(bO (lasR fs rp) fs kiln days days.length (start fs)).is with
    | true=>rfl
    | false =>
     refine absurd ?_ hc1;unfold encO;rw[h,if_neg Bool.false_ne_true]
     decide
   have henc:=zHy his;refine zT (zE (csr (zA J J (zA J J (zD (v:=.int .i64 (((bO (lasR fs rp) fs kiln days days.length (start fs)).f:Nat):Int)) J J J (fun w=>zQ0 w (by decide) (by rw[henc,show (((100*(bO (lasR fs rp) fs kiln days days.length (start fs)).f+(bO (lasR fs rp) fs kiln days days.length (start fs)).w:Nat):Int)).tdiv 100=(((bO (lasR fs rp) fs kiln days days.length (start fs)).f:Nat):Int) from by rw[Int.tdiv_eq_ediv_of_nonneg om];omega];exact zQ _ om om)) (zH J J (zH J J (lax J J (zX ?_)))))))))
   exact jB J (fun a w ha=>xH J J J J ha) (fun a w ha=>⟨A,c,R,S,.inl (by
    rcases hcase with ⟨h1,h2⟩|⟨h1,_⟩
    ·exact⟨h1,h2,rfl⟩
    ·rw[h1] at his;cases his),hRS,ha.grown (.cons_cons _ (List.sublist_append_left _ _))⟩)

end
section
variable [I:Sys]
variable {w:World} {y:List (List Nat)×Nat×Nat}
def PlanR (rp:Bool) (fs:List Flt) (kiln:Nat) (days:List Nat) (y:List (List Nat)×Nat×Nat):Prop :=
 y=if (bO (lasR fs rp) fs kiln days days.length (start fs)).is=true then (planN (lasR fs rp) fs kiln days,(bO (lasR fs rp) fs kiln days days.length (start fs)).f,0) else ([],0,11)
abbrev EP (c:Nat):List (List Nat)×Nat×Nat:=([],0,c)
theorem PlanR.uniq {rp:Bool} {fz:List FltZ} {kz:Int} {dz:List Int} {x:List (List Nat)×Nat×Nat} (h:RawP (PlanR rp) EP fz kz dz x) (h':RawP (PlanR rp) EP fz kz dz y):x=y:=RawP.uniq (P:=PlanR rp) (fun _ _ _ _ a b=>Eq.trans a (Eq.symm b)) h h'
def AnsPl (rp:Bool) (fz:List FltZ) (kz:Int) (dz:List Int) (w:World) (e:Ending) (w':World):Prop :=
 ∃(A:Option Addr) (c:Nat) (R S:List Meta) (y:List (List Nat)×Nat×Nat),RawP (PlanR rp) EP fz kz dz y∧R.map (·.2.2)=y.1∧(∀m∈R,m∈S)∧e=.returned (.tuple #[.slice A R.length c,.int .i64 (y.2.1:Int),.int .i64 (y.2.2:Int)])∧Grew w w' (.row 23 1 A R.length c (R.map mcell)::S.map mrow)
section
variable {fA dA:Option Addr} {fc dc:Nat} {fz:List FltZ} {kz:Int} {dz:List Int} {rp:Bool}
theorem zL4 {f:FuncId} {args:Array Value} (hk:chk fz kz dz≠0) (h:Calls Tryz.prog f args w fun e w'=>e=.returned (.tuple #[.slice none 0 0,.int .i64 0,.int .i64 ((chk fz kz dz:Nat):Int)])∧Grew w w' []):Calls Tryz.prog f args w fun e w'=>AnsPl rp fz kz dz w e w' :=
 h.mono fun _ _ ⟨h1,h2⟩=>⟨none,0,[],[],([],0,chk fz kz dz),.inl ⟨hk,rfl⟩,rfl,fun _ h=>(nomatch h),h1,h2.nilRow 23 1⟩
theorem zOq {fs:List Flt} {kiln:Nat} {days:List Nat} {e:Ending} {w':World} {A:Option Addr} {c:Nat} {R S:List Meta} (hc:ChV fs kiln days)
  (h:((bO (lasR fs rp) fs kiln days days.length (start fs)).is=true∧R.map (·.2.2)=planN (lasR fs rp) fs kiln days∧e=.returned (.tuple #[.slice A R.length c,.int .i64 (((bO (lasR fs rp) fs kiln days days.length (start fs)).f:Nat):Int),.int .i64 0]))∨((bO (lasR fs rp) fs kiln days days.length (start fs)).is=false∧R=[]∧e=.returned (.tuple #[.slice none 0 0,.int .i64 0,.int .i64 11])))
  (hRS:∀m∈R,m∈S) (hg:Grew w w' (.row 23 1 A R.length c (R.map mcell)::S.map mrow)):AnsPl rp (fs.map Flt.toZ) kiln (toZs days) w e w':=by
 rcases h with ⟨h1,h2,h3⟩|⟨h1,h2,h3⟩
 ·exact⟨A,c,R,S,(planN (lasR fs rp) fs kiln days,(bO (lasR fs rp) fs kiln days days.length (start fs)).f,0),.inr ⟨fs,kiln,days,hc,rfl,rfl,rfl,by unfold PlanR;rw[if_pos h1]⟩,h2,hRS,h3,hg⟩
 ·exact⟨none,0,[],[],([],0,11),.inr ⟨fs,kiln,days,hc,rfl,rfl,rfl,by unfold PlanR;rw[if_neg (by rw[h1];simp)]⟩,rfl,fun _ h=>(nomatch h),h3,Grew.nilRow hg.less 23 1⟩
theorem zW6 (hfl:fz.length<1000000) (hdl:dz.length<1000000) (w:World) (hF:RdL FltZ.cells 4 w fA fz) (hD:RdL zcell 1 w dA dz):Calls Tryz.prog 15 #[cz3 fA dA fc dc fz kz dz] w fun e w'=>AnsPl false fz kz dz w e w':=by
 by_cases hk:chk fz kz dz=0
 ·obtain⟨fs,kiln,days,hc,rfl,rfl,rfl⟩:=zMd hk;unfold cz3;rw[List.length_map,zAg];refine (zN5 hc w (zVf hF) (zTw hD)).mono fun e w' ⟨oA,oc,mr,h1,h2⟩=>?_;rw[<-List.length_reverse] at h2;refine zOq (A:=oA) (c:=oc) (R:=mr.reverse) (S:=mr) hc ?_ (fun m hm=>List.mem_reverse.1 hm) h2
  rcases h1 with ⟨a,b,c⟩|⟨a,b,c⟩
  ·exact .inl ⟨a,b.trans (zN2 _ _).symm,by rw[List.length_reverse];exact c⟩
  ·exact .inr ⟨a,by rw[b];rfl,c⟩
 ·exact zL4 hk (zYh hfl hdl hk w hF hD)
theorem jAn (hfl:fz.length<1000000) (hdl:dz.length<1000000) (w:World) (hF:RdL FltZ.cells 4 w fA fz) (hD:RdL zcell 1 w dA dz):Calls Tryz.prog 58 #[cz3 fA dA fc dc fz kz dz,.bool rp] w fun e w'=>AnsPl rp fz kz dz w e w':=by
 by_cases hk:chk fz kz dz=0
 ·obtain⟨fs,kiln,days,hc,rfl,rfl,rfl⟩:=zMd hk;unfold cz3;rw[List.length_map,zAg];refine (zZc (rp:=rp) hc w (zVf hF) (zTw hD)).mono fun e w' ⟨A,c,R,S,h1,h2,h3⟩=>zOq hc h1 h2 h3
 ·exact zL4 hk (zZz hfl hdl hk w hF hD)
end
theorem zR2 {rp:Bool} {fz:List FltZ} {kz:Int} {dz:List Int} (h:RawP (PlanR rp) EP fz kz dz y):y.1.length<=4∧∀l∈y.1,l.length<=3:=by
 have hpl:∀(las:Mor->Bool) (fs:List Flt) (kiln:Nat) (days:List Nat) n m,((srO las fs kiln days).planL n m).length=n∧(fs.length<=3->∀l∈(srO las fs kiln days).planL n m,l.length<=3):=by
  intro las fs kiln days n
  induction n with
  | zero=>exact fun m=>⟨rfl,fun _ l hl=>(nomatch hl)⟩
  | succ n ih =>
   intro m;refine⟨congrArg Nat.succ (ih _).1,fun h3 l hl=>?_⟩
   rcases List.mem_cons.1 hl with rfl|hl
   ·unfold Srch.pick
    cases hf:(exts [] (srO las fs kiln days).fs.length).find? fun l=>decide ((srO las fs kiln days).stp n m l=(srO las fs kiln days).bst (n+1) m) with
    | none=>exact Nat.zero_le _
    | some l =>
     have:=zFt l (List.mem_of_find?_eq_some hf);show l.length<=3;rw[this];exact h3
   ·exact (ih _).2 h3 l hl
 rcases h with ⟨_,rfl⟩|⟨fs,kiln,days,hc,_,_,_,rfl⟩
 ·exact⟨Nat.zero_le _,fun _ h=>(nomatch h)⟩
 ·split
  ·obtain⟨h1,h2⟩:=hpl (lasR fs rp) fs kiln days days.length (start fs);exact⟨by show (planN _ _ _ _).length<=4;unfold planN;rw[h1];exact hc.d4,h2 hc.f3⟩
  ·exact⟨Nat.zero_le _,fun _ h=>(nomatch h)⟩
theorem zNn {C:Ctx} {fr:List (Nat×Value)} {hp:List Res} {a:Act} (ha:At C fr hp a w) {A:Option Addr} {c:Nat} {R S:List Meta} (h1:Res.row 23 1 A R.length c (R.map mcell)∈hp) (hRS:∀m∈R,m∈S) (h2:∀r∈S.map mrow,r∈hp):RdZ w A (R.map zmeta):=by
 have h:=jBx (mr:=R.reverse) (A:=A) (c:=c) ha (by rw[List.length_reverse,List.reverse_reverse];exact h1) fun m hm=>h2 _ (List.mem_map_of_mem (hRS m (List.mem_reverse.1 hm)))
 rwa[List.reverse_reverse] at h
end
section
variable [I:Sys]
theorem F.ent58:Enters Tryz.prog 58:=jE Tryz.func58 rfl kr
theorem zVq {fA dA:Option Addr} {fc dc:Nat} {fz:List FltZ} {kz:Int} {dz:List Int} (hfl:fz.length<1000000) (hdl:dz.length<1000000) (w:World) (hF:RdL FltZ.cells 4 w fA fz) (hD:RdL zcell 1 w dA dz):Calls Tryz.prog 16 #[.agg #[.slice fA fz.length fc,.int .i64 kz,.slice dA dz.length dc]] w fun e w'=>AnsPl false fz kz dz w e w':=by
 refine enter (N:=10) [(0,.agg #[.slice fA fz.length fc,.int .i64 kz,.slice dA dz.length dc])] Tryz.func16 J Tryz.ntmps16 J J (csr (jR J J ?_));intro b1;refine zH J J (zH J J (lax J J (csr (jF J J F.agg25 F.ti25 (kT (X:=Option Addr×Nat×List Meta×List Meta×(List (List Nat)×Nat×Nat)) (vs:=[_,_]) (p:=fun y=>RawP (PlanR false) EP fz kz dz y.2.2.2.2∧y.2.2.1.map (·.2.2)=y.2.2.2.2.1∧∀m∈y.2.2.1,m∈y.2.2.2.1) (val:=fun y=>.tuple #[.slice y.1 y.2.2.1.length y.2.1,.int .i64 (y.2.2.2.2.2.1:Int),.int .i64 (y.2.2.2.2.2.2:Int)]) (rs:=fun y=>.row 23 1 y.1 y.2.2.1.length y.2.1 (y.2.2.1.map mcell)::y.2.2.2.1.map mrow) J J F.ent58 (fun a w ha=>(jAn hfl hdl w (hF.later ha.below) (hD.later ha.below)).mono (fun e w' h=>by obtain⟨A',c',R',S',y,h1,h2,h3,h4,h5⟩:=h;exact⟨(A',c',R',S',y),⟨h1,h2,h3⟩,h4,h5⟩)) ?_)))));rintro⟨A,c,R,S,y⟩ ⟨hp,hR,hRS⟩;dsimp only at hp hR hRS ⊢;exact jC J J J (jC J J J (jC J J J (zH J J (zH J J (lax J J (zX (jB J (fun a w ha=>xH J J J J ha) (fun a w ha=>⟨A,c,R,S,y,hp,hR,hRS,rfl,ha.grown (.cons_cons _ (List.sublist_append_left _ _))⟩))))))))

theorem F.ent16:Enters Tryz.prog 16:=jE Tryz.func16 rfl kr
theorem zM3 [R:ReaC] {fA dA nA:Option Addr} {fc dc0 nc:Nat} {fz:List FltZ} {kz sg pw gn nw:Int} {wd:Bool} {dz nums:List Int} (f0:fA=none->fz=[]∧fc=0) (d0:dA=none->dz=[]∧dc0=0) (hw:∀y∈fz,y.wf) (hf:FltZ.wf ⟨pw,gn,nw,wd⟩) (w:World) (hF:RdL FltZ.cells 4 w fA fz) (hD:RdL zcell 1 w dA dz) (hN:RdL icell 1 w nA nums) (hR:RdC w):Calls Tryz.prog 3 #[.agg #[.slice fA fz.length fc,.int .i64 kz,.slice dA dz.length dc0],.agg #[.int .i64 pw,.int .i64 gn,.int .i64 nw,.bool wd],.int .i64 sg,.slice nA nums.length nc] w fun e w'=>e=.returned (.bool true)∧Grew w w' []:=by
 refine enter (N:=77) [(0,.agg #[.slice fA fz.length fc,.int .i64 kz,.slice dA dz.length dc0]),(1,.agg #[.int .i64 pw,.int .i64 gn,.int .i64 nw,.bool wd]),(2,.int .i64 sg),(3,.slice nA nums.length nc)] Tryz.func3 J Tryz.ntmps3 J J (csr (jR J J ?_));intro b4;refine jR J J ?_;intro b5;refine lax J J (zG (csr (jF J J F.agg25 F.ti25 (jJ (v:=.bool (decide (20<fz.length)||decide (20<dz.length)||(decide (fz.length=3)&&decide (2<dz.length)))) (vs:=[_]) J J F.ent10 (fun a w ha=>jBd w) ?_))))
 refine lnx (kS J (fun hc0=>?_) (fun hc0=>?_))
 ·exact csr (jJ (v:=.bool true) (vs:=[]) J J F.ent11 (fun a w ha=>zLt w (hR.later ha.below)) (lax J J (zX (zW (jB J (fun a w ha=>jM J J ha) (fun a w ha=>⟨rfl,ha.grown nsl⟩))))))
 ·refine zT (zE (zG (kC [] F.follows 7 J [false,false,false,false,false,false,false] J (zC 0 J J J (kW J F.agg25 F.ti25) (zC 1 J J J (kW J F.agg27 F.ti27) (zC 2 J J J (zO J) (zC 3 J J J (zO J) (an1 4 J (kT (X:=Nat) (vs:=[_]) (p:=fun _=>True) (val:=fun b=>pt b) (rs:=fun b=>[.blk b (hatO nA nums.length nc 0 11400714819323198485)]) J J F.ent13 (fun a w ha=>(zXb nA nums.length nc w).mono (fun e w' h=>by obtain⟨b,h1,h2⟩:=h;exact⟨b,trivial,h1,h2⟩)) ?_)))))))));intro hb _;dsimp only[List.cons_append,List.nil_append];refine zB (anb (an1 5 J (zA4 (X:=Nat×Nat×Nat×CZ×CZ) (vs:=[_,_,_,_]) hb (fun y=>hatO nA nums.length nc y.1 y.2.1) (fun y=>.row 25 3 (some ⟨y.2.2.1,0,none⟩) 4 4 ([(⟨fA,fc,fz,kz,dA,dc0,dz⟩:CZ),y.2.2.2.1,y.2.2.2.1,y.2.2.2.2].flatMap CZ.cells)::(y.2.2.2.1.rows++y.2.2.2.2.rows)) (fun y=>y.1<=0+110∧y.2.1<18446744073709551616∧y.2.2.2.1.Fine∧y.2.2.2.1.Ok∧y.2.2.2.2.Ok∧y.2.2.2.2.fz.length=y.2.2.2.1.fz.length∧y.2.2.2.2.dz.length=y.2.2.2.1.dz.length) (fun y=>.slice (some ⟨y.2.2.1,0,none⟩) 4 4) J J F.ent12 (fun a w ha=>(zVe J J hN (tk:=0) om om hf ha).mono (fun e w' h=>by obtain⟨t',s',b',o',q',h1,h2,h3,h4,h5,h6,h7,h8,h9⟩:=h;exact⟨(t',s',b',o',q'),⟨h1,h2,h3,h4,h5,h6,h7⟩,h8,h9⟩)) ?_)));rintro⟨tk1,st1,bs,own,other⟩ ⟨htk1,hst1,hfine,hok1,hok2,hl2,hd2⟩;dsimp only[CZ.rows,List.cons_append,List.nil_append] at htk1 hst1 hfine hok1 hok2 hl2 hd2 ⊢;refine zB (anb (zC 6 J J J (kJ J) (adn (zE (zG (csr (lax J J (zV ?_))))))));obtain⟨hv1,hv2⟩:=zZ6 hc0;refine xP (G:=Nat) (fun k=>k<=4) (fun k=>4-k) (fun k=>[(9,.slice (some ⟨bs,0,none⟩) 4 4),(10,.int .i64 (k:Int))]) (fun _=>[.row 25 3 (some ⟨bs,0,none⟩) 4 4 (([(⟨fA,fc,fz,kz,dA,dc0,dz⟩:CZ),own,own,other]:List CZ).flatMap CZ.cells),.row 27 4 own.fA own.fz.length own.fc (own.fz.flatMap FltZ.cells),.row 3 1 own.dA own.dz.length own.dc (own.dz.flatMap zcell),.row 27 4 other.fA other.fz.length other.fc (other.fz.flatMap FltZ.cells),.row 3 1 other.dA other.dz.length other.dc (other.dz.flatMap zcell)]) 0 (Nat.zero_le _) sbn pkk ?_;intro k hk0;(try dsimp only at hk0 ⊢);refine zG (csr (zA J J (zA J J (jQ J J U30 (zD J J J kD ?_)))))
  refine lnx (zL J (fun hc1=>?_) (fun hc1=>?_))
  ·have hk4:k<4:=om;obtain⟨x,hx⟩:∃x,([(⟨fA,fc,fz,kz,dA,dc0,dz⟩:CZ),own,own,other]:List CZ)[k]?=some x:=⟨_,List.getElem?_eq_getElem hk4⟩;have hxok:x.Ok:=zQy ⟨hw,f0,d0,hv1,hv2⟩ hok1 hok2 hx;have hxr:Seen w [.row 25 3 (some ⟨bs,0,none⟩) 4 4 (([(⟨fA,fc,fz,kz,dA,dc0,dz⟩:CZ),own,own,other]:List CZ).flatMap CZ.cells),.row 27 4 own.fA own.fz.length own.fc (own.fz.flatMap FltZ.cells),.row 3 1 own.dA own.dz.length own.dc (own.dz.flatMap zcell),.row 27 4 other.fA other.fz.length other.fc (other.fz.flatMap FltZ.cells),.row 3 1 other.dA other.dz.length other.dc (other.dz.flatMap zcell)] x:=zQy (P:=Seen w _) (Seen.old ⟨hF,hD⟩) (Seen.own (by intro r hr;simp only[CZ.rows,List.mem_cons,List.not_mem_nil,or_false] at hr ⊢;rcases hr with rfl|rfl<;>simp)) (Seen.own (by intro r hr;simp only[CZ.rows,List.mem_cons,List.not_mem_nil,or_false] at hr ⊢;rcases hr with rfl|rfl<;>simp)) hx;obtain⟨xA,xc,xf,xk,xD,xd,xz⟩:=x;obtain⟨xw,xf0,xd0,xfl,xdl⟩:=hxok;dsimp only at xw xf0 xd0 xfl xdl;refine zT (zE (zG (zV (csr (zA J J (zA J J (jU (j:=k) J J J U30 F.ti25 J hk4 ?_)))))))
   refine qV (l:=[.slice xA xf.length xc,.int .i64 xk,.slice xD xz.length xd]) J J F.agg25 F.ti25 J (fun a w ha j u hu=>by
    obtain⟨b9,o9,h1,_,h3⟩:=qB ha (cells:=CZ.cells) (size:=3) (e:=25) (c:=4) (n:=4) (l:=([(⟨fA,fc,fz,kz,dA,dc0,dz⟩:CZ),own,own,other]:List CZ)) (fun _=>rfl) (InR.mem (A:=some ⟨bs,0,none⟩)) J (by simp)
    cases h1
    exact h3 k _ hx j u hu) ?_
   refine kT (X:=Option Addr×Nat×Option Addr×Nat) (vs:=[_]) (p:=fun _=>True) (val:=fun g=>.agg #[.slice g.1 xf.length g.2.1,.int .i64 xk,.slice g.2.2.1 xz.length g.2.2.2]) (rs:=fun g=>[.row 27 4 g.1 xf.length g.2.1 (xf.flatMap FltZ.cells),.row 3 1 g.2.2.1 xz.length g.2.2.2 (xz.flatMap zcell)]) J J F.ent14 (fun a w ha=>(jDb (fz:=xf) (dz:=xz) xf0 xd0 om om w (hxr (fun r hr=>by repeat (first|exact hr|apply List.mem_cons_of_mem)) ha).f (hxr (fun r hr=>by repeat (first|exact hr|apply List.mem_cons_of_mem)) ha).d).mono (fun e w' h=>by obtain⟨A',c',D',dc',h1,h2⟩:=h;exact⟨(A',c',D',dc'),trivial,h1,h2⟩)) ?_;rintro⟨A1,c1,D1,dc1⟩ -;dsimp only[List.cons_append,List.nil_append];refine zY J F.ti25 ?_;intro b11;refine zF J J F.ti25 J (lnx (csr (jF J J F.agg25 F.ti25 (kT (X:=Option Addr×Nat×List Meta×List Meta×(List (List Nat)×Nat×Nat)) (vs:=[_]) (p:=fun y=>RawP (PlanR false) EP xf xk xz y.2.2.2.2∧y.2.2.1.map (·.2.2)=y.2.2.2.2.1∧∀m∈y.2.2.1,m∈y.2.2.2.1) (val:=fun y=>.tuple #[.slice y.1 y.2.2.1.length y.2.1,.int .i64 (y.2.2.2.2.2.1:Int),.int .i64 (y.2.2.2.2.2.2:Int)]) (rs:=fun y=>.row 23 1 y.1 y.2.2.1.length y.2.1 (y.2.2.1.map mcell)::y.2.2.2.1.map mrow) J J F.ent15 (fun a w ha=>(zW6 (fz:=xf) (dz:=xz) om om w (qB ha (cells:=FltZ.cells) (size:=4) (e:=27) (c:=c1) (n:=xf.length) (l:=xf) (fun _=>rfl) (InR.mem (A:=A1)) J) (qB ha (cells:=zcell) (size:=1) (e:=3) (c:=dc1) (n:=xz.length) (l:=xz) (fun _=>rfl) (InR.mem (A:=D1)) J)).mono (fun e w' h=>by obtain⟨A',c',R',S',y,h1,h2,h3,h4,h5⟩:=h;exact⟨(A',c',R',S',y),⟨h1,h2,h3⟩,h4,h5⟩)) ?_))));rintro⟨A5,c5,R1,S1,y1⟩ ⟨hp1,hR1,hRS1⟩;dsimp only at hp1 hR1 hRS1 ⊢;refine wJ (List.Perm.cons _ List.perm_append_comm) ?_;simp only[List.cons_append,List.nil_append];refine zA J J (jC J J J (jC J J J (jC J J J (zH J J (zH J J (lax J J (csr (zA J J (zA J J (jU (j:=k) J J J U30 F.ti25 J hk4 ?_))))))))))
   refine qV (l:=[.slice xA xf.length xc,.int .i64 xk,.slice xD xz.length xd]) J J F.agg25 F.ti25 J (fun a w ha j u hu=>by
    obtain⟨b9,o9,h1,_,h3⟩:=qB ha (cells:=CZ.cells) (size:=3) (e:=25) (c:=4) (n:=4) (l:=([(⟨fA,fc,fz,kz,dA,dc0,dz⟩:CZ),own,own,other]:List CZ)) (fun _=>rfl) (InR.mem (A:=some ⟨bs,0,none⟩)) J (by simp)
    cases h1
    exact h3 k _ hx j u hu) ?_
   refine kT (X:=Option Addr×Nat×List Meta×List Meta×(List (List Nat)×Nat×Nat)) (vs:=[_]) (p:=fun y=>RawP (PlanR false) EP xf xk xz y.2.2.2.2∧y.2.2.1.map (·.2.2)=y.2.2.2.2.1∧∀m∈y.2.2.1,m∈y.2.2.2.1) (val:=fun y=>.tuple #[.slice y.1 y.2.2.1.length y.2.1,.int .i64 (y.2.2.2.2.2.1:Int),.int .i64 (y.2.2.2.2.2.2:Int)]) (rs:=fun y=>.row 23 1 y.1 y.2.2.1.length y.2.1 (y.2.2.1.map mcell)::y.2.2.2.1.map mrow) J J F.ent16 (fun a w ha=>(zVq (fz:=xf) (dz:=xz) om om w (hxr (fun r hr=>by repeat (first|exact hr|exact List.mem_append_left (S1.map mrow) hr|apply List.mem_cons_of_mem)) ha).f (hxr (fun r hr=>by repeat (first|exact hr|exact List.mem_append_left (S1.map mrow) hr|apply List.mem_cons_of_mem)) ha).d).mono (fun e w' h=>by obtain⟨A',c',R',S',y,h1,h2,h3,h4,h5⟩:=h;exact⟨(A',c',R',S',y),⟨h1,h2,h3⟩,h4,h5⟩)) ?_;rintro⟨A6,c6,R2,S2,y2⟩ ⟨hp2,hR2,hRS2⟩;dsimp only at hp2 hR2 hRS2 ⊢;refine wJ (List.Perm.cons _ List.perm_append_comm) ?_;simp only[List.cons_append];obtain rfl:=PlanR.uniq hp1 hp2;obtain⟨hs1,hs2⟩:=zR2 hp1;have hl1:R1.length<=4:=by rw[<-hR1,List.length_map] at hs1;exact hs1
   have hl2:R2.length<=4:=by rw[<-hR2,List.length_map] at hs1;exact hs1
   refine zA J J (jC J J J (jC J J J (jC J J J (zH J J (zH J J (lax J J (zG (kC [] F.follows 23 J [false,false,false,false,false,false,false,false,false,false,false,false,false,false,false,false,false,false,false,false,false,false,false] J (zC 0 J J J (zO J) (zC 1 J J J (zO J) (zC 2 J J J (qQ (v:=.bool false) J J (fun w=>by rw[qN,decide_eq_false (fun h=>h J)])) (zC 3 J J J (zO J) (jS 4 J J J J J kr kr kr sbl (zO J) J (jS 5 J J J J J kr kr kr sbl (zO J) J (jS 6 J J J J J kr kr kr sbl (qQ (v:=.bool false) J J (fun w=>by rw[qN,decide_eq_false (fun h=>h J)])) J (zC 7 J J J (vF J J) (zC 8 J J J (zO J) (jS 9 J J J J J kr kr kr sbl (zO J) J (jS 10 J J J J J kr kr kr sbl (zO J) J (an1 11 J (zK J J ?_)))))))))))))))))))))
   refine jJ (v:=.bool true) (vs:=[_,_]) J J F.ent17 (fun a w ha=>by
    have h:=zEb (ca:=c5) (cb:=c6) (l:=R1.map zmeta) (m:=R2.map zmeta) (by rw[List.length_map];omega) (by rw[List.length_map];omega) (fun x hx=>by obtain⟨m,hm,rfl⟩:=List.mem_map.1 hx;have h9:=hs2 m.2.2 (hR1▸List.mem_map_of_mem hm);show (zl m.2.2).length<1000000;unfold zl;rw[List.length_map];omega) (fun x hx=>by obtain⟨m,hm,rfl⟩:=List.mem_map.1 hx;have h9:=hs2 m.2.2 (hR2▸List.mem_map_of_mem hm);show (zl m.2.2).length<1000000;unfold zl;rw[List.length_map];omega) w (zNn ha (InR.mem (A:=A5)) hRS1 (fun r hr=>(by (repeat apply List.mem_cons_of_mem);exact List.mem_append_left _ hr))) (zNn ha (InR.mem (A:=A6)) hRS2 (fun r hr=>(by (repeat apply List.mem_cons_of_mem);exact List.mem_append_right _ hr)));have hz:∀R:List Meta,(R.map zmeta).map (fun x:MetaZ=>x.2.2)=(R.map (·.2.2)).map zl:=fun R=>by rw[List.map_map,List.map_map];rfl
    rw[hz,hz,hR1,hR2,decide_eq_true J,List.length_map,List.length_map] at h
    exact h) ?_
   refine zB (anb (jS 12 J J J J J kr kr kr sbl (zB3 J) J (zC 13 J J J (vF J J) (zC 14 J J J (zO J) (jS 15 J J J J J kr kr kr sbl (kW J F.agg25 F.ti25) J (jS 16 J J J J J kr kr kr sbl (zO J) J (jS 17 J J J J J kr kr kr sbl (zO J) J (jS 18 J J J J J kr kr kr sbl (jZ (j:=k) J J U30 F.ti25 J hk4) J ?_))))))))
   refine jS 19 J J J J J kr kr kr sbl (xM (l:=[.slice xA xf.length xc,.int .i64 xk,.slice xD xz.length xd]) J F.agg25 F.ti25 J (fun a w ha j u hu=>by
    obtain⟨b9,o9,h1,_,h3⟩:=qB ha (cells:=CZ.cells) (size:=3) (e:=25) (c:=4) (n:=4) (l:=([(⟨fA,fc,fz,kz,dA,dc0,dz⟩:CZ),own,own,other]:List CZ)) (fun _=>rfl) (InR.mem (A:=some ⟨bs,0,none⟩)) J (by simp)
    cases h1
    exact h3 k _ hx j u hu)) J ?_
   refine an1 20 J (zK J J (jJ (v:=.bool true) (vs:=[_,_]) J J F.ent18 (fun a w ha=>zVb (fz:=xf) (dz:=xz) xw om om w (qB ha (cells:=FltZ.cells) (size:=4) (e:=27) (c:=c1) (n:=xf.length) (l:=xf) (fun _=>rfl) (InR.mem (A:=A1)) J) (qB ha (cells:=zcell) (size:=1) (e:=3) (c:=dc1) (n:=xz.length) (l:=xz) (fun _=>rfl) (InR.mem (A:=D1)) J) (hxr (fun r hr=>by repeat (first|exact hr|exact List.mem_append_left (S1.map mrow++S2.map mrow) hr|apply List.mem_cons_of_mem)) ha).f (hxr (fun r hr=>by repeat (first|exact hr|exact List.mem_append_left (S1.map mrow++S2.map mrow) hr|apply List.mem_cons_of_mem)) ha).d) (zB (anb (jS 21 J J J J J kr kr kr sbl (zB3 J) J (zC 22 J J J (vF J J) (adn (zE (kR J (zT (zJ (zE (zM (zA J J (zD J J J (fun w=>jI w (zQ _ om om)) (zH J J (zB (qF (k+1) om tdo sbn pkk))))))))))))))))))
  ·exact jW (zN (zN (jD (zE (csr (jJ (v:=.bool true) (vs:=[]) J J F.ent11 (fun a w ha=>zLt w (hR.later ha.below)) (lax J J (zX (jB J (fun a w ha=>jM J J ha) (fun a w ha=>⟨rfl,ha.grown nsl⟩))))))))))

end
section
open Go.Conc
variable {low:Nat} {msg:Nat->Value} {tW:TypeId}
def seenZ (W:World):World:={seenW W with output:=gout [0]}
theorem zUb (W:World):Hid (Viewed W) (fun _=>False) W (seenZ W):=by
 have h:=zU9 W;exact⟨h.1,h.2,h.3,h.4,h.5,h.6,h.7,h.8,h.9,h.10⟩
theorem zS7 {W:World} {p:Addr} {u:Value} (h:W.cell? p=some u):(seenZ W).cell? p=some u:=zTd h
section
variable {P:Program} {W:World} {f:FuncId} {args:Array Value} {Post:Value->World->Prop}
theorem zP3 {F:Nat->Prop} {w w' v':World} (hk:Kept F (fun _=>False) w w') (hv:Hid F (fun _=>False) w' v') (hb:Bas W (Viewed W) (fun i=>i=0) (fun _=>F) w) (hv0:Below (seenZ W).heap.size (seenZ W) v'):Below W.heap.size W w':=by
 refine⟨hk.os.trans hb.os,hk.tape.trans hb.tape,hk.output.trans hb.output,Nat.le_trans hb.size hk.size,fun b hlt=>?_⟩
 by_cases hF:F b
 ·rw[hk.block b (Nat.lt_of_lt_of_le hlt hb.size) (.inl hF)];exact (hb.held b (hb.new b hlt hF)).2.1
 ·rw[<-hv.same b hF (fun x=>x),hv0.block b (by simpa[seenZ,seenW] using hlt)];show (seenW W).heap[b]?=_;rw[zBn]
  cases h:W.heap[b]? with
  | none=>rfl
  | some o =>
   cases o with
   | view p t=>exact absurd ((hb.held b ⟨p,t,h⟩).2.2 0 rfl) hF
   | _=>rfl
def sig0:Cst:=⟨0,0,0,[],0,false,false,false,0,0,.rest,[],[],fun _=>none,[]⟩
theorem zR3:sig0.blank:=⟨fun _=>rfl,rfl,rfl,rfl,rfl,rfl,rfl,rfl,rfl⟩
theorem zZl (low:Nat):Cok low sig0:=by
 refine⟨List.nodup_nil,rfl,fun j=>?_,fun j p h=>(by cases h),fun b hb=>(by cases hb),fun h=>(by cases h),fun h=>(by cases h),fun h=>(by cases h),by decide,rfl,.nil,zR3⟩
 constructor
 ·intro h;cases h
 ·rintro⟨p,h⟩;cases h
theorem zY1 {σ:Cst} (hok:Cok low σ) (h:σ.gh 0=some [0]):Alone (Cp low tW msg) σ∧σ.lent=[]∧∀c,¬(Cst.ts σ).Ca c:=by
 rw[zBi] at h;have hp:=hok.phase
 cases hm:σ.mn<;>rw[hm] at h<;>simp[Mn.enc] at h
 unfold Cst.phase at hp;rw[hm] at hp;obtain⟨h1,h2,h3,h4,h5,h6,h7,h8,h9⟩:=hp
 refine⟨?_,h9,fun c hc=>?_⟩
 ·refine⟨fun j hj=>zBf hj h1,?_⟩;show (Cst.ts σ).D 0=0;simp[Cst.ts,hm,Mn.deaf]
 ·rcases hc with ⟨h,_⟩|⟨h,_⟩<;>omega
theorem zK5 (hK:low=W.heap.size) (noInit:P.inits.idxOf? f=none)
  (h : @Calls P (zSys P (Cp low tW msg)) f args (seenZ W) fun e v'=>∃x,e=.returned x∧Below (seenZ W).heap.size (seenZ W) v'∧∀W',Below W.heap.size W W'->Post x W') :
  ∃N last o w' t',runNT P (N+1) (solo (G (Frame.enter P f args .normal) []) W) #[]=(.ended o w',t')∧runN P N (solo (G (Frame.enter P f args .normal) []) W)=.next last∧step P last=.ended o w'∧Go.Conc.Good P Post last o w' t':=by
 refine jBc (K:=Cp low tW msg) (σ:=sig0) (γ:=[0]) zZa hK (zUb W) J (zZl low) J (fun j hj=>zBk hj J) (fun b hb=>(by cases hb)) J J (@Gs.mono P (zSys P (Cp low tW msg)) _ _ _ _ (h []) fun g v' hs=>?_);obtain⟨e,fr,v₀,⟨x,rfl,hb,hp⟩,hr,rfl,hfn,hm,hd,hkd,fn,hf,ht,hres⟩:=hs;have hb':Below (seenZ W).heap.size (seenZ W) v':=hb.trans (hr.mono hb.size);refine⟨rfl,⟨[0],hb'.output,fun σ hok hg=>zY1 hok hg⟩,fun F w hv hbas=>?_⟩;obtain⟨w',h1,h2,h3,h4,h5⟩:=ht.ok (hres v' (Rl.refl v')) hv;have hno:P.inits.idxOf? fr.fn=none:=by rw[hfn];exact noInit
 refine⟨x,w',seen P fr.fn ((results fn fr.tmps).events P v' #[]),?_,?_,hp w' (zP3 h4 h3 hbas hb')⟩
 ·rw[<-h2];simp[G,stepG,unwind,doReturn,hm,hd,hkd,hf,h1,hno,GStep.after]
 ·rw[<-hv.size];exact fun e he=>h5 e (Go.Conc.mem_seen he)
end
theorem zBx {H:Type} {enc:TypeId×Value->H} {a:Assume} {C:Checked} {os:Os} {f:FuncId} {fn:Func} {s:ChangeSpec} {conds:List PathCond} {apart fresh handsOn again:Bool} (tW:TypeId) (msg:Nat->Value)
  (own:ownKnob C.prog.godebug=none) (started:os.Started) (noInit:C.prog.inits.idxOf? f=none) (hfn:C.prog.funcs[f]?=some fn)
  (witness:∃(w:World) (tape:Tape) (i:Input),w.os=os∧(w.forCall tape i).Shaped C.prog∧i.vars=[]∧Input.okWide C.prog (w.forCall tape i) .any w.heap.size f i ∧
   s.pre6 enc C.prog fn conds apart (w.forCall tape i).memory i.args∧a.holds C.prog (lone (Frame.enter C.prog f i.args .normal) [] (w.forCall tape i)))
  (contract:∀(W:World) (base:Nat) (args:Array Value) (ds gs:List (DataW H)) (before:List MemPlace),
   (∀(j:Nat) t v,fn.params[j]?=some t->args[j]?=some v->Value.okWide C.prog W .any base t v) ->
   DataW.Whole enc C.prog fn.params.toList s.vars apart W args.toList ds gs before ->
   conds.all (PathCond.test C.prog ⟨fn.params.toList,ds,s.plain.varTypes C.prog,gs⟩)=true ->
   (DataW.weightsEach C.prog (fn.params.toList++s.plain.varTypes C.prog) (ds++gs)).all (·<=reachBytes)=true ->
   a.holds C.prog (lone (Frame.enter C.prog f args .normal) [] W) ->
   @Calls C.prog (zSys C.prog (Cp W.heap.size tW msg)) f args (seenZ W) fun e v'=>∃x,e=.returned x∧Below (seenZ W).heap.size (seenZ W) v'∧∀W',Below W.heap.size W W'->s.post enc C.prog fn apart fresh handsOn again W args x W') :
  ReturnsInLeavingWide a C os f .any (s.pre6 enc C.prog fn conds apart) (s.post enc C.prog fn apart fresh handsOn again):=by
 refine returnsInLeavingWide_of_good own started witness ?_;intro w tape i _ _ _ hok hpre hholds;obtain⟨_,_,_,fn',hfn',_,_,_,_,hval⟩:=hok;have e:fn'=fn:=Option.some.inj (hfn'.symm.trans hfn);subst e;obtain⟨⟨ds,gs,before,hw,hc⟩,hz⟩:=hpre;have hw':=DataW.Whole.of_heap (w':=w.forCall tape i) (by rfl) hw;have hcalls:=contract (w.forCall tape i) w.heap.size i.args ds gs before hval hw' hc (hz.weights hw) hholds;obtain⟨M,last,o,w',t',h1,h2,h3,h4⟩:=zK5 J noInit hcalls;exact⟨M,last,o,w',t',h1,h2,h3,h4.mono fun v hp=>ChangeSpec.post_blind hp⟩
end
end Go.Proofs.YteppiphdbondeaaGreat.N
/- What rows of laws about char share: the program's closed facts, and the law from its call in company. -/
namespace Go.Proofs.YteppiphdbondeaaGreat.N
open Go Go.ChangeShapes Go.WideShapes Go.ChangeAt Go.RowKit Go.Proofs Go.Proofs.YteppiphdbondeaaGreat Go.Proofs.YteppiphdbondeaaGreat.Rows
set_option linter.unusedSectionVars false
theorem own_:ownKnob Tryz.prog.godebug=Option.none:=by kernel_rfl
theorem zOe:laidOutB Tryz.prog=true:=by kernel_rfl
theorem zK0:Tryz.prog.cellsOf 3=1:=by kernel_rfl
theorem zU7:Tryz.prog.underlying 23=some (.slice 3):=by kernel_rfl
theorem zNd:Tryz.prog.underlying 3=some (.int .i64):=by kernel_rfl
theorem zYx:Tryz.prog.underlying 4=some .bool:=by kernel_rfl
theorem zZ0:Tryz.prog.readableRec 23=true:=by kernel_rfl
set_option maxRecDepth 100000 in
theorem jDk:23<Tryz.prog.types.size:=of_decide_eq_true (by kernel_rfl)
theorem zIq {α:Type} {cells:α->List Value} {size:Nat} {W:World} {A:Option Addr} {l:List α} (h:RdL cells size W A l):RdL cells size (seenZ W) A l:=fun hl=>by
 obtain⟨b,o,h1,h2,h3⟩:=h hl;exact⟨b,o,h1,by simpa[seenZ,seenW] using h2,fun k x hk j u hu=>zS7 (h3 k x hk j u hu)⟩
abbrev ZS (W:World):Sys:=zSys Tryz.prog (Cp W.heap.size 158 msgM)
def orderN:List Nat:=[104,97,114,110,101,115,115,32,48,54,49,51,49,99,97,48,49,54,101,97,100,102,48,51,102,57,97,100,49,54,102,55,49,53,56,54,56,53,50,50,99,48,48,49,51,57,48,55,101,97,57,51,53,54,52,57,55,51,57,53,55,101,98,49,102,52,55,54,50,57,48,57,32,99,117,116,32,97,116,32,109,117,115,99,111,118,97,100,111,47,109,117,115,99,111,118,97,100,111,108,97,119,48,52,46,67,104,97,114,70,101,119,101,115,116,115,32,109,117,115,99,111,118,97,100,111,47,109,117,115,99,111,118,97,100,111,108,97,119,48,52,46,67,104,97,114,66,117,121,115,32,109,117,115,99,111,118,97,100,111,47,109,117,115,99,111,118,97,100,111,108,97,119,48,52,46,67,104,97,114,65,103,97,105,110,115,32,109,117,115,99,111,118,97,100,111,47,109,117,115,99,111,118,97,100,111,108,97,119,48,52,46,67,104,97,114,67,111,117,114,115,101,115,32,109,117,115,99,111,118,97,100,111,47,109,117,115,99,111,118,97,100,111,108,97,119,48,52,46,67,104,97,114,70,97,105,108,115,32,109,117,115,99,111,118,97,100,111,47,109,117,115,99,111,118,97,100,111,108,97,119,48,52,46,67,104,97,114,78,101,101,100,101,100,115,32,109,117,115,99,111,118,97,100,111,47,109,117,115,99,111,118,97,100,111,108,97,119,48,52,46,67,104,97,114,77,111,115,116,115]
def wordsN:List (List Nat):=[[104,97,114,110,101,115,115],[48,54,49,51,49,99,97,48,49,54,101,97,100,102,48,51,102,57,97,100,49,54,102,55,49,53,56,54,56,53,50,50,99,48,48,49,51,57,48,55,101,97,57,51,53,54,52,57,55,51,57,53,55,101,98,49,102,52,55,54,50,57,48,57],[99,117,116],[97,116],[109,117,115,99,111,118,97,100,111,47,109,117,115,99,111,118,97,100,111,108,97,119,48,52,46,67,104,97,114,70,101,119,101,115,116,115],[109,117,115,99,111,118,97,100,111,47,109,117,115,99,111,118,97,100,111,108,97,119,48,52,46,67,104,97,114,66,117,121,115],[109,117,115,99,111,118,97,100,111,47,109,117,115,99,111,118,97,100,111,108,97,119,48,52,46,67,104,97,114,65,103,97,105,110,115],[109,117,115,99,111,118,97,100,111,47,109,117,115,99,111,118,97,100,111,108,97,119,48,52,46,67,104,97,114,67,111,117,114,115,101,115],[109,117,115,99,111,118,97,100,111,47,109,117,115,99,111,118,97,100,111,108,97,119,48,52,46,67,104,97,114,70,97,105,108,115],[109,117,115,99,111,118,97,100,111,47,109,117,115,99,111,118,97,100,111,108,97,119,48,52,46,67,104,97,114,78,101,101,100,101,100,115],[109,117,115,99,111,118,97,100,111,47,109,117,115,99,111,118,97,100,111,108,97,119,48,52,46,67,104,97,114,77,111,115,116,115]]
set_option maxRecDepth 100000 in
theorem jBz:Tryz.prog.initOrder=String.ofList (orderN.map Char.ofNat):=by kernel_rfl
theorem zZg:Tryz.prog.initOrder.toList=orderN.map Char.ofNat:=by rw[jBz,String.toList_ofList]
def wordN (k:Nat):List Char:=(wordsN.getD k []).map Char.ofNat
def wordR:List (List Char):=(wordsN.drop 3).map (·.map Char.ofNat)
set_option maxRecDepth 100000 in
theorem jA7:wordsSigns Tryz.prog.initOrder.toList=wordN 0::wordN 1::wordN 2::wordR:=by
 rw[zZg]
 kernel_rfl
theorem zUv {a b : List Char} {r : List (List Char)} (h1 : (a == "harness".toList || a == "ownmain".toList) = true) (h2 : isSumSigns b = true) : behindMainWord (a :: b :: r) = r := by
 unfold behindMainWord;dsimp only;rw[h1,h2]
 rfl
theorem zO5:behindMainWord (wordsSigns Tryz.prog.initOrder.toList)=wordN 2::wordR:=by
 rw[jA7];exact zUv kr kr
theorem jAv {P : Program} {c : List Char} {rest : List (List Char)} (h : behindMainWord (wordsSigns P.initOrder.toList) = c :: rest) (h1 : (c == "gc".toList || c == "spec".toList) = false) (h2 : (c == "cut".toList) = true) : P.make = some .cut := by
 unfold Program.make;rw[h];dsimp only;rw[h1,h2]
 rfl
theorem jCj {P : Program} {c : List Char} {rest : List (List Char)} (h : behindMainWord (wordsSigns P.initOrder.toList) = c :: rest) (h1 : (stripLifts liftWords (c :: rest)).1 = []) (h2 : ((stripLifts liftWords (c :: rest)).2.head? == some "cut".toList) = true) (h3 : P.laysLater = false) (h4 : P.bearsReflect = false) (h5 : P.doorFits [] = true) : P.mayEnter = true := by
 unfold Program.mayEnter;rw[h];dsimp only;rw[h1,h2,h3,h4,h5];simp
theorem zWh {P : Program} {c : List Char} {rest : List (List Char)} (h : behindMainWord (wordsSigns P.initOrder.toList) = c :: rest) (h1 : (stripLifts liftWords (c :: rest)).1 = []) (h2 : (c == "carried".toList) = false) : P.liftsFinal = false := by
 have e : (some c == some "carried".toList) = false := h2;unfold Program.liftsFinal Program.headLifts;dsimp only;rw [h, h1, List.head?_cons, e];simp
theorem zI8:(stripLifts liftWords (wordN 2::wordR)).1=[]:=by kernel_rfl
set_option maxRecDepth 100000 in
theorem jD8:Tryz.prog.make=some .cut:=jAv zO5 (by kernel_rfl) (by kernel_rfl)
set_option maxRecDepth 100000 in
theorem jBo:Tryz.prog.liftsFinal=false:=zWh zO5 zI8 (by kernel_rfl)
set_option maxRecDepth 100000 in
theorem zS1:Tryz.prog.laysLater=false:=by kernel_rfl
set_option maxRecDepth 100000 in
theorem zMl:Tryz.prog.bearsReflect=false:=by kernel_rfl
set_option maxRecDepth 100000 in
theorem jDs:Tryz.prog.doorFits []=true:=by kernel_rfl
set_option maxRecDepth 100000 in
theorem may_:Tryz.prog.mayEnter=true:=jCj zO5 zI8 (by kernel_rfl) zS1 zMl jDs
set_option maxRecDepth 100000 in
theorem zSv:mapsRowed Tryz.prog=true:=by kernel_rfl
set_option maxRecDepth 100000 in
theorem zS8:Tryz.prog.plainKeys=false:=by kernel_rfl
set_option maxRecDepth 100000 in
theorem zQr:Tryz.prog.stopsHeard=true:=by kernel_rfl
end Go.Proofs.YteppiphdbondeaaGreat.N
namespace Go.Proofs.YteppiphdbondeaaGreat.N
set_option linter.unusedSectionVars false
open Go.RowKit
section
theorem zYc (W:World) : @RdC (ZS W) (reaC_main W.heap.size) (seenZ W):=⟨by show W.heap.size<=(seenZ W).heap.size;simp[seenZ,seenW],rfl⟩
end
end Go.Proofs.YteppiphdbondeaaGreat.N
/- What rows of laws that compare char with the reference share: char, filters and lists of numbers out of what the statement lets the input be. -/
namespace Go.Proofs.YteppiphdbondeaaGreat.N
open Go Go.ChangeShapes Go.WideShapes Go.ChangeAt Go.RowKit Go.Proofs Go.Proofs.YteppiphdbondeaaGreat Go.Proofs.YteppiphdbondeaaGreat.Rows
set_option linter.unusedSectionVars false
theorem zGd {H:Type} {enc:TypeId×Value->H} {W W':World} (hn:Below W.heap.size W W'):∀{ts:List TypeId} {vs:List Value} {ds:List (DataW H)} {ps:List MemPlace},
  (∀t∈ts,Tryz.prog.readableRec t=true∧t<Tryz.prog.types.size)->DataW.TrodAll enc Tryz.prog W 0 (fun _=>true) true ts vs ds ps->(∀x∈ps,x.block<W.heap.size) ->
  DataW.TrodAll enc Tryz.prog W' 0 (fun b=>decide (b<W.heap.size)) true ts vs ds ps
 | [],_,_,_,_,h,_=>by
  obtain⟨rfl,rfl,rfl⟩:=trodAll_nil h
  exact trodAll_mk0
 | t::ts,vs,ds,ps,hr,h,hlt=>by
  obtain⟨v,vs',d,ds',p,q,rfl,rfl,rfl,h1,h2⟩:=trodAll_cons h;exact trodAll_cons_mk (Below.trod zOe (hr t (by simp)).1 (hr t (by simp)).2 h1 hn (fun x hx=>hlt x (List.mem_append_left _ hx))) (zGd hn (fun u hu=>hr u (by simp[hu])) h2 (fun x hx=>hlt x (List.mem_append_right _ hx)))
set_option maxRecDepth 100000 in
theorem zQk {H:Type} {enc:TypeId×Value->H} {f:FuncId} {fn:Func} {s:ChangeSpec} (hr:fn.resultTypes=#[4]) (hs:s.vars=[]) (hread:∀t∈fn.params.toList,Tryz.prog.readableRec t=true∧t<Tryz.prog.types.size)
  {W:World} {args:Array Value} {ds gs:List (DataW H)} {before:List MemPlace} (hfn:s.fn H ds={results:=[.lit (.bool true)],args:=ds})
  (hW:DataW.Whole enc Tryz.prog fn.params.toList s.vars false W args.toList ds gs before)
  (hc : @Calls Tryz.prog (ZS W) f args (seenZ W) fun e w'=>e=.returned (.bool true)∧Grew (seenZ W) w' []) :
  @Calls Tryz.prog (ZS W) f args (seenZ W) fun e v'=>∃x,e=.returned x∧Below (seenZ W).heap.size (seenZ W) v'∧∀W',Below W.heap.size W W'->s.post enc Tryz.prog fn false true false false W args x W':=by
 have hW':=hW;obtain⟨p,q,hA,hV,rfl,_,_⟩:=hW;rw[hs] at hV;obtain⟨rfl,rfl⟩:=trodVars_none hV;simp only[List.append_nil] at hW';refine @Calls.mono _ (ZS W) _ _ _ _ _ hc fun e v' ⟨he,hg⟩=>⟨_,he,hg.1,fun W' hb=>?_⟩
 refine⟨_,_,_,[],p,[],hW',?_,?_,?_,hb.frame _,fun h=>Bool.noConfusion h⟩
 ·rw[List.append_nil,hfn,hr];exact trodAll_mk1 (shut_bool zYx true)
 ·rw[List.append_nil,hfn];exact zGd hb hread hA (fun x hx=>hW'.lt x hx)
 ·rw[List.append_nil,hfn,hs];rfl
set_option maxRecDepth 100000 in
theorem zGj {H:Type} {enc:TypeId×Value->H} {W:World} {fuel:Nat} {v:Value} {x:DataW H×List MemPlace} (hf:DataW.trod enc Tryz.prog W 0 (fun _=>true) true fuel 23 [v]=some x) (hlt:∀y∈x.2,y.block<W.heap.size) :
  ∃(A:Option Addr) (c:Nat) (l:List Int),v=.slice A l.length c∧RdL icell 1 W A l∧(A=Option.none->l=[]∧c=0):=by
 rcases open_ints zU7 zNd zK0 hf with ⟨hcs,hx⟩|⟨a,len,cap,zs,hcs,_,hl,hm,hz,hx,hcell,hwz⟩
 ·obtain rfl:=List.singleton_inj.1 hcs;exact⟨_,_,[],rfl,fun h=>absurd h (by simp),fun _=>⟨rfl,rfl⟩⟩
 ·obtain rfl:=List.singleton_inj.1 hcs;subst hx;simp only[if_true] at hz;obtain⟨b,off,spot⟩:=a;have hlen:(zs.take len).length=len:=by rw[List.length_take];omega
  refine⟨_,cap,zs.take len,by rw[hlen],fun hpos=>?_,fun h=>by cases h⟩;rw[hlen] at hpos;have hspot:spot=Option.none:=by simpa[Addr.add] using World.cell?_spot (hcell 0 om)
  subst hspot;refine⟨b,off,rfl,hlt (.cell b off) (MemPlace.mem_row.2 ⟨0,by omega,by simp⟩),fun k x hk j u hu=>?_⟩;rw[List.getElem?_take] at hk
  split at hk
  ·rename_i hkl
   cases j with
   | zero =>
    simp[icell] at hu;subst hu;have:=hcell k om;rw[List.getD_eq_getElem?_getD,hk] at this;rw[Nat.mul_one,Nat.add_zero];rw[add_plain] at this
    exact this
   | succ j=>simp[icell] at hu
  ·cases hk
set_option maxRecDepth 100000 in
theorem zMi {H:Type} {enc:TypeId×Value->H} {W:World} {fuel:Nat} {cs:List Value} {x:DataW H×List MemPlace} (h:DataW.trod enc Tryz.prog W 0 (fun _=>true) true fuel 27 cs=some x) :
  ∃y:FltZ,y.wf∧cs=y.cells:=by
 obtain⟨xs,n,_,_,hcl,hxl,hf⟩:=DataW.trod_struct Tryz.underlying27 h;rw[co27] at hcl
 match cs,hcl with
 | [v0,v1,v2,v3],_ =>
  have key:∀v x,DataW.trod enc Tryz.prog W 0 (fun _=>true) true n 3 [v]=some x->∃m,v=.int .i64 m∧W64 m:=fun v x hx=>by
   obtain⟨m,h1,_,h3⟩:=DataW.trod_int zNd hx;exact⟨m,List.singleton_inj.1 h1,bounds_i64 h3⟩
  have keyb:∀v x,DataW.trod enc Tryz.prog W 0 (fun _=>true) true n 4 [v]=some x->∃b,v=.bool b:=fun v x hx=>by
   obtain⟨b,h1,_⟩:=DataW.trod_bool zYx hx;exact⟨b,List.singleton_inj.1 h1⟩
  have f0:=hf 0 _ J;have f1:=hf 1 _ J;have f2:=hf 2 _ J;have f3:=hf 3 _ J;simp[zK0] at f0 f1 f2;simp[co4] at f3;obtain⟨m0,rfl,w0⟩:=key v0 _ (f0.trans (List.getElem?_eq_getElem (by simp[hxl])));obtain⟨m1,rfl,w1⟩:=key v1 _ (f1.trans (List.getElem?_eq_getElem (by simp[hxl])));obtain⟨m2,rfl,w2⟩:=key v2 _ (f2.trans (List.getElem?_eq_getElem (by simp[hxl])));obtain⟨b,rfl⟩:=keyb v3 _ (f3.trans (List.getElem?_eq_getElem (by simp[hxl])));exact⟨⟨m0,m1,m2,b⟩,⟨w0,w1,w2⟩,rfl⟩
set_option maxRecDepth 100000 in
theorem jAq {H:Type} {enc:TypeId×Value->H} {W:World} {base:Nat} {v:Value} {d:DataW H} {p:List MemPlace} (hok:Value.okWide Tryz.prog W .any base 27 v)
  (h:DataW.Trod enc Tryz.prog W 0 (fun _=>true) true 27 v d p):∃y:FltZ,y.wf∧v=.agg y.cells.toArray:=by
 obtain⟨cs,rfl,_⟩:=okWide_struct Tryz.underlying27 hok;obtain⟨fuel,hf⟩:=h;obtain⟨y,hy,hc⟩:=zMi hf;simp only[Value.cells] at hc;exact⟨y,hy,by rw[<-hc]⟩
set_option maxRecDepth 100000 in
theorem zNt {H:Type} {enc:TypeId×Value->H} {W:World} {fuel:Nat} {v:Value} {x:DataW H×List MemPlace} (hf:DataW.trod enc Tryz.prog W 0 (fun _=>true) true fuel 22 [v]=some x) (hlt:∀y∈x.2,y.block<W.heap.size) :
  ∃(A:Option Addr) (c:Nat) (l:List FltZ),v=.slice A l.length c∧RdL FltZ.cells 4 W A l∧(∀y∈l,y.wf)∧(A=Option.none->l=[]∧c=0):=by
 rcases Go.Deep.open_slice U22 hf with ⟨hcs,hx⟩|⟨a,len,cap,m,n,D,Pl,hcs,_,hl,hm,hmm,hx,hi⟩
 ·obtain rfl:=List.singleton_inj.1 hcs;exact⟨_,_,[],rfl,fun h=>absurd h (by simp),fun y hy=>(List.not_mem_nil hy).elim,fun _=>⟨rfl,rfl⟩⟩
 ·obtain rfl:=List.singleton_inj.1 hcs;subst hx;simp only[if_true] at hmm;subst hmm;rw[co27] at hi
  obtain⟨Y,hY⟩:=Go.Deep.choose_lt (α:=FltZ) (p:=fun i y=>y.wf∧∀j u,y.cells[j]?=some u->W.cell? (a.add (i*4+j))=some u) (fun i hlt'=>by
   obtain⟨cs',h1,h2⟩:=hi i hlt';obtain⟨y,hy,rfl⟩:=zMi h2;obtain⟨_,_,h3⟩:=World.cells?_some h1;refine⟨y,hy,fun j u hu=>?_⟩
   have hj:j<4:=by
    have:=(List.getElem?_eq_some_iff.1 hu).1;simpa[FltZ.cells] using this
   have:=h3 j hj;rw[hu,Go.Deep.add_add] at this
   exact this)
  have hlen:((List.range len).map Y).length=len:=by simp
  obtain⟨b,off,spot⟩:=a
  refine⟨_,m,(List.range len).map Y,by rw[hlen],fun hpos=>?_,fun y hy=>?_,fun h=>by cases h⟩
  ·rw[hlen] at hpos;have hspot:spot=Option.none:=by simpa[Addr.add] using World.cell?_spot ((hY 0 om).2 0 _ J)
   subst hspot;refine⟨b,off,rfl,hlt (.cell b off) (List.mem_append_left _ (MemPlace.mem_row.2 ⟨0,by rw[co27];omega,by simp⟩)),fun k x hk j u hu=>?_⟩;rw[List.getElem?_map] at hk;obtain⟨i,h1,rfl⟩:=Option.map_eq_some_iff.1 hk;obtain⟨h2,h3⟩:=List.getElem?_eq_some_iff.1 h1;rw[List.getElem_range] at h3;subst h3;rw[List.length_range] at h2;have:=(hY k om).2 j u hu;rw[add_plain,<-Nat.add_assoc] at this;exact this
  ·obtain⟨i,h1,rfl⟩:=List.mem_map.1 hy;exact (hY i (by have:=List.mem_range.1 h1;omega)).1
set_option maxRecDepth 100000 in
theorem co25:Tryz.prog.cellsOf 25=3:=by kernel_rfl
theorem coFLS:Tryz.prog.cellsOf 22=1:=by kernel_rfl
theorem coINTS:Tryz.prog.cellsOf 23=1:=by kernel_rfl
set_option maxRecDepth 100000 in
theorem zW2 {H:Type} {enc:TypeId×Value->H} {W:World} {base:Nat} {v:Value} {d:DataW H} {p:List MemPlace} (hok:Value.okWide Tryz.prog W .any base 25 v)
  (h:DataW.Trod enc Tryz.prog W 0 (fun _=>true) true 25 v d p) (hlt:∀y∈p,y.block<W.heap.size) :
  ∃x:CZ,v=.agg x.cells.toArray∧x.Rd W∧(∀f∈x.fz,f.wf)∧(x.fA=Option.none->x.fz=[]∧x.fc=0)∧(x.dA=Option.none->x.dz=[]∧x.dc=0):=by
 obtain⟨cs,rfl,hsz⟩:=okWide_struct Tryz.underlying25 hok;obtain⟨fuel,hf⟩:=h;obtain⟨y0,y1,y2,n,hx,hcl,h0,h1,h2⟩:=Go.Deep.trod_struct3 Tryz.underlying25 hf;simp only[Prod.mk.injEq] at hx;obtain⟨rfl,rfl⟩:=hx
 have hcs:∃v0 v1 v2,cs=#[v0,v1,v2]:=by
  rw[co25] at hsz;obtain⟨l⟩:=cs
  match l,hsz with
  | [v0,v1,v2],_=>exact⟨v0,v1,v2,rfl⟩
 obtain⟨v0,v1,v2,rfl⟩:=hcs;simp[Value.cells,coFLS,zK0,coINTS] at h0 h1 h2;obtain⟨A,c,l,rfl,r1,r2,r3⟩:=zNt h0 fun y hy=>hlt y (by simp[hy]);obtain⟨D,dc,dz,rfl,r4,r5⟩:=zGj h2 fun y hy=>hlt y (by simp[hy]);obtain⟨m,h1',_,_⟩:=DataW.trod_int zNd h1;obtain rfl:=List.singleton_inj.1 h1';exact⟨⟨A,c,l,m,D,dc,dz⟩,rfl,⟨r1,r4⟩,r2,r3,r5⟩
set_option maxRecDepth 100000 in
theorem zV8 {H:Type} {enc:TypeId×Value->H} {W:World} {base:Nat} {v:Value} {d:DataW H} {p:List MemPlace} (hok:Value.okWide Tryz.prog W .any base 23 v)
  (h:DataW.Trod enc Tryz.prog W 0 (fun _=>true) true 23 v d p) (hlt:∀y∈p,y.block<W.heap.size):∃(A:Option Addr) (c:Nat) (l:List Int),v=.slice A l.length c∧RdL icell 1 W A l∧(A=Option.none->l=[]∧c=0):=by
 obtain⟨a0,len,cap,rfl⟩:=okWide_slice zU7 hok;obtain⟨fuel,hf⟩:=h;exact zGj (x:=(d,p)) hf hlt
set_option maxRecDepth 100000 in
theorem zWq:Tryz.prog.readableRec 25=true∧25<Tryz.prog.types.size:=⟨by kernel_rfl,of_decide_eq_true (by kernel_rfl)⟩
set_option maxRecDepth 100000 in
theorem zWv:Tryz.prog.readableRec 27=true∧27<Tryz.prog.types.size:=⟨by kernel_rfl,of_decide_eq_true (by kernel_rfl)⟩
set_option maxRecDepth 100000 in
theorem jB0:Tryz.prog.readableRec 3=true∧3<Tryz.prog.types.size:=⟨by kernel_rfl,of_decide_eq_true (by kernel_rfl)⟩
theorem zTv:Tryz.prog.readableRec 23=true∧23<Tryz.prog.types.size:=⟨zZ0,jDk⟩
end Go.Proofs.YteppiphdbondeaaGreat.N
namespace Go.Proofs.YteppiphdbondeaaGreat.N
set_option linter.unusedSectionVars false
open Go.RowKit
end Go.Proofs.YteppiphdbondeaaGreat.N
