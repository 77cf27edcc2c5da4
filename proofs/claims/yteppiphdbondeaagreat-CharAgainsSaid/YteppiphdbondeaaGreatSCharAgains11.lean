/- Parts of the walk of the law CharAgains: YU, Y20, YAE, YAF, Y31, Y32, Y33, YAG, Y34, ChRow, RowC, RowC2. -/
import Derived.Test.YteppiphdbondeaaGreatSCharAgains10
import Derived.Test.YteppiphdbondeaaGreatSCharAgains09
import Derived.Test.YteppiphdbondeaaGreatProg
import Derived.Test.YteppiphdbondeaaGreatSCharAgains07
import Derived.Test.YteppiphdbondeaaGreatSCharAgains04
import Derived.Test.YteppiphdbondeaaGreatSCharAgains03
import Derived.Test.YteppiphdbondeaaGreatRows
import Derived.ChangeSame
import Derived.ChangeVars
import Derived.JoinedOf
import Derived.RowKit
import Derived.RowKitTokens
import Derived.WitnessAt
import Derived.Stop.Joined
import Derived.ProofKit
import Derived.SizedLaws
import Derived.OpenShut
import Derived.Conc.Holds
namespace Go.Proofs.YteppiphdbondeaaGreat.N
set_option linter.unusedSectionVars false
open Go.RowKit
section
variable [I:Sys]
variable {w:World} {y:List (List Nat)×Nat×Nat}
def PlanR (rp:Bool) (fs:List Flt) (kiln:Nat) (days:List Nat) (y:List (List Nat)×Nat×Nat):Prop :=
 y=if (bO (lasR fs rp) fs kiln days days.length (start fs)).is=true then (planN (lasR fs rp) fs kiln days,(bO (lasR fs rp) fs kiln days days.length (start fs)).f,0) else ([],0,11)
abbrev EP (c:Nat):List (List Nat)×Nat×Nat:=([],0,c)
theorem PlanR.uniq {rp:Bool} {fz:List FltZ} {kz:Int} {dz:List Int} {x:List (List Nat)×Nat×Nat} (h:RawP (PlanR rp) EP fz kz dz x) (h':RawP (PlanR rp) EP fz kz dz y):x=y:=RawP.uniq (P:=PlanR rp) (fun _ _ _ _ a b=>Eq.trans a (Eq.symm b)) h h'
def AnsPl (rp:Bool) (fz:List FltZ) (kz:Int) (dz:List Int) (w:World) (e:Ending) (w':World):Prop :=
 ∃(A:Option Addr) (c:Nat) (R S:List Meta) (y:List (List Nat)×Nat×Nat),RawP (PlanR rp) EP fz kz dz y∧R.map (·.2.2)=y.1∧(∀m∈R,m∈S)∧e=.returned (.tuple #[.slice A R.length c,.int .i64 (y.2.1:Int),.int .i64 (y.2.2:Int)])∧Grew w w' (.row 23 1 A R.length c (R.map mcell)::S.map mrow)
section
variable {fA dA:Option Addr} {fc dc:Nat} {fz:List FltZ} {kz:Int} {dz:List Int} {rp:Bool}
theorem zM4 {f:FuncId} {args:Array Value} (hk:chk fz kz dz≠0) (h:Calls TP f args w fun e w'=>e=.returned (.tuple #[.slice none 0 0,.int .i64 0,.int .i64 ((chk fz kz dz:Nat):Int)])∧Grew w w' []):Calls TP f args w fun e w'=>AnsPl rp fz kz dz w e w' :=
 h.mono fun _ _ ⟨h1,h2⟩=>⟨none,0,[],[],([],0,chk fz kz dz),.inl ⟨hk,rfl⟩,rfl,fun _ h=>(nomatch h),h1,h2.nilRow 23 1⟩
theorem zQo {fs:List Flt} {kiln:Nat} {days:List Nat} {e:Ending} {w':World} {A:Option Addr} {c:Nat} {R S:List Meta} (hc:ChV fs kiln days)
  (h:((bO (lasR fs rp) fs kiln days days.length (start fs)).is=true∧R.map (·.2.2)=planN (lasR fs rp) fs kiln days∧e=.returned (.tuple #[.slice A R.length c,.int .i64 (((bO (lasR fs rp) fs kiln days days.length (start fs)).f:Nat):Int),.int .i64 0]))∨((bO (lasR fs rp) fs kiln days days.length (start fs)).is=false∧R=[]∧e=.returned (.tuple #[.slice none 0 0,.int .i64 0,.int .i64 11])))
  (hRS:∀m∈R,m∈S) (hg:Grew w w' (.row 23 1 A R.length c (R.map mcell)::S.map mrow)):AnsPl rp (fs.map Flt.toZ) kiln (toZs days) w e w':=by
 rcases h with ⟨h1,h2,h3⟩|⟨h1,h2,h3⟩
 ·exact⟨A,c,R,S,(planN (lasR fs rp) fs kiln days,(bO (lasR fs rp) fs kiln days days.length (start fs)).f,0),.inr ⟨fs,kiln,days,hc,rfl,rfl,rfl,by unfold PlanR;rw[if_pos h1]⟩,h2,hRS,h3,hg⟩
 ·exact⟨none,0,[],[],([],0,11),.inr ⟨fs,kiln,days,hc,rfl,rfl,rfl,by unfold PlanR;rw[if_neg (by rw[h1];simp)]⟩,rfl,fun _ h=>(nomatch h),h3,Grew.nilRow hg.less 23 1⟩
theorem jBe (hfl:fz.length<1000000) (hdl:dz.length<1000000) (w:World) (hF:RdL FltZ.cells 4 w fA fz) (hD:RdL zcell 1 w dA dz):Calls TP 24 #[cz3 fA dA fc dc fz kz dz] w fun e w'=>AnsPl true fz kz dz w e w':=by
 by_cases hk:chk fz kz dz=0
 ·obtain⟨fs,kiln,days,hc,rfl,rfl,rfl⟩:=zD7 hk;unfold cz3;rw[List.length_map,yR];refine (zR4 hc w (zKc hF) (zJ6 hD)).mono fun e w' ⟨oA,oc,mr,h1,h2⟩=>?_;rw[<-List.length_reverse] at h2;refine zQo (A:=oA) (c:=oc) (R:=mr.reverse) (S:=mr) hc ?_ (fun m hm=>List.mem_reverse.1 hm) h2
  rcases h1 with ⟨a,b,c⟩|⟨a,b,c⟩
  ·exact .inl ⟨a,b.trans (zQl _ _).symm,by rw[List.length_reverse];exact c⟩
  ·exact .inr ⟨a,by rw[b];rfl,c⟩
 ·exact zM4 hk (jA7 hfl hdl hk w hF hD)
theorem jAr (hfl:fz.length<1000000) (hdl:dz.length<1000000) (w:World) (hF:RdL FltZ.cells 4 w fA fz) (hD:RdL zcell 1 w dA dz):Calls TP 58 #[cz3 fA dA fc dc fz kz dz,.bool rp] w fun e w'=>AnsPl rp fz kz dz w e w':=by
 by_cases hk:chk fz kz dz=0
 ·obtain⟨fs,kiln,days,hc,rfl,rfl,rfl⟩:=zD7 hk;unfold cz3;rw[List.length_map,yR];refine (jBx (rp:=rp) hc w (zKc hF) (zJ6 hD)).mono fun e w' ⟨A,c,R,S,h1,h2,h3⟩=>zQo hc h1 h2 h3
 ·exact zM4 hk (jBd hfl hdl hk w hF hD)
end
theorem zTy {rp:Bool} {fz:List FltZ} {kz:Int} {dz:List Int} (h:RawP (PlanR rp) EP fz kz dz y):y.1.length<=4∧∀l∈y.1,l.length<=3:=by
 have hpl:∀(las:Mor->Bool) (fs:List Flt) (kiln:Nat) (days:List Nat) n m,((srO las fs kiln days).planL n m).length=n∧(fs.length<=3->∀l∈(srO las fs kiln days).planL n m,l.length<=3):=by
  intro las fs kiln days n
  induction n with
  | zero=>exact fun m=>⟨rfl,fun _ l hl=>(nomatch hl)⟩
  | succ n ih =>
   intro m;refine⟨congrArg Nat.succ (ih _).1,fun h3 l hl=>?_⟩
   rcases List.mem_cons.1 hl with rfl|hl
   ·unfold Srch.pick
    cases hf:(exts [] (srO las fs kiln days).fs.length).find? fun l=>decide ((srO las fs kiln days).stp n m l=(srO las fs kiln days).bst (n+1) m) with
    | none=>exact Nat.zero_le _
    | some l =>
     have:=zFu l (List.mem_of_find?_eq_some hf);show l.length<=3;rw[this];exact h3
   ·exact (ih _).2 h3 l hl
 rcases h with ⟨_,rfl⟩|⟨fs,kiln,days,hc,_,_,_,rfl⟩
 ·exact⟨Nat.zero_le _,fun _ h=>(nomatch h)⟩
 ·split
  ·obtain⟨h1,h2⟩:=hpl (lasR fs rp) fs kiln days days.length (start fs);exact⟨by show (planN _ _ _ _).length<=4;unfold planN;rw[h1];exact hc.d4,h2 hc.f3⟩
  ·exact⟨Nat.zero_le _,fun _ h=>(nomatch h)⟩
theorem zN3 {C:Ctx} {fr:LV} {hp:List Res} {a:Act} (ha:At C fr hp a w) {A:Option Addr} {c:Nat} {R S:List Meta} (h1:Res.row 23 1 A R.length c (R.map mcell)∈hp) (hRS:∀m∈R,m∈S) (h2:∀r∈S.map mrow,r∈hp):RdZ w A (R.map zmeta):=by
 have h:=jEp (mr:=R.reverse) (A:=A) (c:=c) ha (by rw[List.length_reverse,List.reverse_reverse];exact h1) fun m hm=>h2 _ (List.mem_map_of_mem (hRS m (List.mem_reverse.1 hm)))
 rwa[List.reverse_reverse] at h
end
section
variable [I:Sys]
theorem F.ent58:Enters TP 58:=jD Tryz.func58 rfl kr
theorem zYp {fA dA:Option Addr} {fc dc:Nat} {fz:List FltZ} {kz:Int} {dz:List Int} (hfl:fz.length<1000000) (hdl:dz.length<1000000) (w:World) (hF:RdL FltZ.cells 4 w fA fz) (hD:RdL zcell 1 w dA dz):Calls TP 25 #[.agg (CY fA fz.length fc kz dA dz.length dc).toArray] w fun e w'=>AnsPl true fz kz dz w e w':=by
 refine enter (N:=10) [(0,.agg (CY fA fz.length fc kz dA dz.length dc).toArray)] Tryz.func25 J Tryz.ntmps25 J J (csr (jT J J ?_));intro b1;refine zF J J (zF J J (lax J J (csr (zZ J J F.agg25 F.ti25 (kJ (X:=Option Addr×Nat×List Meta×List Meta×(List (List Nat)×Nat×Nat)) (vs:=[_,_]) (p:=fun y=>RawP (PlanR true) EP fz kz dz y.2.2.2.2∧y.2.2.1.map (·.2.2)=y.2.2.2.2.1∧∀m∈y.2.2.1,m∈y.2.2.2.1) (val:=fun y=>.tuple #[.slice y.1 y.2.2.1.length y.2.1,.int .i64 (y.2.2.2.2.2.1:Int),.int .i64 (y.2.2.2.2.2.2:Int)]) (rs:=fun y=>.row 23 1 y.1 y.2.2.1.length y.2.1 (y.2.2.1.map mcell)::y.2.2.2.1.map mrow) J J F.ent58 (fun a w ha=>(jAr hfl hdl w (hF.later ha.below) (hD.later ha.below)).mono (fun e w' h=>by obtain⟨A',c',R',S',y,h1,h2,h3,h4,h5⟩:=h;exact⟨(A',c',R',S',y),⟨h1,h2,h3⟩,h4,h5⟩)) ?_)))));rintro⟨A,c,R,S,y⟩ ⟨hp,hR,hRS⟩;dsimp only at hp hR hRS ⊢;exact jF J J J (jF J J J (jF J J J (zF J J (zF J J (lax J J (zV (zX J (fun a w ha=>xB J J J J ha) (fun a w ha=>⟨A,c,R,S,y,hp,hR,hRS,rfl,ha.grown (.cons_cons _ (List.sublist_append_left _ _))⟩))))))))

end
section
variable {g n w:Nat} {m1:Mor} {p:List (List Nat)}
section
variable {alw alv:Nat->List Nat->Bool} {fs:List Flt} {kiln:Nat} {days:List Nat}
abbrev bE (fs:List Flt) (kiln:Nat) (days:List Nat) (n:Nat) (m:Mor):Oc:=bO (fun _=>true) fs kiln days n m
def Tgt (fs:List Flt) (kiln:Nat) (days:List Nat) (d:Nat) (m:Mor) (l:List Nat) (m1:Mor):Prop :=
 l∈exts [] fs.length∧dayE fs kiln m l (days.getD d 0)=(0,m1)∧(bE fs kiln days (days.length-(d+1)) m1).is=true∧(bE fs kiln days (days.length-(d+1)) m1).f+spF l=(bE fs kiln days (days.length-d) m).f
def Tw (fs:List Flt) (kiln:Nat) (days:List Nat):Nat->Mor->Prop
 | 0,m=>m=start fs
 | d+1,m1=>∃m l,Tw fs kiln days d m∧Tgt fs kiln days d m l m1
theorem zTu {a b c d:Nat} (h:cless a b c d=false):c<=a:=by
 unfold cless at h;simp only[decide_eq_false_iff_not,not_or,not_and] at h;omega
theorem zSa {las:Mor->Bool} {m:Mor} (h:Pth alw las fs kiln days n m p g w):(∀k l,days.length-n<=k->alw k l=true->alv k l=true)->Pth alv las fs kiln days n m p g w:=by
 induction h with
 | last h=>exact fun _=>.last h
 | day h1 h2 h3 _ ih=>exact fun ha=>.day h1 (ha _ _ (Nat.le_refl _) h2) h3 (ih fun k l hk=>ha k l om)
theorem zSz:∀(d:Nat),d<=days.length->∀m,Tw fs kiln days d m->(∀k l,k<d->alw k l=true)->∀p g w,Pth alw (fun _=>true) fs kiln days (days.length-d) m p g w->g=(bE fs kiln days (days.length-d) m).f->∃p' w',Pth alw (fun _=>true) fs kiln days days.length (start fs) p' (bE fs kiln days days.length (start fs)).f w'
 | 0,_,m,h,_,p,g,w,hp,hg=>by
  obtain rfl:m=start fs:=h;rw[Nat.sub_zero] at hp hg;subst hg
  exact⟨p,w,hp⟩
 | d+1,hd,m,h,ha,p,g,w,hp,hg=>by
  obtain⟨m0,l,h1,h2,h3,h4,h5⟩:=h;have e:days.length-(days.length-(d+1)+1)=d:=om;have hq:=Pth.day (acts:=l) (m:=m0) h2 (by rw[e];exact ha d l (Nat.lt_succ_self d)) (by rw[e];exact h3) hp;rw[show days.length-(d+1)+1=days.length-d from by omega] at hq;exact zSz d om m0 h1 (fun k l hk=>ha k l om) _ _ _ hq (by rw[hg];exact h5)
theorem jEa {m:Mor} {l:List Nat} (hl:l∈exts [] fs.length) (he:dayE fs kiln m l (days.getD (days.length-(n+1)) 0)=(0,m1)) (h:(bE fs kiln days n m1).is=true):(bE fs kiln days (n+1) m).is=true∧(bE fs kiln days (n+1) m).f<=(bE fs kiln days n m1).f+spF l:=by
 obtain⟨q,hq⟩:=zAn n m1 h;obtain⟨h1,h2⟩:=zHe (Pth.day hl J he hq);exact⟨h1,zTu h2⟩
theorem zKs {m:Mor} (h:Pth alw (fun _=>true) fs kiln days n m p g w):(bE fs kiln days n m).is=true∧(bE fs kiln days n m).f<=g:=by
 obtain⟨h1,h2⟩:=zHe (zSa (alv:=fun _ _=>true) h fun _ _ _ _=>rfl);exact⟨h1,zTu h2⟩
theorem zSs {m:Mor} (h:Pth alw (fun _=>true) fs kiln days n m p g w):n<=days.length->Tw fs kiln days (days.length-n) m->g=(bE fs kiln days n m).f->∀day,days.length-n<=day->day<days.length->∃m' l m1,Tw fs kiln days day m'∧Tgt fs kiln days day m' l m1∧alw day l=true:=by
 induction h with
 | last _=>exact fun _ _ _ day h1 h2=>absurd h1 om
 | @day n m m1 acts p f w h1 h2 h3 h4 ih =>
  intro hn ht hg day hd1 hd2;obtain⟨k1,k2⟩:=zKs h4;obtain⟨_,k3⟩:=jEa h1 h3 k1;have e:days.length-(days.length-(n+1)+1)=n:=om;have e2:days.length-(days.length-(n+1))=n+1:=om;have hT:Tgt fs kiln days (days.length-(n+1)) m acts m1:=⟨h1,h3,by rw[e];exact k1,by rw[e,e2];omega⟩
  rcases Nat.eq_or_lt_of_le hd1 with hd|hd
  ·rw[<-hd];exact⟨m,acts,m1,ht,hT,h2⟩
  ·refine ih om ?_ om day om hd2;rw[show days.length-n=days.length-(n+1)+1 from by omega];exact⟨m,acts,ht,hT⟩
theorem zL8 {f day:Nat} (hd:day<days.length) (b:Bool):(∃m l m1,Tw fs kiln days day m∧Tgt fs kiln days day m l m1∧decide (l.getD f 0=3)=b)↔(bstF fs kiln days f day b).is=true∧(bstF fs kiln days f day b).f=(bstA fs kiln days).f:=by
 have hge:(bstF fs kiln days f day b).is=true->(bstA fs kiln days).f<=(bstF fs kiln days f day b).f:=fun h=>by
  obtain⟨p,hp⟩:=zAn days.length (start fs) h;exact (zKs hp).2
 constructor
 ·rintro⟨m,l,m1,h1,⟨h2,h3,h4,h5⟩,h6⟩;obtain⟨q,hq⟩:=zAn (days.length-(day+1)) m1 h4;have e:days.length-(days.length-(day+1)+1)=day:=om;have hq2:=Pth.day (acts:=l) (m:=m) (alw:=alwF f day b) h2 (by rw[e];unfold alwF;rw[h6];simp) (by rw[e];exact h3) (zSa hq fun k l hk _=>by unfold alwF;rw[decide_eq_true om];rfl);rw[show days.length-(day+1)+1=days.length-day from by omega] at hq2;obtain⟨p',w',hp⟩:=zSz (alw:=alwF f day b) day om m h1 (fun k l hk=>by unfold alwF;rw[decide_eq_true om];rfl) _ _ _ hq2 h5;obtain⟨k1,k2⟩:=zHe hp;have k1:(bstF fs kiln days f day b).is=true:=k1;exact⟨k1,Nat.le_antisymm (zTu k2) (hge k1)⟩
 ·rintro⟨h1,h2⟩;obtain⟨p,hp⟩:=zAn days.length (start fs) h1;obtain⟨m,l,m1,k1,k2,k3⟩:=zSs hp (Nat.le_refl _) (by rw[Nat.sub_self];rfl) h2 day om hd;refine⟨m,l,m1,k1,k2,?_⟩;unfold alwF at k3;simpa using k3
theorem jFa {f day:Nat} {sm al:Bool} (hd:day<days.length) (his:(bstA fs kiln days).is=true)
  (hs:sm=true↔∃m l m1,Tw fs kiln days day m∧Tgt fs kiln days day m l m1∧decide (l.getD f 0=3)=true)
  (ha:al=false↔∃m l m1,Tw fs kiln days day m∧Tgt fs kiln days day m l m1∧decide (l.getD f 0=3)=false) :
  verdO (bstF fs kiln days f day true) (bstF fs kiln days f day false)=(if al=true then 1 else if sm=true then 3 else 2,0):=by
 have hge:∀b:Bool,(bstF fs kiln days f day b).is=true->(bstA fs kiln days).f<=(bstF fs kiln days f day b).f:=fun b h=>by
  obtain⟨p,hp⟩:=zAn days.length (start fs) h;exact (zKs hp).2
 have hor:(∃m l m1,Tw fs kiln days day m∧Tgt fs kiln days day m l m1∧decide (l.getD f 0=3)=true)∨(∃m l m1,Tw fs kiln days day m∧Tgt fs kiln days day m l m1∧decide (l.getD f 0=3)=false):=by
  obtain⟨p,hp⟩:=zAn days.length (start fs) his;obtain⟨m,l,m1,k1,k2,_⟩:=zSs hp (Nat.le_refl _) (by rw[Nat.sub_self];rfl) J day om hd
  cases h:decide (l.getD f 0=3) with
  | true=>exact .inl ⟨m,l,m1,k1,k2,h⟩
  | false=>exact .inr ⟨m,l,m1,k1,k2,h⟩
 rw[zL8 hd] at hs ha hor;rw[zL8 hd] at hor;have kt:=hge true;have kf:=hge false
 generalize bstF fs kiln days f day true=x at *
 generalize bstF fs kiln days f day false=y at *
 generalize (bstA fs kiln days).f=n at *
 unfold verdO
 rw[if_neg (show ¬(x.is=false∧y.is=false) from by
  rintro⟨a,b⟩
  rcases hor with ⟨c,_⟩|⟨c,_⟩
  ·rw[a] at c;cases c
  ·rw[b] at c;cases c)]
 cases al with
 | true =>
  have hy:¬(y.is=true∧y.f=n):=fun h=>by cases ha.2 h
  have hx:=hor.resolve_right hy
  rw[if_neg,if_pos,if_pos J]
  ·cases hyi:y.is with
   | false=>exact .inl rfl
   | true=>have:=kf hyi;exact .inr ⟨hx.1,by have:y.f≠n:=fun e=>hy ⟨hyi,e⟩;omega⟩
  ·rintro (h|⟨h,h'⟩)
   ·rw[hx.1] at h;cases h
   ·have:=kf h;omega
 | false =>
  have hy:=ha.1 J;rw[if_neg (show ¬(false=true) by simp)]
  cases sm with
  | true =>
   have hx:=hs.1 J
   rw[if_neg,if_neg,if_pos J]
   ·rintro (h|⟨_,h⟩)
    ·rw[hy.1] at h;cases h
    ·omega
   ·rintro (h|⟨_,h⟩)
    ·rw[hx.1] at h;cases h
    ·omega
  | false =>
   have hx:¬(x.is=true∧x.f=n):=fun h=>by cases hs.2 h
   rw[if_pos,if_neg (show ¬(false=true) by simp)]
   cases hxi:x.is with
   | false=>exact .inl rfl
   | true=>have:=kt hxi;exact .inr ⟨hy.1,by have:x.f≠n:=fun e=>hx ⟨hxi,e⟩;omega⟩
theorem jB7 {f day:Nat} (h:(bstA fs kiln days).is=false):verdO (bstF fs kiln days f day true) (bstF fs kiln days f day false)=(0,11):=by
 have hno:∀b:Bool,(bstF fs kiln days f day b).is=false:=fun b=>by
  cases hb:(bstF fs kiln days f day b).is with
  | false=>rfl
  | true =>
   obtain⟨p,hp⟩:=zAn days.length (start fs) hb;have h2:(bstA fs kiln days).is=true:=(zKs hp).1;rw[h] at h2
   cases h2
 unfold verdO;rw[if_pos ⟨hno _,hno _⟩]
theorem jFc (his:(bstA fs kiln days).is=true):∀(d:Nat) (m:Mor),Tw fs kiln days d m->(bE fs kiln days (days.length-d) m).is=true
 | 0,m,h=>by
  obtain rfl:m=start fs:=h;rw[Nat.sub_zero]
  exact his
 | d+1,m,⟨m0,l,_,_,_,h,_⟩=>h
def Prs (fs:List Flt) (kiln:Nat) (days:List Nat) (d i k:Nat) (m:Mor) (l:List Nat):Prop :=
 (∃i' k':Nat,(i'<i∨i'=i∧k'<k)∧(lvlL fs kiln (days.take d))[i']?=some m∧(exts [] fs.length)[k']?=some l)∧Tw fs kiln days d m
theorem wV {d i k:Nat} {m m':Mor} {l l':List Nat} (hm:(lvlL fs kiln (days.take d))[i]?=some m) (hl:(exts [] fs.length)[k]?=some l):Prs fs kiln days d i (k+1) m' l'↔Prs fs kiln days d i k m' l'∨(m'=m∧l'=l∧Tw fs kiln days d m):=by
 constructor
 ·rintro⟨⟨i',k',h1,h2,h3⟩,h4⟩
  by_cases h:i'=i∧k'=k
  ·obtain⟨rfl,rfl⟩:=h;rw[hm] at h2;rw[hl] at h3
   cases h2
   cases h3
   exact .inr ⟨rfl,rfl,h4⟩
  ·exact .inl ⟨⟨i',k',by omega,h2,h3⟩,h4⟩
 ·rintro (⟨⟨i',k',h1,h2,h3⟩,h4⟩|⟨rfl,rfl,h4⟩)
  ·exact⟨⟨i',k',by omega,h2,h3⟩,h4⟩
  ·exact⟨⟨i,k,by omega,hm,hl⟩,h4⟩
structure Knw (fs:List Flt) (kiln:Nat) (days:List Nat) (f day d i k:Nat) (nx:List Bool) (sm al:Bool):Prop where
 len:nx.length=(lvlL fs kiln (days.take (d+1))).length
 hit:∀(j:Nat) m1,(lvlL fs kiln (days.take (d+1)))[j]?=some m1->(nx[j]?=some true↔∃m l,Prs fs kiln days d i k m l∧Tgt fs kiln days d m l m1)
 smI:sm=true↔d=day∧∃m l m1,Prs fs kiln days d i k m l∧Tgt fs kiln days d m l m1∧decide (l.getD f 0=3)=true
 alI:al=false↔d=day∧∃m l m1,Prs fs kiln days d i k m l∧Tgt fs kiln days d m l m1∧decide (l.getD f 0=3)=false
variable {f day d i k:Nat} {nx:List Bool} {sm al:Bool} {m:Mor} {l:List Nat}
theorem Knw.same {i' k':Nat} (h:Knw fs kiln days f day d i k nx sm al) (he:∀m l m1,Tgt fs kiln days d m l m1->(Prs fs kiln days d i' k' m l↔Prs fs kiln days d i k m l)):Knw fs kiln days f day d i' k' nx sm al :=
 ⟨h.len,fun j m1 hj=>(h.hit j m1 hj).trans ⟨fun⟨m,l,a,b⟩=>⟨m,l,(he _ _ _ b).2 a,b⟩,fun⟨m,l,a,b⟩=>⟨m,l,(he _ _ _ b).1 a,b⟩⟩,
  h.smI.trans (and_congr_right fun _=>⟨fun⟨m,l,m1,a,b,c⟩=>⟨m,l,m1,(he _ _ _ b).2 a,b,c⟩,fun⟨m,l,m1,a,b,c⟩=>⟨m,l,m1,(he _ _ _ b).1 a,b,c⟩⟩),
  h.alI.trans (and_congr_right fun _=>⟨fun⟨m,l,m1,a,b,c⟩=>⟨m,l,m1,(he _ _ _ b).2 a,b,c⟩,fun⟨m,l,m1,a,b,c⟩=>⟨m,l,m1,(he _ _ _ b).1 a,b,c⟩⟩)⟩
theorem Knw.first (f day d:Nat):Knw fs kiln days f day d 0 0 (List.replicate (lvlL fs kiln (days.take (d+1))).length false) false true:=by
 have hno:∀m l,¬Prs fs kiln days d 0 0 m l:=fun m l ⟨⟨i',k',h,_⟩,_⟩=>by omega
 refine⟨List.length_replicate,fun j m1 hj=>⟨fun h=>?_,fun⟨m,l,h,_⟩=>absurd h (hno m l)⟩,⟨fun h=>(nomatch h),fun⟨_,m,l,_,h,_⟩=>absurd h (hno m l)⟩,⟨fun h=>(nomatch h),fun⟨_,m,l,_,h,_⟩=>absurd h (hno m l)⟩⟩;rw[List.getElem?_replicate] at h
 split at h
 ·cases h
 ·cases h
theorem Knw.miss (h:Knw fs kiln days f day d i k nx sm al) (hm:(lvlL fs kiln (days.take d))[i]?=some m) (hl:(exts [] fs.length)[k]?=some l) (hno:∀m1,¬Tgt fs kiln days d m l m1):Knw fs kiln days f day d i (k+1) nx sm al :=
 h.same fun _m' _l' m1 ht=>(wV hm hl).trans ⟨fun h=>h.elim id fun⟨e1,e2,_⟩=>absurd ht (e1▸e2▸hno m1),.inl⟩
theorem Knw.row (h:Knw fs kiln days f day d i k nx sm al) (hm:(lvlL fs kiln (days.take d))[i]?=some m) (hk:k=(exts [] fs.length).length∨¬Tw fs kiln days d m) (h0:¬Tw fs kiln days d m->k=0):Knw fs kiln days f day d (i+1) 0 nx sm al:=by
 refine h.same fun m' l' m1 ht=>and_congr_left fun htw=>⟨fun⟨i',k',a,b,c⟩=>⟨i',k',?_,b,c⟩,fun⟨i',k',a,b,c⟩=>⟨i',k',by omega,b,c⟩⟩
 rcases Nat.lt_or_ge i' i with hi|hi
 ·exact .inl hi
 ·obtain rfl:i'=i:=om;rw[hm] at b
  cases b
  rcases hk with rfl|hk
  ·exact .inr ⟨rfl,(List.getElem?_eq_some_iff.1 c).1⟩
  ·exact absurd htw hk
theorem Knw.take {j:Nat} (h:Knw fs kiln days f day d i k nx sm al) (hm:(lvlL fs kiln (days.take d))[i]?=some m) (hl:(exts [] fs.length)[k]?=some l) (htw:Tw fs kiln days d m) (ht:Tgt fs kiln days d m l m1) (hj:(lvlL fs kiln (days.take (d+1)))[j]?=some m1) :
  Knw fs kiln days f day d i (k+1) (nx.set j true) (if d=day then sm||decide (l.getD f 0=3) else sm) (if d=day then al&&decide (l.getD f 0=3) else al):=by
 have hjl:=(List.getElem?_eq_some_iff.1 hj).1
 have huniq:∀m2,Tgt fs kiln days d m l m2->m2=m1:=fun m2 h2=>by
  have:=h2.2.1.symm.trans ht.2.1;exact (Prod.ext_iff.1 this).2
 refine⟨by rw[List.length_set];exact h.len,fun j' m2 hj'=>?_,?_,?_⟩
 ·rw[List.getElem?_set]
  by_cases hjj:j=j'
  ·subst hjj;rw[hj] at hj'
   cases hj'
   rw[if_pos J,if_pos (by rw[h.len];exact hjl)];exact⟨fun _=>⟨m,l,(wV hm hl).2 (.inr ⟨rfl,rfl,htw⟩),ht⟩,fun _=>rfl⟩
  ·rw[if_neg hjj,h.hit j' m2 hj']
   constructor
   ·rintro⟨m',l',a,b⟩;exact⟨m',l',(wV hm hl).2 (.inl a),b⟩
   ·rintro⟨m',l',a,b⟩
    rcases (wV hm hl).1 a with a|⟨rfl,rfl,_⟩
    ·exact⟨m',l',a,b⟩
    ·have e:=huniq m2 b;rw[e] at hj';exact absurd ((List.getElem?_inj hjl (zGf _)).1 (hj.trans hj'.symm)) hjj
 ·by_cases hd:d=day
  ·rw[if_pos hd,Bool.or_eq_true,h.smI]
   constructor
   ·rintro (⟨_,m',l',m2,a,b,c⟩|c)
    ·exact⟨hd,m',l',m2,(wV hm hl).2 (.inl a),b,c⟩
    ·exact⟨hd,m,l,m1,(wV hm hl).2 (.inr ⟨rfl,rfl,htw⟩),ht,c⟩
   ·rintro⟨_,m',l',m2,a,b,c⟩
    rcases (wV hm hl).1 a with a|⟨rfl,rfl,_⟩
    ·exact .inl ⟨hd,m',l',m2,a,b,c⟩
    ·exact .inr c
  ·rw[if_neg hd,h.smI];exact⟨fun⟨a,_⟩=>absurd a hd,fun⟨a,_⟩=>absurd a hd⟩
 ·by_cases hd:d=day
  ·rw[if_pos hd,Bool.and_eq_false_iff,h.alI]
   constructor
   ·rintro (⟨_,m',l',m2,a,b,c⟩|c)
    ·exact⟨hd,m',l',m2,(wV hm hl).2 (.inl a),b,c⟩
    ·exact⟨hd,m,l,m1,(wV hm hl).2 (.inr ⟨rfl,rfl,htw⟩),ht,c⟩
   ·rintro⟨_,m',l',m2,a,b,c⟩
    rcases (wV hm hl).1 a with a|⟨rfl,rfl,_⟩
    ·exact .inl ⟨hd,m',l',m2,a,b,c⟩
    ·exact .inr c
  ·rw[if_neg hd,h.alI];exact⟨fun⟨a,_⟩=>absurd a hd,fun⟨a,_⟩=>absurd a hd⟩
theorem jDn (hd:d<=days.length) (h:Tw fs kiln days d m):m∈lvlL fs kiln (days.take d):=by
 induction d generalizing m with
 | zero =>
  obtain rfl:m=start fs:=h
  exact List.mem_of_getElem? (i:=0) J
 | succ d ih =>
  obtain⟨m0,l,h1,h2,h3,_⟩:=h;have hs:days[d]?=some (days.getD d 0):=by rw[List.getD_eq_getElem?_getD,List.getElem?_eq_getElem om];rfl
  exact zGi hs (ih om h1) h2 h3
theorem Knw.last (h:Knw fs kiln days f day d (lvlL fs kiln (days.take d)).length 0 nx sm al) (hd:d<days.length) :
  (∀(j:Nat) m1,(lvlL fs kiln (days.take (d+1)))[j]?=some m1->(nx[j]?=some true↔Tw fs kiln days (d+1) m1))∧(d≠day->sm=false∧al=true) ∧
  (d=day->(sm=true↔∃m l m1,Tw fs kiln days day m∧Tgt fs kiln days day m l m1∧decide (l.getD f 0=3)=true)∧(al=false↔∃m l m1,Tw fs kiln days day m∧Tgt fs kiln days day m l m1∧decide (l.getD f 0=3)=false)):=by
 have he:∀m l m1,Tgt fs kiln days d m l m1->(Prs fs kiln days d (lvlL fs kiln (days.take d)).length 0 m l↔Tw fs kiln days d m):=fun m l m1 ht=>⟨fun h=>h.2,fun h=>by
  obtain⟨i',hi⟩:=List.getElem?_of_mem (jDn om h);obtain⟨k',hk⟩:=List.getElem?_of_mem ht.1
  exact⟨⟨i',k',.inl (List.getElem?_eq_some_iff.1 hi).1,hi,hk⟩,h⟩⟩
 refine⟨fun j m1 hj=>(h.hit j m1 hj).trans ⟨fun⟨m,l,a,b⟩=>⟨m,l,(he _ _ _ b).1 a,b⟩,fun⟨m,l,a,b⟩=>⟨m,l,(he _ _ _ b).2 a,b⟩⟩,fun hdd=>⟨?_,?_⟩,fun hdd=>⟨?_,?_⟩⟩
 ·cases sm with
  | false=>rfl
  | true=>exact absurd (h.smI.1 rfl).1 hdd
 ·cases al with
  | true=>rfl
  | false=>exact absurd (h.alI.1 rfl).1 hdd
 ·subst hdd;exact h.smI.trans ⟨fun⟨_,m,l,m1,a,b,c⟩=>⟨m,l,m1,(he _ _ _ b).1 a,b,c⟩,fun⟨m,l,m1,a,b,c⟩=>⟨rfl,m,l,m1,(he _ _ _ b).2 a,b,c⟩⟩
 ·subst hdd;exact h.alI.trans ⟨fun⟨_,m,l,m1,a,b,c⟩=>⟨m,l,m1,(he _ _ _ b).1 a,b,c⟩,fun⟨m,l,m1,a,b,c⟩=>⟨rfl,m,l,m1,(he _ _ _ b).2 a,b,c⟩⟩
end
end
section
variable {d i k sg:Nat} {l:List Nat} {m m1:Mor} {o:Oc} {v:Int} {x:List Int} {α:Type}
def e100 (x:Int):Int:=if 0<=x then x / 100 else x
def encF (o:Oc):Int:=if o.is then (o.f:Int) else -1
theorem zZs {x:Int} (h:0<=x):e100 x=x.tdiv 100:=by unfold e100;rw[if_pos h,Int.tdiv_eq_ediv_of_nonneg h]
theorem jBi {x:Int} (h:¬0<=x):e100 x=x:=if_neg h
theorem zX7 (h:o.w<=99):e100 (encO o)=encF o:=by
 unfold encO encF
 split
 ·unfold e100;rw[if_pos om];omega
 ·rfl
theorem zFr (h:o.is=true):encF o=(o.f:Int):=if_pos h
theorem jBg (o:Oc) : -1<=encF o:=by unfold encF;split<;>omega
theorem jAy {n:Nat} (h:o.f<=n):encF o<=n:=by unfold encF;split<;>omega
theorem jCt (h:encF o<0):o.is=false:=by
 cases h1:o.is with
 | false=>rfl
 | true=>rw[zFr h1] at h;omega
def fireL (fs:List Flt) (kiln:Nat) (days:List Nat) (i:Nat):List Int:=(lvlL fs kiln (days.take i)).map fun m=>encF (bE fs kiln days (days.length-i) m)
theorem zU5 {fs:List Flt} {kiln:Nat} {days:List Nat} (hc:ChW fs kiln days) (i:Nat):(costL (lasR fs false) fs kiln days i).map e100=fireL fs kiln days i:=by
 unfold costL fireL;rw[List.map_map];refine List.map_congr_left fun m _=>?_;have h:=zCi (las:=lasR fs false) (kiln:=kiln) (days:=days) hc.f3 (days.length-i) m;have h4:=hc.d4;exact zX7 om
def dvO (o:OZ):OZ:=(o.1,o.2.1,o.2.2.map e100)
def dvrow (o:OZ):Res:=orow (dvO o)
def prt (k:Nat) (x:List Int):List Int:=(x.take k).map e100++x.drop k
theorem jAo (x:List Int):prt x.length x=x.map e100:=by unfold prt;rw[List.take_length,List.drop_length,List.append_nil]
theorem zKf (h:x[k]?=some v):(prt k x)[k]?=some v:=by
 have hk:=(List.getElem?_eq_some_iff.1 h).1;unfold prt;rw[List.getElem?_append_right (by simp;omega)];simp;rw[show k+(k-min k x.length)=k from by omega];exact h
theorem zRu (h:x[k]?=some v):(prt k x).set k (e100 v)=prt (k+1) x:=by
 have hk:=(List.getElem?_eq_some_iff.1 h).1;have hv:=(List.getElem?_eq_some_iff.1 h).2;unfold prt;rw[List.set_append_right _ _ (by simp;omega),List.take_add_one,h,List.map_append,List.append_assoc]
 congr 1
 rw[List.drop_eq_getElem_cons hk,hv];simp;rw[show k-min k x.length=0 from by omega]
 rfl
theorem zYi (h:x[k]?=some v) (hv:e100 v=v):prt (k+1) x=prt k x:=by
 rw[<-zRu h,hv]
 apply List.ext_getElem?
 intro j;rw[List.getElem?_set]
 split
 ·next e =>
  subst e;rw[zKf h]
  split
  ·rfl
  ·next hl =>
   have:=(List.getElem?_eq_some_iff.1 (zKf h)).1;exact absurd this hl
 ·rfl
theorem jBy (k:Nat) (x:List Int):(prt k x).length=x.length:=by unfold prt;simp;omega
theorem zYs {l:List α} {x:α} (h:l[i]?=some x):l.drop i=x::l.drop (i+1):=by
 obtain⟨h1,h2⟩:=List.getElem?_eq_some_iff.1 h;rw[List.drop_eq_getElem_cons h1,h2]
theorem jCx {l:List α} {x:α} (h:l[i]?=some x):l.take (i+1)=l.take i++[x]:=by
 rw[List.take_add_one,h]
 rfl
theorem zYj (W:List OZ):(W.map dvO).map ocell=W.map ocell:=by
 rw[List.map_map];refine List.map_congr_left fun o _=>?_;show Value.slice o.1 (o.2.2.map e100).length o.2.1=.slice o.1 o.2.2.length o.2.1;rw[List.length_map]
theorem zUn (n:Nat):madeCells (Value.bool false).cells (n*1)=(bools (List.replicate n false)).toArray:=by
 rw[Nat.mul_one];unfold madeCells
 apply Array.toList_inj.1
 apply List.ext_getElem?
 intro i
 by_cases hi:i<n
 ·simp[Value.cells,hi,Nat.mod_one,bools]
 ·simp[Value.cells,hi,bools]
theorem zWb (l:List Bool) (k:Nat) (b:Bool):(bools l).set k (.bool b)=bools (l.set k b):=by unfold bools;rw[List.map_set]
theorem zVi (l:List Bool):(bools l).length=l.length:=by unfold bools;rw[List.length_map]
theorem zF0 {v:Nat} (h:l[k]?=some v):(ints l)[k]?=some (.int .i64 (v:Int)):=by unfold ints;rw[List.getElem?_map,h];rfl
section
variable {fs:List Flt} {kiln:Nat} {days:List Nat}
theorem jEw (hs:days[d]?=some sg) (he:(dayE fs kiln m l sg).1≠0) (m1:Mor):¬Tgt fs kiln days d m l m1:=by
 rintro⟨_,h,_⟩;rw[List.getD_eq_getElem?_getD,hs] at h;have h:dayE fs kiln m l sg=(0,m1):=h;rw[h] at he;exact he J
theorem zR3 (his:(bstA fs kiln days).is=true) (ht:Tw fs kiln days d m) (hs:days[d]?=some sg) (hl:l∈exts [] fs.length) (he:dayE fs kiln m l sg=(0,m1)) :
  (0<=encF (bE fs kiln days (days.length-(d+1)) m1)∧encF (bE fs kiln days (days.length-(d+1)) m1)+((spF l:Nat):Int)=encF (bE fs kiln days (days.length-d) m))↔Tgt fs kiln days d m l m1:=by
 have h1:=jFc his d m ht
 have hg:dayE fs kiln m l (days.getD d 0)=(0,m1):=by
  rw[List.getD_eq_getElem?_getD,hs];exact he
 rw[zFr h1];unfold Tgt
 constructor
 ·rintro⟨a,b⟩
  cases h2:(bE fs kiln days (days.length-(d+1)) m1).is with
  | false =>
   unfold encF at a;rw[if_neg (by rw[h2];simp)] at a
   exact absurd a (by decide)
  | true =>
   rw[zFr h2] at b;exact⟨hl,hg,rfl,by omega⟩
 ·rintro⟨_,_,a,b⟩;rw[zFr a];omega
theorem jCb (his:(bstA fs kiln days).is=true) (ht:Tw fs kiln days d m) (hs:days[d]?=some sg) (hl:l∈exts [] fs.length) (he:dayE fs kiln m l sg=(0,m1))
  (h:¬(0<=encF (bE fs kiln days (days.length-(d+1)) m1)∧encF (bE fs kiln days (days.length-(d+1)) m1)+((spF l:Nat):Int)=encF (bE fs kiln days (days.length-d) m))) (m2:Mor):¬Tgt fs kiln days d m l m2:=by
 intro hT
 have e:m2=m1:=by
  have h3:dayE fs kiln m l (days.getD d 0)=(0,m1):=by
   rw[List.getD_eq_getElem?_getD,hs];exact he
  exact (Prod.ext_iff.1 (hT.2.1.symm.trans h3)).2
 subst e;exact h ((zR3 his ht hs hl he).2 hT)
structure DayK (fs:List Flt) (kiln:Nat) (days:List Nat) (f day d:Nat) (now:List Bool) (sm al:Bool):Prop where
 le:d<=day+1
 len:now.length=(lvlL fs kiln (days.take d)).length
 now:∀(j:Nat) m1,(lvlL fs kiln (days.take d))[j]?=some m1->(now[j]?=some true↔Tw fs kiln days d m1)
 ahead:d<=day->sm=false∧al=true
 done:d=day+1->(sm=true↔∃m l m1,Tw fs kiln days day m∧Tgt fs kiln days day m l m1∧decide (l.getD f 0=3)=true)∧(al=false↔∃m l m1,Tw fs kiln days day m∧Tgt fs kiln days day m l m1∧decide (l.getD f 0=3)=false)
theorem DayK.first (f day:Nat):DayK fs kiln days f day 0 [true] false true :=
 ⟨Nat.zero_le _,rfl,fun j m1 hj=>(by
  cases j with
  | zero =>
   injection hj with hj
   exact⟨fun _=>hj.symm,fun _=>rfl⟩
  | succ j=>cases hj),fun _=>⟨rfl,rfl⟩,fun h=>absurd h om⟩
theorem DayK.next {f day:Nat} {nx:List Bool} {sm al:Bool} (hk:Knw fs kiln days f day d (lvlL fs kiln (days.take d)).length 0 nx sm al) (hd:d<=day) (hdl:d<days.length):DayK fs kiln days f day (d+1) nx sm al:=by
 obtain⟨h1,h2,h3⟩:=hk.last hdl;exact⟨by omega,hk.len,h1,fun h=>h2 om,fun h=>h3 om⟩
end
end
section
variable [I:Sys]
theorem zZx {fA dA lA:Option Addr} {fc dc lc kiln:Nat} {fs:List Flt} {days:List Nat} (hc:ChW fs kiln days) {LS:List LZ} (hLS:LS.reverse.map lmor=(List.range (days.length+1)).map (fun i=>lvlL fs kiln (days.take i))) (w:World) (hF:RdL Flt.cells 4 w fA fs) (hD:RdL ncell 1 w dA days) (hL:RdLv fs.length w lA LS):Calls TP 74 #[(CG fA fs.length fc kiln dA days.length dc),.slice lA LS.length lc] w fun e w'=>∃(A:Option Addr) (c:Nat) (W:List OZ),W.length=days.length+1∧(∀i o,W[i]?=some o->o.2.2=fireL fs kiln days i)∧e=.returned (.slice A W.length c)∧Grew w w' (.row 23 1 A W.length c (W.map ocell)::W.map orow):=by
 refine enter (N:=49) [(0,(CG fA fs.length fc kiln dA days.length dc)),(1,.slice lA LS.length lc)] Tryz.func74 J Tryz.ntmps74 J J (csr (jT J J ?_));intro b2;refine lax J J (csr (zZ J J F.agg25 F.ti25 (zA J J (kJ (X:=Option Addr×Nat×List OZ) (vs:=[_,_,_]) (p:=fun y=>y.2.2.length=days.length+1∧∀i o,y.2.2[i]?=some o->o.2.2=costL (lasR fs false) fs kiln days i) (val:=fun y=>.slice y.1 y.2.2.length y.2.1) (rs:=fun y=>.row 23 1 y.1 y.2.2.length y.2.1 (y.2.2.map ocell)::y.2.2.map orow) J J F.ent98 (fun a w ha=>(zSt hc hLS w (hF.later ha.below) (hD.later ha.below) (hL.later ha.below)).mono (fun e w' h=>by obtain⟨A',c',W',h1,h2,h3,h4⟩:=h;exact⟨(A',c',W'),⟨h1,h2⟩,h3,h4⟩)) ?_))));rintro⟨kA,kc,W⟩ ⟨hWl,hW⟩;dsimp only at hWl hW ⊢;refine vL (List.Perm.cons _ List.perm_append_comm) ?_;simp only[List.cons_append,List.nil_append];refine vJ kA om ?_;intro gk hgk;have hd4:=hc.d4;refine lax J J (zG (csr (lax J J (zQ (qU (G:=Nat) (fun i=>i<=W.length) (fun i=>W.length-i) (fun i=>[(5,.slice kA W.length kc),(6,.int .i64 (i:Int))]) (fun i=>.row 23 1 kA W.length kc (W.map ocell)::((W.take i).map dvrow++(W.drop i).map orow)) 0 (Nat.zero_le _) sbn (by simp only[List.take_zero,List.drop_zero,List.map_nil,List.nil_append];refine Pck.cons (Rem.here _) ?_;refine Pck.skip _ ?_;exact Pck.refl _) ?_)))));intro i hi0;(try dsimp only at hi0 ⊢);refine zG (csr (zA J J (zA J J (jR J J U35 (zE J J J jY ?_)))))
 refine lnx (zK J (fun hc0=>?_) (fun hc0=>?_))
 ·have hi:i<W.length:=om;obtain⟨o,ho⟩:∃o,W[i]?=some o:=⟨_,List.getElem?_eq_getElem hi⟩;have hoc:=hW i o ho;have hol:o.2.2.length<=1000:=by rw[hoc];unfold costL;rw[List.length_map];exact zBo hc _
  rw[zYs ho,List.map_cons];refine zTi (List.perm_middle (a:=orow o) (l₁:=.row 23 1 kA W.length kc (W.map ocell)::(W.take i).map dvrow) (l₂:=(W.drop (i+1)).map orow)) ?_;rw[show orow o=.row 3 1 o.1 o.2.2.length o.2.1 (zis (prt 0 o.2.2)) from rfl];simp only[List.cons_append];refine zO (zD (zG (zQ (csr (lax J J (zQ (qU (G:=Nat) (fun k=>k<=o.2.2.length) (fun k=>o.2.2.length-k) (fun k=>[(5,.slice kA W.length kc),(6,.int .i64 (i:Int)),(7,.int .i64 (k:Int))]) (fun k=>.row 3 1 o.1 o.2.2.length o.2.1 (zis (prt k o.2.2))::.row 23 1 kA W.length kc (W.map ocell)::((W.take i).map dvrow++(W.drop (i+1)).map orow)) 0 (Nat.zero_le _) sbn (Pck.refl _) ?_)))))));intro k hk0;(try dsimp only at hk0 ⊢);refine zG (csr (zA J J (zA J J (zA J J (jO (j:=i) J (show _=some (Value.slice (some ⟨gk,0,none⟩) W.length kc) from by rw[<-hgk];rfl) J Tryz.underlying35 F.ti23 om om (jM (v:=.slice o.1 o.2.2.length o.2.1) J J F.one23 (fun a w ha=>jQ ha (InR.mem (A:=kA)) hgk (by rw[List.getElem?_map,show 0+(i)*1=(i) from by omega,ho];rfl)) ?_))))));refine jR J J U23 (zE J J J jY ?_)
  refine lnx (zK J (fun hc1=>?_) (fun hc1=>?_))
  ·have hk:k<o.2.2.length:=om;obtain⟨v,hv⟩:∃v,o.2.2[k]?=some v:=⟨_,List.getElem?_eq_getElem hk⟩
   have hvb:v<=412:=by
    have hv':=hv;rw[hoc] at hv';unfold costL at hv';rw[List.getElem?_map] at hv';obtain⟨m,_,rfl⟩:=Option.map_eq_some_iff.1 hv';have h:=zPo (zCi (las:=lasR fs false) (kiln:=kiln) (days:=days) hc.f3 (days.length-i) m);omega
   refine zO (zD (zG (zQ (csr (yD (fun a w ha=>vN (ha.own _ ((List.mem_cons_self ..):Res.row 3 1 o.1 o.2.2.length o.2.1 (zis (prt k o.2.2))∈_)) om) ?_)))));rintro⟨go,hgo⟩;refine zA J J (zA J J (jO (j:=i) J (show _=some (Value.slice (some ⟨gk,0,none⟩) W.length kc) from by rw[<-hgk];rfl) J Tryz.underlying35 F.ti23 om om (jM (v:=.slice o.1 o.2.2.length o.2.1) J J F.one23 (fun a w ha=>jQ ha (InR.mem (A:=kA)) hgk (by rw[List.getElem?_map,show 0+(i)*1=(i) from by omega,ho];rfl)) ?_)));refine zA J J (jO (j:=k) J (show _=some (Value.slice (some ⟨go,0,none⟩) o.2.2.length o.2.1) from by rw[<-hgo];rfl) J Tryz.underlying23 F.ti3 J hk (jM (v:=.int .i64 v) J J F.one3 (fun a w ha=>(jQ ha (InR.mem (A:=o.1)) hgo (zo1 (zAh (zKf hv))))) (zE J J J zFb ?_)))
   refine lnx (zK J (fun hc2=>?_) (fun hc2=>?_))
   ·refine jS [.r o.1] F.follows 15 J (fl 15) J (anm 0 J J J (anm 1 J J J (zC 2 J J J (jG (j:=i) (show _=some (Value.slice (some ⟨gk,0,none⟩) W.length kc) from by rw[<-hgk];rfl) J Tryz.underlying35 F.ti23 om om) (zC 3 J J J (jC (v:=.slice o.1 o.2.2.length o.2.1) J F.one23 (fun a w ha=>jQ ha (InR.mem (A:=kA)) hgk (by rw[List.getElem?_map,show 0+(i)*1=(i) from by omega,ho];rfl))) ?_))));refine anm 4 J J J (anm 5 J J J (anm 6 J J J (zC 7 J J J (jG (j:=i) (show _=some (Value.slice (some ⟨gk,0,none⟩) W.length kc) from by rw[<-hgk];rfl) J Tryz.underlying35 F.ti23 om om) (zC 8 J J J (jC (v:=.slice o.1 o.2.2.length o.2.1) J F.one23 (fun a w ha=>jQ ha (InR.mem (A:=kA)) hgk (by rw[List.getElem?_map,show 0+(i)*1=(i) from by omega,ho];rfl))) ?_))));refine anm 9 J J J (zC 10 J J J (jG (j:=k) (show _=some (Value.slice (some ⟨go,0,none⟩) o.2.2.length o.2.1) from by rw[<-hgo];rfl) J Tryz.underlying23 F.ti3 J hk) (an1 11 J (jM (v:=.int .i64 v) J J F.one3 (fun a w ha=>(jQ ha (InR.mem (A:=o.1)) hgo (zo1 (zAh (zKf hv))))) (zB (anb (zC 12 J J J (kW (v:=.int .i64 (e100 v)) J J (fun w=>zH8 w (by decide) (by rw[<-zZs om];exact kC _ (by unfold e100;omega) (by unfold e100;omega)))) (an1 13 J (jO (j:=k) J (show _=some (Value.slice (some ⟨go,0,none⟩) o.2.2.length o.2.1) from by rw[<-hgo];rfl) J Tryz.underlying23 F.ti3 J hk (zB (anb (an1 14 J (xZ (A:=o.1) (zis (prt (k+1) o.2.2)) (show _=some (Value.pointer (some ⟨go,0+k*1,none⟩)) from rfl) J F.ti3 hgo (by rw[zHz,jBy];omega) (by rw[show 0+k*1=k from by omega,zHx,zRu hv]) (zB (anb (adn (zJ (zD (zL (zA J J (zE J J J bdO (zF J J (zB (kS (k+1) om tdo sbn (Pck.refl _))))))))))))))))))))))))
   ·refine zO (zJ (zD (zL (zA J J (zE J J J bdO (zF J J (zB (kS (k+1) om tdo sbn (by (try dsimp only);rw[zYi hv (jBi hc2)];exact Pck.refl _)))))))))
  ·obtain rfl:k=o.2.2.length:=om
   rw[jAo,show Res.row 3 1 o.1 o.2.2.length o.2.1 (zis (o.2.2.map e100))=dvrow o from by
    show _=Res.row 3 1 o.1 (o.2.2.map e100).length o.2.1 (zis (o.2.2.map e100))
    rw[List.length_map]]
   refine jV (zN (zN (zY (zJ (zD (zL (zA J J (zE J J J bdO (zF J J (zB (zK9 (List.perm_middle (a:=dvrow o) (l₁:=.row 23 1 kA W.length kc (W.map ocell)::(W.take i).map dvrow) (l₂:=(W.drop (i+1)).map orow)).symm (kS (i+1) om tdo sbn (by (try dsimp only);rw[jCx ho,List.map_append,List.append_assoc];exact Pck.refl _)))))))))))))
 ·obtain rfl:i=W.length:=om;rw[List.take_length,List.drop_length,List.map_nil,List.append_nil,<-zYj];refine jV (zN (zN (zY (zD (csr (zA J J (lax J J (zV ?_))))))))
  exact zX J (rsO J J) (fun a w ha=>⟨kA,kc,W.map dvO,by rw[List.length_map];exact hWl,fun i o h=>by
   rw[List.getElem?_map] at h;obtain⟨o',h1,rfl⟩:=Option.map_eq_some_iff.1 h;rw[<-zU5 hc,<-hW i o' h1]
   rfl,by rw[List.length_map],by
   rw[List.length_map,show (W.map dvO).map orow=W.map dvrow from by rw[List.map_map];rfl]
   exact ha.grown (List.Sublist.refl _)⟩)

variable {dA fA:Option Addr} {dc fc:Nat} {dz:List Int} {fz:List FltZ} {kz:Int}
theorem zWl (hfl:fz.length<1000000) (hdl:dz.length<1000000) {fi dd:Int} (hk:(askE (chk fz kz dz) (btw fi 0 ((fz.length:Int)-1)&&btw dd 0 ((dz.length:Int)-1)))≠0) (w:World) (hF:RdL FltZ.cells 4 w fA fz) (hD:RdL zcell 1 w dA dz):Calls TP 26 #[.agg (CY fA fz.length fc kz dA dz.length dc).toArray,.int .i64 fi,.int .i64 dd] w fun e w'=>e=.returned (.tuple #[.int .i64 0,.int .i64 (((askE (chk fz kz dz) (btw fi 0 ((fz.length:Int)-1)&&btw dd 0 ((dz.length:Int)-1))):Nat):Int)])∧Grew w w' []:=by
 refine enter (N:=85) [(0,.agg (CY fA fz.length fc kz dA dz.length dc).toArray),(1,.int .i64 fi),(2,.int .i64 dd)] Tryz.func26 J Tryz.ntmps26 J J (csr (jT J J ?_));intro b3;refine zF J J (lax J J (zG (csr (zZ J J F.agg25 F.ti25 (jE (v:=.int .i64 ((chk fz kz dz:Nat):Int)) (vs:=[_]) J J F.ent33 (fun a w ha=>zAk hfl hdl w (hF.later ha.below) (hD.later ha.below)) (lax J J (csr (zA J J (zE J J J kT ?_)))))))))
 refine lnx (zK J (fun hc0=>?_) (fun hc0=>?_))
 ·exact csr (zA J J (zF J J (lax J J (zV (zU (zX J (fun a w ha=>xN J J J ha) (fun a w ha=>⟨by rw[zDv om],ha.grown nsl⟩)))))))
 ·have hck:chk fz kz dz=0:=om;rw[hck] at hk ⊢
  refine zO (zD (zG (csr (vU 16 34 (.bool (!(btw fi 0 ((fz.length:Int)-1)&&btw dd 0 ((dz.length:Int)-1)))) ?_ ?_))))
  ·refine zA J J (zI J J F.fi25_0 F.ti22 (zS J J F.one22 (jR J J Tryz.underlying22 (zE (v:=.int .i64 ((fz.length:Int)-1)) J J J (fun w=>qK w (by rw[kC _ om om])) (jE (v:=.bool (btw fi 0 ((fz.length:Int)-1))) (vs:=[_,_,_]) J J F.ent68 (fun a w ha=>yT fi 0 ((fz.length:Int)-1) w) ?_)))))
   refine qC J J (zA J J (vE (t:=26) J (fun hg26=>?_) (fun hg26=>?_)))
   ·exact zR J J J (zR J J J (zR J J J (zR J J J (zR J J J (zR J J J (zR J J J (jH J J J (zB (qN (.cons (by refine congrArg (fun b=>some (Value.bool b)) ?_;first|(rw[show btw fi 0 ((fz.length:Int)-1)=false from by simpa using hg26];rfl)|(rw[show btw fi 0 ((fz.length:Int)-1)=true from by simpa using hg26,Bool.true_and])) sbn) sbl)))))))))
   ·exact zM J J (zA J J (zM J J (zI J J F.fi25_2 F.ti23 (zM J J (zS J J F.one23 (zM J J (jR J J Tryz.underlying23 (zM J J (zE (v:=.int .i64 ((dz.length:Int)-1)) J J J (fun w=>qK w (by rw[kC _ om om])) (zM J J (jE (v:=.bool (btw dd 0 ((dz.length:Int)-1))) (vs:=[_,_,_]) J J F.ent68 (fun a w ha=>yT dd 0 ((dz.length:Int)-1) w) (zM J J (qC J J (jU J J J (zB (qN (.cons (by refine congrArg (fun b=>some (Value.bool b)) ?_;first|(rw[show btw fi 0 ((fz.length:Int)-1)=false from by simpa using hg26];rfl)|(rw[show btw fi 0 ((fz.length:Int)-1)=true from by simpa using hg26,Bool.true_and])) sbn) sbl))))))))))))))))
  refine lnx (kH J (fun hc1=>?_) (fun hc1=>?_))
  ·exact csr (zF J J (lax J J (zV (zU (zX J (fun a w ha=>xN J J J ha) (fun a w ha=>⟨by rw[(Bool.not_eq_true' _).mp hc1];rfl,ha.grown nsl⟩))))))
  ·exfalso;exact hk (by rw[(Bool.not_eq_false' _).mp hc1];rfl)
   done

theorem zUg (hfl:fz.length<1000000) (hdl:dz.length<1000000) {fi dd:Int} (hk:(askE (chk fz kz dz) (btw fi 0 ((fz.length:Int)-1)&&btw dd 0 ((dz.length:Int)-1)))≠0) (w:World) (hF:RdL FltZ.cells 4 w fA fz) (hD:RdL zcell 1 w dA dz):Calls TP 27 #[.agg (CY fA fz.length fc kz dA dz.length dc).toArray,.int .i64 fi,.int .i64 dd] w fun e w'=>e=.returned (.tuple #[.int .i64 0,.int .i64 (((askE (chk fz kz dz) (btw fi 0 ((fz.length:Int)-1)&&btw dd 0 ((dz.length:Int)-1))):Nat):Int)])∧Grew w w' []:=by
 refine enter (N:=195) [(0,.agg (CY fA fz.length fc kz dA dz.length dc).toArray),(1,.int .i64 fi),(2,.int .i64 dd)] Tryz.func27 J Tryz.ntmps27 J J (csr (jT J J ?_));intro b3;refine zF J J (lax J J (zG (zG ?_)))
 rcases hbf:btw fi 0 ((fz.length:Int)-1) with _|_
 ·refine jS [] F.follows 17 J (fl 17) J (zC 0 J J J (kR J F.agg25 F.ti25) (anm 1 J J J (zC 2 J J J (zP J F.fi25_0 F.ti22) (zC 3 J J J (jJ J F.one22) (zC 4 J J J (vQ J Tryz.underlying22) (an1 5 J (zE (v:=.int .i64 ((fz.length:Int)-1)) J J J (fun w=>qK w (by rw[kC _ om om])) (zB (anb (an1 6 J (jE (v:=.bool (btw fi (0) ((fz.length:Int)-1))) (vs:=[_,_,_]) J J F.ent72 (fun a w ha=>wB (fi) (0) ((fz.length:Int)-1) w) ?_)))))))))));rw[hbf];refine zB (anb (anm 7 J J J (atf 8 J J J J J (atf 9 J J J J J (atf 10 J J J J J (atf 11 J J J J J (atf 12 J J J J J (atf 13 J J J J J (zC 14 J J J (qH J J) (an1 15 J (jE (v:=.int .i64 ((askE (chk fz kz dz) false:Nat):Int)) (vs:=[_,_]) J J F.ent71 (fun a w ha=>zI7 hfl hdl w (hF.later ha.below) (hD.later ha.below)) (zB (anb (zC 16 J J J (jP J) (adn (zD (csr (zA J J (zE J J J kT ?_)))))))))))))))))))
  refine lnx (zK J (fun hc0=>?_) (fun hc0=>?_))
  ·exact csr (zA J J (zF J J (lax J J (zV (zU (zX J (fun a w ha=>xN J J J ha) (fun a w ha=>⟨rfl,ha.grown nsl⟩)))))))
  ·exfalso;rw[hbf] at hk;exact hk (show askE (chk fz kz dz) false=0 from by omega)
   done
 ·refine jS [] F.follows 17 J (fl 17) J (zC 0 J J J (kR J F.agg25 F.ti25) (anm 1 J J J (zC 2 J J J (zP J F.fi25_0 F.ti22) (zC 3 J J J (jJ J F.one22) (zC 4 J J J (vQ J Tryz.underlying22) (an1 5 J (zE (v:=.int .i64 ((fz.length:Int)-1)) J J J (fun w=>qK w (by rw[kC _ om om])) (zB (anb (an1 6 J (jE (v:=.bool (btw fi (0) ((fz.length:Int)-1))) (vs:=[_,_,_]) J J F.ent72 (fun a w ha=>wB (fi) (0) ((fz.length:Int)-1) w) ?_)))))))))));rw[hbf];refine zB (anb (anm 7 J J J (ato 8 J J J J J (kF J) (ato 9 J J J J J (zP J F.fi25_2 F.ti23) (ato 10 J J J J J (jJ J F.one23) (ato 11 J J J J J (vQ J Tryz.underlying23) (an1 12 J (zM J J (zE (v:=.int .i64 ((dz.length:Int)-1)) J J J (fun w=>qK w (by rw[kC _ om om])) (zB (anb (an1 13 J (zM J J (jE (v:=.bool (btw dd (0) ((dz.length:Int)-1))) (vs:=[_,_,_]) J J F.ent72 (fun a w ha=>wB (dd) (0) ((dz.length:Int)-1) w) (zB (anb (zC 14 J J J (xQ J J) (an1 15 J (jE (v:=.int .i64 ((askE (chk fz kz dz) (btw dd 0 ((dz.length:Int)-1)):Nat):Int)) (vs:=[_,_]) J J F.ent71 (fun a w ha=>zI7 hfl hdl w (hF.later ha.below) (hD.later ha.below)) (zB (anb (zC 16 J J J (jP J) (adn (zD (csr (zA J J (zE J J J kT ?_)))))))))))))))))))))))))))
  refine lnx (zK J (fun hc0=>?_) (fun hc0=>?_))
  ·refine csr (zA J J (zF J J (lax J J (zV (zU (zX J (fun a w ha=>xN J J J ha) (fun a w ha=>?_)))))));exact⟨rfl,ha.grown nsl⟩
  ·exfalso;rw[hbf] at hk;exact hk (show askE (chk fz kz dz) (btw dd 0 ((dz.length:Int)-1))=0 from by omega)
   done

end
section
variable [I:Sys]
theorem F.ent74:Enters TP 74:=jD Tryz.func74 rfl kr
abbrev vT (A4 kA oA fA dA:Option Addr) (c4 kc oc fc kiln dc b3:Nat) (S:List Meta) (W:List OZ) (LS:List LZ) (fs:List Flt) (days:List Nat):List Res:=.row 23 1 A4 S.length c4 (S.reverse.map mcell)::.row 23 1 kA W.length kc (W.map ocell)::.row 109 1 oA LS.length oc (LS.reverse.map lcell)::.blk b3 (.cells (CA fA fs.length fc kiln dA days.length dc).toArray 25 (0,0))::((LS.flatMap (lrow fs.length)++W.map orow)++S.map mrow)
abbrev vB (A4 kA oA:Option Addr) (c4 kc oc b3 f day:Nat) (S:List Meta) (W:List OZ) (LS:List LZ):List (Nat×Value):=[(1,.int .i64 (f:Int)),(2,.int .i64 (day:Int)),(3,.pointer (some ⟨b3,0,none⟩)),(9,.slice oA LS.length oc),(10,.slice kA W.length kc),(14,.slice A4 S.length c4)]
set_option maxHeartbeats 1000000 in
theorem zS9 {fA dA:Option Addr} {fc dc kiln f day:Nat} {fs:List Flt} {days:List Nat} (hc:ChV fs kiln days) (hf:f<fs.length) (hdy:day<days.length) (w:World) (hF:RdL Flt.cells 4 w fA fs) (hD:RdL ncell 1 w dA days):Calls TP 27 #[(CG fA fs.length fc kiln dA days.length dc),.int .i64 (f:Int),.int .i64 (day:Int)] w fun e w'=>e=.returned (.tuple #[.int .i64 (((verdO (bstF fs kiln days f day true) (bstF fs kiln days f day false)).1:Nat):Int),.int .i64 (((verdO (bstF fs kiln days f day true) (bstF fs kiln days f day false)).2:Nat):Int)])∧Grew w w' []:=by
 refine enter (N:=195) [(0,(CG fA fs.length fc kiln dA days.length dc)),(1,.int .i64 (f:Int)),(2,.int .i64 (day:Int))] Tryz.func27 J Tryz.ntmps27 J J (csr (jT J J ?_));intro b3;refine zF J J (lax J J (zG (zG (jS [] F.follows 17 J (fl 17) J ?_))));have hd4:=hc.d4;have hd1:=hc.d1;have hf1:=hc.f1;have hf3:=hc.f3;have hten:=zFd hc.f3;refine zC 0 J J J (kR J F.agg25 F.ti25) (anm 1 J J J (zC 2 J J J (zP J F.fi25_0 F.ti22) (zC 3 J J J (jJ J F.one22) (zC 4 J J J (vQ J Tryz.underlying22) (an1 5 J (zE (v:=.int .i64 ((fs.length:Int)-1)) J J J (fun w=>qK w (by rw[kC _ om om])) (zB (anb (an1 6 J (jE (v:=.bool (btw (f:Int) (0) ((fs.length:Int)-1))) (vs:=[_,_,_]) J J F.ent72 (fun a w ha=>wB ((f:Int)) (0) ((fs.length:Int)-1) w) ?_))))))))));rw[zDp hf];refine zB (anb (anm 7 J J J (ato 8 J J J J J (kF J) (ato 9 J J J J J (zP J F.fi25_2 F.ti23) (ato 10 J J J J J (jJ J F.one23) (ato 11 J J J J J (vQ J Tryz.underlying23) (an1 12 J (zM J J (zE (v:=.int .i64 ((days.length:Int)-1)) J J J (fun w=>qK w (by rw[kC _ om om])) (zB (anb (an1 13 J (zM J J (jE (v:=.bool (btw (day:Int) (0) ((days.length:Int)-1))) (vs:=[_,_,_]) J J F.ent72 (fun a w ha=>wB ((day:Int)) (0) ((days.length:Int)-1) w) ?_))))))))))))));rw[zDp hdy];refine zB (anb (zC 14 J J J (xQ J J) (an1 15 J ?_)))
 refine jE (v:=.int .i64 0) (vs:=[_,_]) J J F.ent71 (fun a w ha=>by
  have h:=zI7 (kn:=true) (fA:=fA) (dA:=dA) (fc:=fc) (dc:=dc) (fz:=fs.map Flt.toZ) (kz:=(kiln:Int)) (dz:=toZs days) (by have:=hc.f3;simp;omega) (by have:=hc.d4;simp[toZs];omega) w (RdL.mapped Flt.toZ (hF.later ha.below) (fun _=>rfl)) (RdL.mapped (fun (n:Nat)=>(n:Int)) (hD.later ha.below) (fun _=>rfl));rw[chk0 hc] at h
  simpa[toZs,askE] using h) ?_
 refine zB (anb (zC 16 J J J (jP J) (adn (zD (csr (zA J J (zE J J J kT (lnx (kL J (zO (zD (csr (zZ J J F.agg25 F.ti25 (kJ (X:=Option Addr×Nat×List LZ) (vs:=[_]) (p:=fun y=>y.2.2.reverse.map lmor=(List.range (days.length+1)).map (fun i=>lvlL fs kiln (days.take i))) (val:=fun y=>.slice y.1 y.2.2.length y.2.1) (rs:=fun y=>.row 109 1 y.1 y.2.2.length y.2.1 (y.2.2.reverse.map lcell)::y.2.2.flatMap (lrow fs.length)) J J F.ent73 (fun a w ha=>(zOv hc.w w (hF.later ha.below) (hD.later ha.below)).mono (fun e w' h=>by obtain⟨A',c',L',h1,h2,h3⟩:=h;exact⟨(A',c',L'),h1,h2,h3⟩)) ?_))))))))))))));rintro⟨oA,oc,LS⟩ hLS;dsimp only at hLS ⊢;have hc:=hc.w;have hLl:LS.length=days.length+1:=by have h:=congrArg List.length hLS;simpa using h
 refine vL (List.Perm.cons _ List.perm_append_comm) ?_;simp only[List.cons_append,List.nil_append];refine vJ oA om ?_;intro g3 hg3;refine lax J J (csr (zZ J J F.agg25 F.ti25 (zA J J (kJ (X:=Option Addr×Nat×List OZ) (vs:=[_,_]) (p:=fun y=>y.2.2.length=days.length+1∧∀i o,y.2.2[i]?=some o->o.2.2=fireL fs kiln days i) (val:=fun y=>.slice y.1 y.2.2.length y.2.1) (rs:=fun y=>.row 23 1 y.1 y.2.2.length y.2.1 (y.2.2.map ocell)::y.2.2.map orow) J J F.ent74 (fun a w ha=>(zZx hc hLS w (hF.later ha.below) (hD.later ha.below) (zPm (c:=oc) ha (InR.mem (A:=oA)) (by intro r hr;repeat (first|exact hr|apply List.Mem.tail)))).mono (fun e w' h=>by obtain⟨A',c',W',h1,h2,h3,h4⟩:=h;exact⟨(A',c',W'),⟨h1,h2⟩,h3,h4⟩)) ?_))));rintro⟨kA,kc,W⟩ ⟨hWl,hW⟩;dsimp only at hWl hW ⊢;refine vL (List.Perm.cons _ List.perm_append_comm) ?_;simp only[List.cons_append];refine vJ kA om ?_;intro gk hgk;obtain⟨o0,ho0⟩:∃o,W[0]?=some o:=⟨_,List.getElem?_eq_getElem om⟩;have ho1W:=List.mem_of_getElem? ho0;have ho0x:o0.2.2[0]?=some (encF (bE fs kiln days days.length (start fs))):=by rw[hW 0 o0 ho0];rfl
 have ho0l:0<o0.2.2.length:=(List.getElem?_eq_some_iff.1 ho0x).1;refine yD (fun a w ha=>vN (ha.own _ ((show orow o0∈_ from (by (repeat apply List.mem_cons_of_mem);first|exact List.mem_append_right _ (List.mem_map_of_mem ho1W)|exact List.mem_append_left _ (List.mem_append_right _ (List.mem_map_of_mem ho1W)))):Res.row 3 1 o0.1 o0.2.2.length o0.2.1 (zis o0.2.2)∈_)) ho0l) ?_;rintro⟨go,hgo⟩;refine lax J J (zG (csr (zA J J (jO (j:=0) J (show _=some (Value.slice (some ⟨gk,0,none⟩) W.length kc) from by rw[<-hgk];rfl) J Tryz.underlying35 F.ti23 J om (jM (v:=.slice o0.1 o0.2.2.length o0.2.1) J J F.one23 (fun a w ha=>jQ ha (InR.mem (A:=kA)) hgk (by rw[List.getElem?_map,show 0+0*1=0 from rfl,ho0];rfl)) ?_)))));refine jO (j:=0) J (show _=some (Value.slice (some ⟨go,0,none⟩) o0.2.2.length o0.2.1) from by rw[<-hgo];rfl) J Tryz.underlying23 F.ti3 J ho0l (jM (v:=.int .i64 (encF (bE fs kiln days days.length (start fs)))) J J F.one3 (fun a w ha=>jQ ha ((show orow o0∈_ from (by (repeat apply List.mem_cons_of_mem);first|exact List.mem_append_right _ (List.mem_map_of_mem ho1W)|exact List.mem_append_left _ (List.mem_append_right _ (List.mem_map_of_mem ho1W)))):Res.row 3 1 o0.1 o0.2.2.length o0.2.1 (zis o0.2.2)∈_) hgo (zAh ho0x)) (zE J J J jY ?_))
 refine lnx (zK J (fun hc1=>?_) (fun hc1=>?_))
 ·exact csr (zF J J (lax J J (zV (zU (zX J (fun a w ha=>xN J J J ha) (fun a w ha=>⟨by rw[jB7 (jCt hc1)];rfl,ha.grown nsl⟩))))))
 ·have his:(bstA fs kiln days).is=true:=by
   cases h:(bstA fs kiln days).is with
   | true=>rfl
   | false =>
    refine absurd ?_ hc1;unfold encF;rw[show (bE fs kiln days days.length (start fs)).is=false from h,if_neg Bool.false_ne_true]
    decide
  refine zO (zD (csr (zF J J (lax J J (csr (kB (vs:=[(0,_)]) J J U107 F.ti4 J J J ?_))))));intro b53;refine yZ (n:=1) 1 J (by unfold maxLen;omega) (.head _) (lax J J (csr (zI J J F.fi25_0 F.ti22 (zS J J F.one22 (jR J J Tryz.underlying22 (kJ (X:=Option Addr×Nat×List Meta) (vs:=[_]) (p:=fun y=>y.2.2.reverse.map (·.2.2)=exts [] fs.length) (val:=fun y=>.slice y.1 y.2.2.length y.2.1) (rs:=fun y=>.row 23 1 y.1 y.2.2.length y.2.1 (y.2.2.reverse.map mcell)::y.2.2.map mrow) J J F.ent75 (fun a w ha=>(zHn fs.length hc.f3 w).mono (fun e w' h=>by obtain⟨A',c',S',h1,h2,h3⟩:=h;exact⟨(A',c',S'),h1,h2,h3⟩)) ?_))))));rintro⟨A4,c4,S⟩ hS;dsimp only at hS ⊢;have hSl:S.length=4^fs.length:=by have h:=congrArg List.length hS;rw[vC] at h;simpa using h
  have hS64:=Nat.pow_le_pow_right (n:=4) (by decide) hc.f3;have hS0:0<4^fs.length:=Nat.pow_pos (by decide);refine vL (List.Perm.cons _ List.perm_append_comm) ?_;simp only[List.cons_append];refine vJ A4 om ?_;intro g4 hg4;refine lax J J (zG (csr (lax J J (zQ (qU (G:=Nat×Nat×List Bool×Bool×Bool) (fun g=>DayK fs kiln days f day g.1 g.2.2.1 g.2.2.2.1 g.2.2.2.2) (fun g=>day+1-g.1) (fun g=>(11,.bool g.2.2.2.1)::(12,.bool g.2.2.2.2)::(13,.slice (some ⟨g.2.1,0,none⟩) g.2.2.1.length g.2.2.1.length)::(15,.int .i64 (g.1:Int))::vB A4 kA oA c4 kc oc b3 f day S W LS) (fun g=>.row 4 1 (some ⟨g.2.1,0,none⟩) g.2.2.1.length g.2.2.1.length (bools g.2.2.1)::vT A4 kA oA fA dA c4 kc oc fc kiln dc b3 S W LS fs days) (0,b53,[true],false,true) (DayK.first f day) sbn pkk ?_)))));rintro⟨d,bn,now,sm,al⟩ hDK;dsimp only at hDK ⊢;refine zG (csr (zA J J (zA J J (zE J J J zEw ?_))))
  refine lnx (zK J (fun hc2=>?_) (fun hc2=>?_))
  ·have hdd:d<=day:=om;have hd:d<days.length:=om;obtain⟨bd,bo,hdA,hbd,hcd⟩:=hD om;obtain⟨sg,hsg⟩:∃y,days[d]?=some y:=⟨_,List.getElem?_eq_getElem hd⟩;have hsg12:=hc.dd sg (List.mem_of_getElem? hsg);obtain⟨x1,hx1⟩:∃y,LS.reverse[d]?=some y:=⟨_,List.getElem?_eq_getElem (by simp;omega)⟩;have hx1L:x1∈LS:=List.mem_reverse.1 (List.mem_of_getElem? hx1)
   have hx1m:lmor x1=lvlL fs kiln (days.take (d)):=by
    have h:=qR hLS hx1;rw[List.getElem?_map,List.getElem?_range om] at h;injection h with h;exact h.symm
   have hx1n:x1.2.2.length<=1000:=by
    rw[<-vM,hx1m];exact zBo hc _
   have hx1k:∀y∈x1.2.2,MOk y.2.2∧Thin fs.length y.2.2:=fun y hy=>by
    have h:y.2.2∈lvlL fs kiln (days.take (d)):=hx1m▸List.mem_map_of_mem (List.mem_reverse.2 hy);exact wS hc h
   obtain⟨x2,hx2⟩:∃y,LS.reverse[d+1]?=some y:=⟨_,List.getElem?_eq_getElem (by simp;omega)⟩;have hx2L:x2∈LS:=List.mem_reverse.1 (List.mem_of_getElem? hx2)
   have hx2m:lmor x2=lvlL fs kiln (days.take (d+1)):=by
    have h:=qR hLS hx2;rw[List.getElem?_map,List.getElem?_range om] at h;injection h with h;exact h.symm
   have hx2n:x2.2.2.length<=1000:=by
    rw[<-vM,hx2m];exact zBo hc _
   have hx2k:∀y∈x2.2.2,MOk y.2.2∧Thin fs.length y.2.2:=fun y hy=>by
    have h:y.2.2∈lvlL fs kiln (days.take (d+1)):=hx2m▸List.mem_map_of_mem (List.mem_reverse.2 hy);exact wS hc h
   obtain⟨o1,ho1⟩:∃o,W[d+1]?=some o:=⟨_,List.getElem?_eq_getElem om⟩;have ho1W:=List.mem_of_getElem? ho1;have hoc:=hW (d+1) o1 ho1;obtain⟨o2,ho2⟩:∃o,W[d]?=some o:=⟨_,List.getElem?_eq_getElem om⟩;have ho2W:=List.mem_of_getElem? ho2;have hoc2:=hW d o2 ho2;obtain⟨hs0,ha0⟩:=hDK.ahead hdd;subst hs0;subst ha0;refine zO (zD (zG (zQ (csr (zA J J (zA J J (zE J J J bdO (jO (j:=d+1) J (show _=some (Value.slice (some ⟨g3,0,none⟩) LS.length oc) from by rw[<-hg3];rfl) J Tryz.underlying104 F.ti109 om om (jM (v:=.slice x2.1 x2.2.2.length x2.2.1) J J F.one109 (fun a w ha=>jQ ha (InR.mem (A:=oA)) hg3 (zo1 (yM hx2))) (jR J J Tryz.underlying109 (zF1 (n:=x2.2.2.length) (zUn _) J J J Tryz.underlying107 F.ti4 om om om ?_)))))))))));intro bx;refine lax J J (zG (jS [] F.follows 10 J (fl 10) J (anm 0 J J J (anm 1 J J J (zC 2 J J J (kW (v:=.int .i64 ((d+1:Nat):Int)) J J bdP) (zC 3 J J J (jG (j:=d+1) (show _=some (Value.slice (some ⟨g3,0,none⟩) LS.length oc) from by rw[<-hg3];rfl) J Tryz.underlying104 F.ti109 om om) (zC 4 J J J (jC (v:=.slice x2.1 x2.2.2.length x2.2.1) J F.one109 (fun a w ha=>jQ ha (InR.mem (A:=oA)) hg3 (zo1 (yM hx2)))) (zC 5 J J J (zP J F.fi25_0 F.ti22) (zC 6 J J J (jJ J F.one22) (zC 7 J J J (vQ J Tryz.underlying22) (an1 8 J ?_)))))))))))
   refine kJ (X:=Nat) (vs:=[_,_]) (p:=fun _=>True) (val:=fun y=>.slice (some ⟨y,0,none⟩) (ten fs.length) (ten fs.length)) (rs:=fun y=>[.row 3 1 (some ⟨y,0,none⟩) (ten fs.length) (ten fs.length) (zis (tabK (ten fs.length) (cods fs.length x2.2.2.reverse) x2.2.2.length))]) J J F.ent76 (fun a w ha=>?_) ?_
   ·have h:=zGa (l:=x2.2.2.reverse) (A:=x2.1) (c:=x2.2.1) hc.f3 (fun y hy=>(hx2k y (List.mem_reverse.1 hy)).1) (by rw[List.length_reverse];omega) w (yI ha (x:=x2) (n:=fs.length) (by intro r hr;(repeat apply List.mem_cons_of_mem);exact List.mem_append_left _ (List.mem_append_left _ (List.mem_flatMap.2 ⟨x2,hx2L,hr⟩))));rw[List.length_reverse] at h;exact h.mono (fun e w' h=>by obtain⟨b,h1,h2⟩:=h;exact⟨b,trivial,h1,h2⟩)
   rintro bt -;dsimp only[List.cons_append,List.nil_append];refine zB (anb (zC 9 J J J (jP J) (adn (zD (zG (csr (lax J J (zQ ?_))))))));have hK0:=Knw.first (fs:=fs) (kiln:=kiln) (days:=days) f day d;rw[<-hx2m,vM] at hK0;refine qU (G:=Nat×List Bool×Bool×Bool) (fun g=>g.1<=x1.2.2.length∧Knw fs kiln days f day d g.1 0 g.2.1 g.2.2.1 g.2.2.2) (fun g=>x1.2.2.length-g.1) (fun g=>(11,.bool g.2.2.1)::(12,.bool g.2.2.2)::(13,.slice (some ⟨bn,0,none⟩) now.length now.length)::(15,.int .i64 (d:Int))::(16,.slice (some ⟨bx,0,none⟩) g.2.1.length g.2.1.length)::(17,.slice (some ⟨bt,0,none⟩) (ten fs.length) (ten fs.length))::(18,.int .i64 (g.1:Int))::vB A4 kA oA c4 kc oc b3 f day S W LS) (fun g=>.row 3 1 (some ⟨bt,0,none⟩) (ten fs.length) (ten fs.length) (zis (tabK (ten fs.length) (cods fs.length x2.2.2.reverse) x2.2.2.length))::.row 4 1 (some ⟨bx,0,none⟩) g.2.1.length g.2.1.length (bools g.2.1)::.row 4 1 (some ⟨bn,0,none⟩) now.length now.length (bools now)::vT A4 kA oA fA dA c4 kc oc fc kiln dc b3 S W LS fs days) (0,List.replicate x2.2.2.length false,false,true) ⟨Nat.zero_le _,hK0⟩ (by dsimp only;rw[List.length_replicate];exact sbn) (by dsimp only;rw[List.length_replicate];exact pkk) ?_;rintro⟨i,nx,sm,al⟩ ⟨hi0,hK⟩;dsimp only at hi0 hK ⊢;refine zG (csr (zA J J (zA J J (zA J J (jO (j:=d) J (show _=some (Value.slice (some ⟨g3,0,none⟩) LS.length oc) from by rw[<-hg3];rfl) J Tryz.underlying104 F.ti109 om om (jM (v:=.slice x1.1 x1.2.2.length x1.2.1) J J F.one109 (fun a w ha=>jQ ha (InR.mem (A:=oA)) hg3 (zo1 (yM hx1))) (jR J J Tryz.underlying109 (zE J J J jY ?_))))))))
   refine lnx (zK J (fun hc3=>?_) (fun hc3=>?_))
   ·have hi:i<x1.2.2.length:=om;obtain⟨y,hy⟩:∃y,x1.2.2.reverse[i]?=some y:=⟨_,List.getElem?_eq_getElem (by simp;omega)⟩;have hyx:y∈x1.2.2:=List.mem_reverse.1 (List.mem_of_getElem? hy);have hla:(lvlL fs kiln (days.take d))[i]?=some y.2.2:=by rw[<-hx1m];unfold lmor;rw[List.getElem?_map,hy];rfl
    have hmv:=List.mem_of_getElem? hla;obtain⟨hmok,hmth⟩:=wS hc hmv;obtain⟨⟨sA,sc⟩,⟨wA,wc⟩,mo⟩:=y;dsimp only at hla hmv hmok hmth;have hil:=(List.getElem?_eq_some_iff.1 hla).1;obtain⟨nb,hnb⟩:∃nb,now[i]?=some nb:=⟨_,List.getElem?_eq_getElem (by rw[hDK.len];exact hil)⟩
    have htw:nb=true↔Tw fs kiln days d mo:=by
     have h:=hDK.now i mo hla;rw[hnb] at h;exact⟨fun e=>h.1 (e▸J),fun e=>Option.some.inj (h.2 e)⟩
    refine zO (zD (zG (zQ (csr (yD (fun a w ha=>vN (ha.own _ ((show ∀r∈lrow fs.length x1,r∈_ from (by intro r hr;(repeat apply List.mem_cons_of_mem);exact List.mem_append_left _ (List.mem_append_left _ (List.mem_flatMap.2 ⟨x1,hx1L,hr⟩)))) _ (List.mem_cons_self ..))) om) ?_)))));rintro⟨gx,hgx⟩;refine lax J J (zQ (qU (G:=Nat×List Bool×Bool×Bool) (fun g=>g.1<=S.length∧Knw fs kiln days f day d i g.1 g.2.1 g.2.2.1 g.2.2.2∧(nb=false->g.1=0)) (fun g=>S.length-g.1) (fun g=>(11,.bool g.2.2.1)::(12,.bool g.2.2.2)::(13,.slice (some ⟨bn,0,none⟩) now.length now.length)::(15,.int .i64 (d:Int))::(16,.slice (some ⟨bx,0,none⟩) g.2.1.length g.2.1.length)::(17,.slice (some ⟨bt,0,none⟩) (ten fs.length) (ten fs.length))::(18,.int .i64 (i:Int))::(19,.int .i64 (g.1:Int))::vB A4 kA oA c4 kc oc b3 f day S W LS) (fun g=>.row 3 1 (some ⟨bt,0,none⟩) (ten fs.length) (ten fs.length) (zis (tabK (ten fs.length) (cods fs.length x2.2.2.reverse) x2.2.2.length))::.row 4 1 (some ⟨bx,0,none⟩) g.2.1.length g.2.1.length (bools g.2.1)::.row 4 1 (some ⟨bn,0,none⟩) now.length now.length (bools now)::vT A4 kA oA fA dA c4 kc oc fc kiln dc b3 S W LS fs days) (0,nx,sm,al) ⟨Nat.zero_le _,hK,fun _=>rfl⟩ sbn pkk ?_));clear hK;rintro⟨k,nx,sm,al⟩ ⟨hk0,hK,hk1⟩;dsimp only at hk0 hK hk1 ⊢
    refine zG (csr (vU 10 97 (.bool (decide ((k:Int)<(S.length:Int))&&nb)) ?_ ?_))
    ·refine zA J J (zA J J (jR J J U35 (zE J J J jY ?_)))
     refine zA J J (xU (t:=92) J (fun hg92=>?_) (fun hg92=>?_))
     ·refine zM J J (zA J J (zM J J (zA J J ?_)));have hnl:=(List.getElem?_eq_some_iff.1 hnb).1;exact zM J J (jO (j:=i) J J J Tryz.underlying107 F.ti4 J om (zM J J (jM (v:=.bool nb) J J F.one4 (fun a w ha=>jQ ha (InR.mem (A:=some ⟨bn,0,none⟩)) J (zo1 (zXa hnb))) (jH J J J (zB (qN (.cons (by refine congrArg (fun b=>some (Value.bool b)) ?_;first|(rw[decide_eq_true om,Bool.true_and])|(rw[decide_eq_false om,Bool.false_and])) sbn) sbl))))))
     ·refine zR J J J (zR J J J ?_);have hnl:=(List.getElem?_eq_some_iff.1 hnb).1;exact zR J J J (zR J J J (jU J J J (zB (qN (.cons (by refine congrArg (fun b=>some (Value.bool b)) ?_;first|(rw[decide_eq_true om,Bool.true_and])|(rw[decide_eq_false om,Bool.false_and])) sbn) sbl))))
    refine lnx (kH J (fun hc4=>?_) (fun hc4=>?_))
    ·obtain⟨hk9,hnbt⟩:=(Bool.and_eq_true _ _).mp hc4;have hk9:k<S.length:=by have:=of_decide_eq_true hk9;omega
     have htm:=htw.1 hnbt;have hk:k<S.length:=om;obtain⟨s,hs⟩:∃y,S.reverse[k]?=some y:=⟨_,List.getElem?_eq_getElem (by simp;omega)⟩;have hsS:s∈S:=List.mem_reverse.1 (List.mem_of_getElem? hs);have hsl:(exts [] fs.length)[k]?=some s.2.2:=qR hS hs;have hsn:s.2.2.length=fs.length:=by rw[vW _ _ _ (List.mem_of_getElem? hsl),List.length_nil];omega
     have hs3:s.2.2.length<=3:=by have:=hc.f3;omega
     have hdc:=zLi hs3;refine zO (zD (zG (zQ (zG ?_))));rcases hDy:dayE fs kiln mo s.2.2 sg with ⟨e,m1⟩
     obtain rfl|⟨er,rfl⟩:e=0∨∃er,e=er+1:=by
      cases e with
      | zero=>exact .inl rfl
      | succ er=>exact .inr ⟨er,rfl⟩
     ·refine qF (G:=Nat×(Option Addr×Nat)×(Option Addr×Nat)) (fun _=>True) (fun g=>(20,.pointer (some ⟨g.1,0,none⟩))::(21,.int .i64 0)::(11,.bool sm)::(12,.bool al)::(13,.slice (some ⟨bn,0,none⟩) now.length now.length)::(15,.int .i64 (d:Int))::(16,.slice (some ⟨bx,0,none⟩) nx.length nx.length)::(17,.slice (some ⟨bt,0,none⟩) (ten fs.length) (ten fs.length))::(18,.int .i64 (i:Int))::(19,.int .i64 (k:Int))::vB A4 kA oA c4 kc oc b3 f day S W LS) (fun g=>.row 3 1 g.2.1.1 fs.length g.2.1.2 (ints (sts fs.length m1))::.row 4 1 g.2.2.1 fs.length g.2.2.2 (bools (wbs fs.length m1))::.blk g.1 (.cells #[.slice g.2.1.1 fs.length g.2.1.2,.slice g.2.2.1 fs.length g.2.2.2] 112 (0,0))::.row 3 1 (some ⟨bt,0,none⟩) (ten fs.length) (ten fs.length) (zis (tabK (ten fs.length) (cods fs.length x2.2.2.reverse) x2.2.2.length))::.row 4 1 (some ⟨bx,0,none⟩) nx.length nx.length (bools nx)::.row 4 1 (some ⟨bn,0,none⟩) now.length now.length (bools now)::vT A4 kA oA fA dA c4 kc oc fc kiln dc b3 S W LS fs days) ?_ ?_
      ·refine jS [] F.follows 24 J (fl 24) J (zC 0 J J J (kR J F.agg25 F.ti25) (zC 1 J J J (zP J F.fi25_2 F.ti23) (zC 2 J J J (jJ J F.one23) (anm 3 J J J (zC 4 J J J (jG (j:=d) (show _=some (Value.slice (some ⟨bd,bo,none⟩) days.length dc) from by rw[<-hdA];rfl) J Tryz.underlying23 F.ti3 J hd) (zC 5 J J J (jC (v:=.int .i64 (sg:Int)) J F.one3 (fun a w ha=>ha.old (hcd d _ hsg 0 _ J) hbd)) (anm 6 J J J (anm 7 J J J (zC 8 J J J (jG (j:=d) (show _=some (Value.slice (some ⟨g3,0,none⟩) LS.length oc) from by rw[<-hg3];rfl) J Tryz.underlying104 F.ti109 om om) (zC 9 J J J (jC (v:=.slice x1.1 x1.2.2.length x1.2.1) J F.one109 (fun a w ha=>jQ ha (InR.mem (A:=oA)) hg3 (zo1 (yM hx1)))) (anm 10 J J J (zC 11 J J J (jG (j:=i) (show _=some (Value.slice (some ⟨gx,0,none⟩) x1.2.2.length x1.2.1) from by rw[<-hgx];rfl) J Tryz.underlying109 F.ti112 J hi) ?_))))))))))))
       refine zAo 12 J J J kr kr kr sbl (qW (l:=[.slice sA fs.length sc,.slice wA fs.length wc]) J F.agg112 F.ti112 J (fun a w ha j u hu=>by
        obtain⟨b9,o9,h1,_,h3⟩:=(yI ha (x:=x1) (n:=fs.length) (by intro r hr;(repeat apply List.mem_cons_of_mem);exact List.mem_append_left _ (List.mem_append_left _ (List.mem_flatMap.2 ⟨x1,hx1L,hr⟩)))).outer (by simp;omega);rw[hgx] at h1
        cases h1
        exact h3 i _ hy j u hu)) J ?_
       refine anm 13 J J J (anm 14 J J J (zC 15 J J J (jG (j:=k) (show _=some (Value.slice (some ⟨g4,0,none⟩) S.length c4) from by rw[<-hg4];rfl) J Tryz.underlying35 F.ti23 J hk) (zC 16 J J J (jC (v:=.slice s.1 s.2.2.length s.2.1) J F.one23 (fun a w ha=>jQ ha (InR.mem (A:=A4)) hg4 (zo1 (xM hs)))) ?_)))
       refine qG 17 21 kr J J J J ?_ ?_
       ·refine kJ (X:=(Option Addr×Nat)×(Option Addr×Nat)) (vs:=[_,_,_,_]) (p:=fun _=>True) (val:=fun y=>.tuple #[.agg (mmc fs.length (y.1,y.2,m1)).toArray,.int .i64 0]) (rs:=fun y=>mmr fs.length (y.1,y.2,m1)) J J F.ent77 (fun a w ha=>(yB (nd:=days.length) (dA:=dA) (dc:=dc) hc.f3 hc.ff hmok hsn om w (hF.later ha.below) ((yI ha (x:=x1) (n:=fs.length) (by intro r hr;(repeat apply List.mem_cons_of_mem);exact List.mem_append_left _ (List.mem_append_left _ (List.mem_flatMap.2 ⟨x1,hx1L,hr⟩)))).inner _ (List.mem_reverse.2 hyx)) (xR ha (by (repeat apply List.mem_cons_of_mem);exact List.mem_append_right _ (List.mem_map_of_mem hsS)))).mono (fun e w' h=>by
         rw[hDy] at h;rcases h with ⟨_,sA,sc,wA,wc,h1,h2⟩|⟨h0,_⟩
         ·exact⟨((sA,sc),(wA,wc)),trivial,h1,h2⟩
         ·exact absurd J h0)) ?_
        rintro⟨⟨qA,qc⟩,⟨uA,uc⟩⟩ -;dsimp only[mmc,mmr,List.cons_append,List.nil_append];refine zB (anb (anm 18 J J J (zC 19 J J J (jN J J) (zC 20 J J J (jN J J) (an1 21 J (zW J F.ti112 ?_))))));intro b20;exact zB (anb (an1 22 J (zH J J F.ti112 J (zB (anb (zC 23 J J J (jP J) (adn (jK (b20,(qA,qc),(uA,uc)) trivial sbn pkk))))))))
       ·refine zW J F.ti112 ?_;intro b20;refine zB (anb (an1 17 J ?_))
        refine kJ (X:=(Option Addr×Nat)×(Option Addr×Nat)) (vs:=[_,_,_,_]) (p:=fun _=>True) (val:=fun y=>.tuple #[.agg (mmc fs.length (y.1,y.2,m1)).toArray,.int .i64 0]) (rs:=fun y=>mmr fs.length (y.1,y.2,m1)) J J F.ent77 (fun a w ha=>(yB (nd:=days.length) (dA:=dA) (dc:=dc) hc.f3 hc.ff hmok hsn om w (hF.later ha.below) ((yI ha (x:=x1) (n:=fs.length) (by intro r hr;(repeat apply List.mem_cons_of_mem);exact List.mem_append_left _ (List.mem_append_left _ (List.mem_flatMap.2 ⟨x1,hx1L,hr⟩)))).inner _ (List.mem_reverse.2 hyx)) (xR ha (by (repeat apply List.mem_cons_of_mem);exact List.mem_append_right _ (List.mem_map_of_mem hsS)))).mono (fun e w' h=>by
         rw[hDy] at h;rcases h with ⟨_,sA,sc,wA,wc,h1,h2⟩|⟨h0,_⟩
         ·exact⟨((sA,sc),(wA,wc)),trivial,h1,h2⟩
         ·exact absurd J h0)) ?_
        rintro⟨⟨qA,qc⟩,⟨uA,uc⟩⟩ -;dsimp only[mmc,mmr,List.cons_append,List.nil_append];exact zB (anb (anm 18 J J J (zC 19 J J J (jN J J) (zC 20 J J J (jN J J) (an1 22 J (zH J J F.ti112 J (zB (anb (zC 23 J J J (jP J) (adn (jK (b20,(qA,qc),(uA,uc)) trivial sbn pkk)))))))))))
      ·rintro⟨b20,⟨qA,qc⟩,⟨uA,uc⟩⟩ -;(try dsimp only)
       have h1ok:MOk m1:=by
        have h:=(yQ (kiln:=kiln) (acts:=s.2.2) (sugar:=sg) hc.ff hmok om hc.f3).1;rw[hDy] at h;exact h
       refine zD (zG (csr (zA J J (zE (v:=.bool false) J J J (fun w=>by rw[kT,decide_eq_false om]) (lnx (kL J (zO (zD (csr (zA J J (zZ J J F.agg112 F.ti112 (jE (v:=.int .i64 ((cdM m1 fs.length:Nat):Int)) (vs:=[_]) J J F.ent78 (fun a w ha=>zCd hc.f3 h1ok w (zGe ha (x:=((qA,qc),(uA,uc),m1)) (by intro r hr;simp only[mmr,List.mem_cons,List.not_mem_nil,or_false] at hr;rcases hr with rfl|rfl<;>simp))) ?_))))))))))));have hm1v:=zGi hsg hmv (List.mem_of_getElem? hsl) hDy;obtain⟨jj,hjt,hjl⟩:=zLj hc hx2m hm1v;have hlt:cdM m1 fs.length<ten fs.length:=zC0 h1ok _
       have hoj:o1.2.2[jj]?=some (encF (bE fs kiln days (days.length-(d+1)) m1)):=by
        rw[hoc];unfold fireL;rw[List.getElem?_map,hjl]
        rfl
       have hjx:jj<o1.2.2.length:=(List.getElem?_eq_some_iff.1 hoj).1;have hjn:jj<nx.length:=by rw[hK.len];exact (List.getElem?_eq_some_iff.1 hjl).1
       have hoi:o2.2.2[i]?=some (encF (bE fs kiln days (days.length-d) mo)):=by
        rw[hoc2];unfold fireL;rw[List.getElem?_map,hla]
        rfl
       have hix:i<o2.2.2.length:=(List.getElem?_eq_some_iff.1 hoi).1;refine yD (fun a w ha=>vN (ha.own _ ((show orow o1∈_ from (by (repeat apply List.mem_cons_of_mem);first|exact List.mem_append_right _ (List.mem_map_of_mem ho1W)|exact List.mem_append_left _ (List.mem_append_right _ (List.mem_map_of_mem ho1W)))):Res.row 3 1 o1.1 o1.2.2.length o1.2.1 (zis o1.2.2)∈_)) om) ?_;rintro⟨ga,hga⟩;refine yD (fun a w ha=>vN (ha.own _ ((show orow o2∈_ from (by (repeat apply List.mem_cons_of_mem);first|exact List.mem_append_right _ (List.mem_map_of_mem ho2W)|exact List.mem_append_left _ (List.mem_append_right _ (List.mem_map_of_mem ho2W)))):Res.row 3 1 o2.1 o2.2.2.length o2.2.1 (zis o2.2.2)∈_)) om) ?_;rintro⟨gb,hgb⟩;have hbe1:=jBg (bE fs kiln days (days.length-(d+1)) m1);have hbe2:encF (bE fs kiln days (days.length-(d+1)) m1)<=_:=jAy (zCi (las:=fun _=>true) (kiln:=kiln) (days:=days) hf3 (days.length-(d+1)) m1).1;have hbs:=zAt s.2.2;refine jO (j:=cdM m1 fs.length) J J J Tryz.underlying23 F.ti3 J hlt (jM (v:=.int .i64 (jj:Int)) J J F.one3 (fun a w ha=>jQ ha (InR.mem (A:=some ⟨bt,0,none⟩)) J (by rw[show 0+cdM m1 fs.length*1=cdM m1 fs.length from by omega];exact zAh hjt)) ?_)
       refine lax J J (zG (zG (qF (G:=Unit) (fun _=>True) (fun _=>(161,.bool (decide (¬(0<=(encF (bE fs kiln days (days.length-(d+1)) m1))∧(encF (bE fs kiln days (days.length-(d+1)) m1))+((spF s.2.2:Nat):Int)=(encF (bE fs kiln days (days.length-d) mo))))))::(22,.int .i64 (jj:Int))::(20,pt b20)::(11,.bool sm)::(12,.bool al)::(13,.slice (some ⟨bn,0,none⟩) now.length now.length)::(15,.int .i64 (d:Int))::(16,.slice (some ⟨bx,0,none⟩) nx.length nx.length)::(17,.slice (some ⟨bt,0,none⟩) (ten fs.length) (ten fs.length))::(18,.int .i64 (i:Int))::(19,.int .i64 (k:Int))::vB A4 kA oA c4 kc oc b3 f day S W LS) (fun _=>.row 3 1 (some ⟨bt,0,none⟩) (ten fs.length) (ten fs.length) (zis (tabK (ten fs.length) (cods fs.length x2.2.2.reverse) x2.2.2.length))::.row 4 1 (some ⟨bx,0,none⟩) nx.length nx.length (bools nx)::.row 4 1 (some ⟨bn,0,none⟩) now.length now.length (bools now)::vT A4 kA oA fA dA c4 kc oc fc kiln dc b3 S W LS fs days) ?_ ?_)))
       ·refine jS [] F.follows 34 J (fl 34) J (anm 0 J J J (anm 1 J J J (zC 2 J J J (kW (v:=.int .i64 ((d+1:Nat):Int)) J J bdP) (zC 3 J J J (jG (j:=d+1) (show _=some (Value.slice (some ⟨gk,0,none⟩) W.length kc) from by rw[<-hgk];rfl) J Tryz.underlying35 F.ti23 om om) (zC 4 J J J (jC (v:=.slice o1.1 o1.2.2.length o1.2.1) J F.one23 (fun a w ha=>jQ ha (InR.mem (A:=kA)) hgk (by rw[List.getElem?_map,show 0+(d+1)*1=(d+1) from by omega,ho1];rfl))) ?_)))));refine anm 5 J J J (zC 6 J J J (jG (j:=jj) (show _=some (Value.slice (some ⟨ga,0,none⟩) o1.2.2.length o1.2.1) from by rw[<-hga];rfl) J Tryz.underlying23 F.ti3 J hjx) (zC 7 J J J (jC (v:=.int .i64 (encF (bE fs kiln days (days.length-(d+1)) m1))) J F.one3 (fun a w ha=>jQ ha ((show orow o1∈_ from (by (repeat apply List.mem_cons_of_mem);first|exact List.mem_append_right _ (List.mem_map_of_mem ho1W)|exact List.mem_append_left _ (List.mem_append_right _ (List.mem_map_of_mem ho1W)))):Res.row 3 1 o1.1 o1.2.2.length o1.2.1 (zis o1.2.2)∈_) hga (zo1 (zAh hoj)))) (zC 8 J J J (kW J J jY) (anm 9 J J J ?_))))
        refine zGw (t:=137) J (fun hg137=>?_) (fun hg137=>?_)
        ·refine atf 10 J J J J J (atf 11 J J J J J (atf 12 J J J J J (atf 13 J J J J J (atf 14 J J J J J (atf 15 J J J J J (atf 16 J J J J J (atf 17 J J J J J (atf 18 J J J J J (atf 19 J J J J J (atf 20 J J J J J (atf 21 J J J J J (atf 22 J J J J J (atf 23 J J J J J (atf 24 J J J J J (atf 25 J J J J J (atf 26 J J J J J (atf 27 J J J J J (atf 28 J J J J J (atf 29 J J J J J (atf 30 J J J J J ?_))))))))))))))))))));exact atf 31 J J J J J (atf 32 J J J J J (zC 33 J J J (xQ J J) (adn (jK () trivial (.cons (by refine congrArg (fun b=>some (Value.bool b)) ?_;first|exact (decide_eq_true om).symm|exact (decide_eq_false om).symm|exact decide_eq_decide.2 om) sbn) pkk))))
        ·refine ato 10 J J J J J (kF J) (ato 11 J J J J J (kF J) (ato 12 J J J J J (kW (v:=.int .i64 ((d+1:Nat):Int)) J J bdP) (ato 13 J J J J J (jG (j:=d+1) (show _=some (Value.slice (some ⟨gk,0,none⟩) W.length kc) from by rw[<-hgk];rfl) J Tryz.underlying35 F.ti23 om om) (ato 14 J J J J J (jC (v:=.slice o1.1 o1.2.2.length o1.2.1) J F.one23 (fun a w ha=>jQ ha (InR.mem (A:=kA)) hgk (by rw[List.getElem?_map,show 0+(d+1)*1=(d+1) from by omega,ho1];rfl))) ?_))));refine ato 15 J J J J J (kF J) (ato 16 J J J J J (jG (j:=jj) (show _=some (Value.slice (some ⟨ga,0,none⟩) o1.2.2.length o1.2.1) from by rw[<-hga];rfl) J Tryz.underlying23 F.ti3 J hjx) (ato 17 J J J J J (jC (v:=.int .i64 (encF (bE fs kiln days (days.length-(d+1)) m1))) J F.one3 (fun a w ha=>jQ ha ((show orow o1∈_ from (by (repeat apply List.mem_cons_of_mem);first|exact List.mem_append_right _ (List.mem_map_of_mem ho1W)|exact List.mem_append_left _ (List.mem_append_right _ (List.mem_map_of_mem ho1W)))):Res.row 3 1 o1.1 o1.2.2.length o1.2.1 (zis o1.2.2)∈_) hga (zo1 (zAh hoj)))) (ato 18 J J J J J (kF J) (ato 19 J J J J J (kF J) (ato 20 J J J J J (jG (j:=k) (show _=some (Value.slice (some ⟨g4,0,none⟩) S.length c4) from by rw[<-hg4];rfl) J Tryz.underlying35 F.ti23 J hk) (ato 21 J J J J J (jC (v:=.slice s.1 s.2.2.length s.2.1) J F.one23 (fun a w ha=>jQ ha (InR.mem (A:=A4)) hg4 (zo1 (xM hs)))) (ato 25 J J J J J (kF J) (ato 26 J J J J J (kF J) (ato 27 J J J J J (jG (j:=d) (show _=some (Value.slice (some ⟨gk,0,none⟩) W.length kc) from by rw[<-hgk];rfl) J Tryz.underlying35 F.ti23 om om) (ato 28 J J J J J (jC (v:=.slice o2.1 o2.2.2.length o2.2.1) J F.one23 (fun a w ha=>jQ ha (InR.mem (A:=kA)) hgk (by rw[List.getElem?_map,show 0+(d)*1=(d) from by omega,ho2];rfl))) ?_))))))))));exact ato 29 J J J J J (kF J) (ato 30 J J J J J (jG (j:=i) (show _=some (Value.slice (some ⟨gb,0,none⟩) o2.2.2.length o2.2.1) from by rw[<-hgb];rfl) J Tryz.underlying23 F.ti3 J hix) (ato 31 J J J J J (jC (v:=.int .i64 (encF (bE fs kiln days (days.length-d) mo))) J F.one3 (fun a w ha=>jQ ha ((show orow o2∈_ from (by (repeat apply List.mem_cons_of_mem);first|exact List.mem_append_right _ (List.mem_map_of_mem ho2W)|exact List.mem_append_left _ (List.mem_append_right _ (List.mem_map_of_mem ho2W)))):Res.row 3 1 o2.1 o2.2.2.length o2.2.1 (zis o2.2.2)∈_) hgb (zo1 (zAh hoi)))) (an1 22 J (zM J J (jE (v:=.int .i64 ((dayC s.2.2:Nat):Int)) (vs:=[_]) J J F.ent79 (fun a w ha=>zId hs3 w (xR ha (by (repeat apply List.mem_cons_of_mem);exact List.mem_append_right _ (List.mem_map_of_mem hsS)))) (zB (anb (an1 23 J (zM J J (zE (v:=.int .i64 ((spF s.2.2:Nat):Int)) J J J (fun w=>zH8 w (by decide) (by rw[show ((dayC s.2.2:Nat):Int).tdiv 100=((spF s.2.2:Nat):Int) from by have:=zAu s.2.2;unfold dayC;rw[Int.tdiv_eq_ediv_of_nonneg om];omega];exact kC _ om om)) (zB (anb (an1 24 J (zM J J (zE J J J bdO (zB (anb (ato 32 J J J J J (kW J J kT) (zC 33 J J J (qH J J) (adn (jK () trivial (.cons (by refine congrArg (fun b=>some (Value.bool b)) ?_;first|exact (decide_eq_true om).symm|exact (decide_eq_false om).symm|exact decide_eq_decide.2 om) sbn) pkk)))))))))))))))))))))
       ·rintro⟨⟩ -;(try dsimp only)
        refine zD (zK J (fun hc6=>?_) (fun hc6=>?_))
        ·refine jV (zN (zY (zD (zL (zA J J (zE J J J bdO ?_))))))
         refine zF J J (zB (kS (k+1,nx,sm,al) ⟨by (try dsimp only);omega,?_,fun hn=>?_⟩ tdo (by (try dsimp only);exact sbn) (by (try dsimp only);exact pkk)))
         ·exact hK.miss hla hsl (fun m2=>jCb his htm hsg (List.mem_of_getElem? hsl) hDy hc6 m2)
         ·rw[hnbt] at hn;cases hn
        ·have hT:=(zR3 his htm hsg (List.mem_of_getElem? hsl) hDy).1 (Classical.not_not.1 hc6);have hK':=hK.take hla hsl htm hT hjl;refine zO (zD (csr (zA J J (zA J J (jO (j:=jj) J J J Tryz.underlying107 F.ti4 J hjn (xZ (A:=some ⟨bx,0,none⟩) (bools (nx.set jj true)) (show _=some (Value.pointer (some ⟨bx,0+jj*1,none⟩)) from rfl) J F.ti4 J (by rw[zVi];omega) (by rw[show 0+jj*1=jj from by omega,zWb]) (lnx (csr (yD (fun a w ha=>vN (ha.own _ ((show mrow s∈_ from (by (repeat apply List.mem_cons_of_mem);exact List.mem_append_right _ (List.mem_map_of_mem hsS))):Res.row 3 1 s.1 s.2.2.length s.2.1 (ints s.2.2)∈_)) om) ?_)))))))));rintro⟨gs,hgs⟩;obtain⟨vv,hvv⟩:∃vv,s.2.2[f]?=some vv:=⟨_,List.getElem?_eq_getElem om⟩;have hfv:s.2.2.getD f 0=vv:=by rw[List.getD_eq_getElem?_getD,hvv];rfl
         refine zA J J (zA J J (zE J J J kD ?_))
         refine lnx (zK J (fun hc7=>?_) (fun hc7=>?_))
         ·rw[if_pos (show d=day by omega),if_pos (show d=day by omega),hfv] at hK'
          refine qF (G:=Unit) (fun _=>True) (fun _=>(11,.bool (sm||decide (vv=3)))::(12,.bool (al&&decide (vv=3)))::(13,.slice (some ⟨bn,0,none⟩) now.length now.length)::(15,.int .i64 (d:Int))::(16,.slice (some ⟨bx,0,none⟩) nx.length nx.length)::(17,.slice (some ⟨bt,0,none⟩) (ten fs.length) (ten fs.length))::(18,.int .i64 (i:Int))::(19,.int .i64 (k:Int))::vB A4 kA oA c4 kc oc b3 f day S W LS) (fun _=>.row 3 1 (some ⟨bt,0,none⟩) (ten fs.length) (ten fs.length) (zis (tabK (ten fs.length) (cods fs.length x2.2.2.reverse) x2.2.2.length))::.row 4 1 (some ⟨bx,0,none⟩) nx.length nx.length (bools (nx.set jj true))::.row 4 1 (some ⟨bn,0,none⟩) now.length now.length (bools now)::vT A4 kA oA fA dA c4 kc oc fc kiln dc b3 S W LS fs days) ?_ ?_
          ·rcases sm with _|_<;>rcases al with _|_
           ·refine jS [] F.follows 24 J (fl 24) J (anm 0 J J J (anm 1 J J J (ato 2 J J J J J (kF J) (ato 3 J J J J J (kF J) (ato 4 J J J J J (jG (j:=k) (show _=some (Value.slice (some ⟨g4,0,none⟩) S.length c4) from by rw[<-hg4];rfl) J Tryz.underlying35 F.ti23 J hk) (ato 5 J J J J J (jC (v:=.slice s.1 s.2.2.length s.2.1) J F.one23 (fun a w ha=>jQ ha (InR.mem (A:=A4)) hg4 (zo1 (xM hs)))) (ato 6 J J J J J (kF J) (ato 7 J J J J J (jG (j:=f) (show _=some (Value.slice (some ⟨gs,0,none⟩) s.2.2.length s.2.1) from by rw[<-hgs];rfl) J Tryz.underlying23 F.ti3 J om) (ato 8 J J J J J (jC (v:=.int .i64 (vv:Int)) J F.one3 (fun a w ha=>jQ ha ((show mrow s∈_ from (by (repeat apply List.mem_cons_of_mem);exact List.mem_append_right _ (List.mem_map_of_mem hsS))):Res.row 3 1 s.1 s.2.2.length s.2.1 (ints s.2.2)∈_) hgs (zo1 (zF0 hvv)))) (ato 9 J J J J J (kW J J kD) (zC 10 J J J (qH J J) (anm 11 J J J (anm 12 J J J (atf 13 J J J J J (atf 14 J J J J J (atf 15 J J J J J (atf 16 J J J J J (atf 17 J J J J J (atf 18 J J J J J (atf 19 J J J J J ?_))))))))))))))))))));exact atf 20 J J J J J (zC 21 J J J (qH J J) (zC 22 J J J (jP J) (zC 23 J J J (jP J) (adn (jK () trivial (.cons (by refine congrArg (fun b=>some (Value.bool b)) ?_;first|rfl|(rw[Bool.false_or];exact decide_eq_decide.2 om)|(rw[Bool.true_and];exact decide_eq_decide.2 om)) (.cons (by refine congrArg (fun b=>some (Value.bool b)) ?_;first|rfl|(rw[Bool.false_or];exact decide_eq_decide.2 om)|(rw[Bool.true_and];exact decide_eq_decide.2 om)) sbn)) pkk)))))
           ·refine jS [] F.follows 24 J (fl 24) J (anm 0 J J J (anm 1 J J J (ato 2 J J J J J (kF J) (ato 3 J J J J J (kF J) (ato 4 J J J J J (jG (j:=k) (show _=some (Value.slice (some ⟨g4,0,none⟩) S.length c4) from by rw[<-hg4];rfl) J Tryz.underlying35 F.ti23 J hk) (ato 5 J J J J J (jC (v:=.slice s.1 s.2.2.length s.2.1) J F.one23 (fun a w ha=>jQ ha (InR.mem (A:=A4)) hg4 (zo1 (xM hs)))) (ato 6 J J J J J (kF J) (ato 7 J J J J J (jG (j:=f) (show _=some (Value.slice (some ⟨gs,0,none⟩) s.2.2.length s.2.1) from by rw[<-hgs];rfl) J Tryz.underlying23 F.ti3 J om) (ato 8 J J J J J (jC (v:=.int .i64 (vv:Int)) J F.one3 (fun a w ha=>jQ ha ((show mrow s∈_ from (by (repeat apply List.mem_cons_of_mem);exact List.mem_append_right _ (List.mem_map_of_mem hsS))):Res.row 3 1 s.1 s.2.2.length s.2.1 (ints s.2.2)∈_) hgs (zo1 (zF0 hvv)))) (ato 9 J J J J J (kW J J kD) (zC 10 J J J (qH J J) (anm 11 J J J (anm 12 J J J (ato 13 J J J J J (kF J) (ato 14 J J J J J (kF J) (ato 15 J J J J J (jG (j:=k) (show _=some (Value.slice (some ⟨g4,0,none⟩) S.length c4) from by rw[<-hg4];rfl) J Tryz.underlying35 F.ti23 J hk) (ato 16 J J J J J (jC (v:=.slice s.1 s.2.2.length s.2.1) J F.one23 (fun a w ha=>jQ ha (InR.mem (A:=A4)) hg4 (zo1 (xM hs)))) (ato 17 J J J J J (kF J) (ato 18 J J J J J (jG (j:=f) (show _=some (Value.slice (some ⟨gs,0,none⟩) s.2.2.length s.2.1) from by rw[<-hgs];rfl) J Tryz.underlying23 F.ti3 J om) (ato 19 J J J J J (jC (v:=.int .i64 (vv:Int)) J F.one3 (fun a w ha=>jQ ha ((show mrow s∈_ from (by (repeat apply List.mem_cons_of_mem);exact List.mem_append_right _ (List.mem_map_of_mem hsS))):Res.row 3 1 s.1 s.2.2.length s.2.1 (ints s.2.2)∈_) hgs (zo1 (zF0 hvv)))) ?_))))))))))))))))))));exact ato 20 J J J J J (kW J J kD) (zC 21 J J J (xQ J J) (zC 22 J J J (jP J) (zC 23 J J J (jP J) (adn (jK () trivial (.cons (by refine congrArg (fun b=>some (Value.bool b)) ?_;first|rfl|(rw[Bool.false_or];exact decide_eq_decide.2 om)|(rw[Bool.true_and];exact decide_eq_decide.2 om)) (.cons (by refine congrArg (fun b=>some (Value.bool b)) ?_;first|rfl|(rw[Bool.false_or];exact decide_eq_decide.2 om)|(rw[Bool.true_and];exact decide_eq_decide.2 om)) sbn)) pkk)))))
           ·refine jS [] F.follows 24 J (fl 24) J (anm 0 J J J (anm 1 J J J (atf 2 J J J J J (atf 3 J J J J J (atf 4 J J J J J (atf 5 J J J J J (atf 6 J J J J J (atf 7 J J J J J (atf 8 J J J J J (atf 9 J J J J J (zC 10 J J J (xQ J J) (anm 11 J J J (anm 12 J J J (atf 13 J J J J J (atf 14 J J J J J (atf 15 J J J J J (atf 16 J J J J J (atf 17 J J J J J (atf 18 J J J J J (atf 19 J J J J J ?_))))))))))))))))))));exact atf 20 J J J J J (zC 21 J J J (qH J J) (zC 22 J J J (jP J) (zC 23 J J J (jP J) (adn (jK () trivial (.cons (by refine congrArg (fun b=>some (Value.bool b)) ?_;first|rfl|(rw[Bool.false_or];exact decide_eq_decide.2 om)|(rw[Bool.true_and];exact decide_eq_decide.2 om)) (.cons (by refine congrArg (fun b=>some (Value.bool b)) ?_;first|rfl|(rw[Bool.false_or];exact decide_eq_decide.2 om)|(rw[Bool.true_and];exact decide_eq_decide.2 om)) sbn)) pkk)))))
           ·refine jS [] F.follows 24 J (fl 24) J (anm 0 J J J (anm 1 J J J (atf 2 J J J J J (atf 3 J J J J J (atf 4 J J J J J (atf 5 J J J J J (atf 6 J J J J J (atf 7 J J J J J (atf 8 J J J J J (atf 9 J J J J J (zC 10 J J J (xQ J J) (anm 11 J J J (anm 12 J J J (ato 13 J J J J J (kF J) (ato 14 J J J J J (kF J) (ato 15 J J J J J (jG (j:=k) (show _=some (Value.slice (some ⟨g4,0,none⟩) S.length c4) from by rw[<-hg4];rfl) J Tryz.underlying35 F.ti23 J hk) (ato 16 J J J J J (jC (v:=.slice s.1 s.2.2.length s.2.1) J F.one23 (fun a w ha=>jQ ha (InR.mem (A:=A4)) hg4 (zo1 (xM hs)))) (ato 17 J J J J J (kF J) (ato 18 J J J J J (jG (j:=f) (show _=some (Value.slice (some ⟨gs,0,none⟩) s.2.2.length s.2.1) from by rw[<-hgs];rfl) J Tryz.underlying23 F.ti3 J om) (ato 19 J J J J J (jC (v:=.int .i64 (vv:Int)) J F.one3 (fun a w ha=>jQ ha ((show mrow s∈_ from (by (repeat apply List.mem_cons_of_mem);exact List.mem_append_right _ (List.mem_map_of_mem hsS))):Res.row 3 1 s.1 s.2.2.length s.2.1 (ints s.2.2)∈_) hgs (zo1 (zF0 hvv)))) ?_))))))))))))))))))));exact ato 20 J J J J J (kW J J kD) (zC 21 J J J (xQ J J) (zC 22 J J J (jP J) (zC 23 J J J (jP J) (adn (jK () trivial (.cons (by refine congrArg (fun b=>some (Value.bool b)) ?_;first|rfl|(rw[Bool.false_or];exact decide_eq_decide.2 om)|(rw[Bool.true_and];exact decide_eq_decide.2 om)) (.cons (by refine congrArg (fun b=>some (Value.bool b)) ?_;first|rfl|(rw[Bool.false_or];exact decide_eq_decide.2 om)|(rw[Bool.true_and];exact decide_eq_decide.2 om)) sbn)) pkk)))))
          ·rintro⟨⟩ -;(try dsimp only);refine zJ (zD (zL (zA J J (zE J J J bdO ?_))))
           refine zF J J (zB (kS (k+1,nx.set jj true,sm||decide (vv=3),al&&decide (vv=3)) ⟨by (try dsimp only);omega,?_,fun hn=>?_⟩ tdo (by (try dsimp only);rw[List.length_set];exact sbn) (by (try dsimp only);rw[List.length_set];exact pkk)))
           ·exact hK'
           ·rw[hnbt] at hn;cases hn
         ·rw[if_neg (show ¬d=day by omega),if_neg (show ¬d=day by omega)] at hK';refine zO (zJ (zD (zL (zA J J (zE J J J bdO ?_)))))
          refine zF J J (zB (kS (k+1,nx.set jj true,sm,al) ⟨by (try dsimp only);omega,?_,fun hn=>?_⟩ tdo (by (try dsimp only);rw[List.length_set];exact sbn) (by (try dsimp only);rw[List.length_set];exact pkk)))
          ·exact hK'
          ·rw[hnbt] at hn;cases hn
     ·refine qF (G:=Nat) (fun _=>True) (fun g=>(20,pt g)::(21,.int .i64 ((er+1:Nat):Int))::(11,.bool sm)::(12,.bool al)::(13,.slice (some ⟨bn,0,none⟩) now.length now.length)::(15,.int .i64 (d:Int))::(16,.slice (some ⟨bx,0,none⟩) nx.length nx.length)::(17,.slice (some ⟨bt,0,none⟩) (ten fs.length) (ten fs.length))::(18,.int .i64 (i:Int))::(19,.int .i64 (k:Int))::vB A4 kA oA c4 kc oc b3 f day S W LS) (fun g=>.blk g (.cells #[.slice none 0 0,.slice none 0 0] 112 (0,0))::.row 3 1 (some ⟨bt,0,none⟩) (ten fs.length) (ten fs.length) (zis (tabK (ten fs.length) (cods fs.length x2.2.2.reverse) x2.2.2.length))::.row 4 1 (some ⟨bx,0,none⟩) nx.length nx.length (bools nx)::.row 4 1 (some ⟨bn,0,none⟩) now.length now.length (bools now)::vT A4 kA oA fA dA c4 kc oc fc kiln dc b3 S W LS fs days) ?_ ?_
      ·refine jS [] F.follows 24 J (fl 24) J (zC 0 J J J (kR J F.agg25 F.ti25) (zC 1 J J J (zP J F.fi25_2 F.ti23) (zC 2 J J J (jJ J F.one23) (anm 3 J J J (zC 4 J J J (jG (j:=d) (show _=some (Value.slice (some ⟨bd,bo,none⟩) days.length dc) from by rw[<-hdA];rfl) J Tryz.underlying23 F.ti3 J hd) (zC 5 J J J (jC (v:=.int .i64 (sg:Int)) J F.one3 (fun a w ha=>ha.old (hcd d _ hsg 0 _ J) hbd)) (anm 6 J J J (anm 7 J J J (zC 8 J J J (jG (j:=d) (show _=some (Value.slice (some ⟨g3,0,none⟩) LS.length oc) from by rw[<-hg3];rfl) J Tryz.underlying104 F.ti109 om om) (zC 9 J J J (jC (v:=.slice x1.1 x1.2.2.length x1.2.1) J F.one109 (fun a w ha=>jQ ha (InR.mem (A:=oA)) hg3 (zo1 (yM hx1)))) (anm 10 J J J (zC 11 J J J (jG (j:=i) (show _=some (Value.slice (some ⟨gx,0,none⟩) x1.2.2.length x1.2.1) from by rw[<-hgx];rfl) J Tryz.underlying109 F.ti112 J hi) ?_))))))))))))
       refine zAo 12 J J J kr kr kr sbl (qW (l:=[.slice sA fs.length sc,.slice wA fs.length wc]) J F.agg112 F.ti112 J (fun a w ha j u hu=>by
        obtain⟨b9,o9,h1,_,h3⟩:=(yI ha (x:=x1) (n:=fs.length) (by intro r hr;(repeat apply List.mem_cons_of_mem);exact List.mem_append_left _ (List.mem_append_left _ (List.mem_flatMap.2 ⟨x1,hx1L,hr⟩)))).outer (by simp;omega);rw[hgx] at h1
        cases h1
        exact h3 i _ hy j u hu)) J ?_
       refine anm 13 J J J (anm 14 J J J (zC 15 J J J (jG (j:=k) (show _=some (Value.slice (some ⟨g4,0,none⟩) S.length c4) from by rw[<-hg4];rfl) J Tryz.underlying35 F.ti23 J hk) (zC 16 J J J (jC (v:=.slice s.1 s.2.2.length s.2.1) J F.one23 (fun a w ha=>jQ ha (InR.mem (A:=A4)) hg4 (zo1 (xM hs)))) ?_)))
       refine qG 17 21 kr J J J J ?_ ?_
       ·refine jE (v:=.tuple #[.agg ([.slice none 0 0,.slice none 0 0]:List Value).toArray,.int .i64 ((er+1:Nat):Int)]) (vs:=[_,_,_,_]) J J F.ent77 (fun a w ha=>(yB (nd:=days.length) (dA:=dA) (dc:=dc) hc.f3 hc.ff hmok hsn om w (hF.later ha.below) ((yI ha (x:=x1) (n:=fs.length) (by intro r hr;(repeat apply List.mem_cons_of_mem);exact List.mem_append_left _ (List.mem_append_left _ (List.mem_flatMap.2 ⟨x1,hx1L,hr⟩)))).inner _ (List.mem_reverse.2 hyx)) (xR ha (by (repeat apply List.mem_cons_of_mem);exact List.mem_append_right _ (List.mem_map_of_mem hsS)))).mono (fun e w' h=>by
         rw[hDy] at h;rcases h with ⟨h0,_⟩|⟨_,h1,h2⟩
         ·exact absurd h0 (Nat.succ_ne_zero er)
         ·exact⟨h1,h2⟩)) ?_
        refine zB (anb (anm 18 J J J (zC 19 J J J (jN J J) (zC 20 J J J (jN J J) (an1 21 J (zW J F.ti112 ?_))))));intro b20;exact zB (anb (an1 22 J (zH J J F.ti112 J (zB (anb (zC 23 J J J (jP J) (adn (jK b20 trivial sbn pkk))))))))
       ·refine zW J F.ti112 ?_;intro b20;refine zB (anb (an1 17 J ?_))
        refine jE (v:=.tuple #[.agg ([.slice none 0 0,.slice none 0 0]:List Value).toArray,.int .i64 ((er+1:Nat):Int)]) (vs:=[_,_,_,_]) J J F.ent77 (fun a w ha=>(yB (nd:=days.length) (dA:=dA) (dc:=dc) hc.f3 hc.ff hmok hsn om w (hF.later ha.below) ((yI ha (x:=x1) (n:=fs.length) (by intro r hr;(repeat apply List.mem_cons_of_mem);exact List.mem_append_left _ (List.mem_append_left _ (List.mem_flatMap.2 ⟨x1,hx1L,hr⟩)))).inner _ (List.mem_reverse.2 hyx)) (xR ha (by (repeat apply List.mem_cons_of_mem);exact List.mem_append_right _ (List.mem_map_of_mem hsS)))).mono (fun e w' h=>by
         rw[hDy] at h;rcases h with ⟨h0,_⟩|⟨_,h1,h2⟩
         ·exact absurd h0 (Nat.succ_ne_zero er)
         ·exact⟨h1,h2⟩)) ?_
        exact zB (anb (anm 18 J J J (zC 19 J J J (jN J J) (zC 20 J J J (jN J J) (an1 22 J (zH J J F.ti112 J (zB (anb (zC 23 J J J (jP J) (adn (jK b20 trivial sbn pkk)))))))))))
      ·rintro b20 -;(try dsimp only);refine zD (zG (csr (zA J J (zE (v:=.bool true) J J J (fun w=>by rw[kT,decide_eq_true om]) (lnx (qE J (jV (zN (zY (zD (zL (zA J J (zE J J J bdO ?_)))))))))))))
       refine zF J J (zB (kS (k+1,nx,sm,al) ⟨by (try dsimp only);omega,?_,fun hn=>?_⟩ tdo (by (try dsimp only);exact sbn) (by (try dsimp only);exact pkk)))
       ·exact hK.miss hla hsl (fun m1=>jEw hsg (by rw[hDy];exact Nat.succ_ne_zero er) m1)
       ·rw[hnbt] at hn;cases hn
    ·have hq:k=(exts [] fs.length).length∨¬Tw fs kiln days d mo:=by
      rw[vC,<-hSl]
      cases nb with
      | false=>exact .inr fun h=>by cases htw.2 h
      | true =>
       rw[Bool.and_true] at hc4;have:=of_decide_eq_false hc4;exact .inl om
     have hK9:=hK.row hla hq (fun h=>hk1 (by cases nb with
      | false=>rfl
      | true=>exact absurd (htw.1 rfl) h))
     refine jV (zN (zN (zY (zJ (zD (zL (zA J J (zE J J J bdO (zF J J (zB (kS (i+1,nx,sm,al) ⟨by (try dsimp only);omega,hK9⟩ tdo sbn pkk)))))))))))
   ·obtain rfl:i=x1.2.2.length:=om;rw[<-vM,hx1m] at hK;have hDK':=DayK.next hK hdd hd;refine jV (zN (zN (zY (zD (zL (zA J J (zF J J (zB (zJ (zD (zL (zA J J (zE J J J bdO (zF J J (zB (kS (d+1,bx,nx,sm,al) hDK' tdo sbn pkk))))))))))))))))
  ·obtain rfl:d=day+1:=by have:=hDK.le;omega
   obtain⟨hS1,hS2⟩:=hDK.done J;have hV:=jFa hdy his hS1 hS2
   refine jV (zN (zN (zY (zD (zG (zQ (csr (zA J J (lax J J (kH J (fun hc8=>?_) (fun hc8=>?_)))))))))))
   ·exact csr (zF J J (lax J J (zV (jW (zU (zX J (fun a w ha=>xN J J J ha) (fun a w ha=>⟨by rw[hV,hc8];rfl,ha.grown nsl⟩)))))))
   ·refine csr (zA J J (lax J J (kH J (fun hc9=>?_) (fun hc9=>?_))))
    ·exact csr (zF J J (lax J J (zV (jW (zU (zX J (fun a w ha=>xN J J J ha) (fun a w ha=>⟨by rw[hV,hc8,hc9];rfl,ha.grown nsl⟩)))))))
    ·exact zO (zJ (zD (csr (zF J J (lax J J (zV (zX J (fun a w ha=>xN J J J ha) (fun a w ha=>⟨by rw[hV,hc8,hc9];rfl,ha.grown nsl⟩))))))))

def VerdR (fi dd:Int) (fs:List Flt) (kiln:Nat) (days:List Nat) (y:Nat×Nat):Prop :=
 ((btw fi 0 ((fs.length:Int)-1)&&btw dd 0 ((days.length:Int)-1))=false∧y=(0,3))∨∃f d:Nat,((f:Nat):Int)=fi∧((d:Nat):Int)=dd∧f<fs.length∧d<days.length∧y=verdO (bstF fs kiln days f d true) (bstF fs kiln days f d false)
theorem VerdR.uniq {fi dd:Int} {fz:List FltZ} {kz:Int} {dz:List Int} {x y:Nat×Nat} (h:RawP (VerdR fi dd) E0 fz kz dz x) (h':RawP (VerdR fi dd) E0 fz kz dz y):x=y:=RawP.uniq (fun fs kiln days _ a b=>by
 rcases a with ⟨a1,a2⟩|⟨f1,d1,a1,a2,a3,a4,a5⟩<;>rcases b with ⟨b1,b2⟩|⟨f2,d2,b1,b2,b3,b4,b5⟩
 ·rw[a2,b2]
 ·subst b1 b2;rw[zDp b3,zDp b4] at a1
  cases a1
 ·subst a1 a2;rw[zDp a3,zDp a4] at b1
  cases b1
 ·obtain rfl:f1=f2:=om;obtain rfl:d1=d2:=om
  rw[a5,b5]) h h'
section
variable {fA dA:Option Addr} {fc dc:Nat} {fz:List FltZ} {kz:Int} {dz:List Int} {fi dd:Int}
theorem zSq {w:World} {f:FuncId} {args:Array Value} (hk:askE (chk fz kz dz) (btw fi 0 ((fz.length:Int)-1)&&btw dd 0 ((dz.length:Int)-1))≠0)
  (h:Calls TP f args w fun e w'=>e=.returned (.tuple #[.int .i64 0,.int .i64 ((askE (chk fz kz dz) (btw fi 0 ((fz.length:Int)-1)&&btw dd 0 ((dz.length:Int)-1)):Nat):Int)])∧Grew w w' []):Calls TP f args w fun e w'=>Ans (VerdR fi dd) fz kz dz w e w' :=
 h.mono fun _ _ ⟨h1,h2⟩=>by
  by_cases hc:chk fz kz dz=0
  ·have hb:(btw fi 0 ((fz.length:Int)-1)&&btw dd 0 ((dz.length:Int)-1))=false:=by
    cases hb:(btw fi 0 ((fz.length:Int)-1)&&btw dd 0 ((dz.length:Int)-1)) with
    | false=>rfl
    | true=>rw[hc,hb] at hk;exact absurd rfl hk
   rw[hc,hb] at h1;obtain⟨fs,kiln,days,hv,rfl,e2,rfl⟩:=zD7 hc;rw[List.length_map,yR] at hb;exact⟨(0,3),.inr ⟨fs,kiln,days,hv,rfl,e2,rfl,.inl ⟨hb,rfl⟩⟩,h1,h2⟩
  ·rw[zDv hc] at h1;exact⟨(0,chk fz kz dz),.inl ⟨hc,rfl⟩,h1,h2⟩
theorem zU0 (h:¬askE (chk fz kz dz) (btw fi 0 ((fz.length:Int)-1)&&btw dd 0 ((dz.length:Int)-1))≠0):∃fs kiln days,∃fn dn:Nat,ChV fs kiln days∧fs.map Flt.toZ=fz∧((kiln:Nat):Int)=kz∧toZs days=dz∧((fn:Nat):Int)=fi∧((dn:Nat):Int)=dd∧fn<fs.length∧dn<days.length:=by
 have hk:chk fz kz dz=0:=by
  by_cases hk:chk fz kz dz=0
  ·exact hk
  ·rw[zDv hk] at h;exact absurd hk h
 obtain⟨fs,kiln,days,hc,rfl,h2,rfl⟩:=zD7 hk;rw[hk] at h
 rcases zNa (d:=fi) (n:=(fs.map Flt.toZ).length) with hb|⟨fn,hb,hl⟩
 ·rw[hb] at h;exact absurd (by rw[Bool.false_and];decide) h
 rcases zNa (d:=dd) (n:=(toZs days).length) with hb2|⟨dn,hb2,hl2⟩
 ·rw[hb2] at h;exact absurd (by rw[Bool.and_false];decide) h
 ·exact⟨fs,kiln,days,fn,dn,hc,rfl,h2,rfl,hb,hb2,by rw[List.length_map] at hl;exact hl,by rw[yR] at hl2;exact hl2⟩
theorem zWx (hfl:fz.length<1000000) (hdl:dz.length<1000000) (w:World) (hF:RdL FltZ.cells 4 w fA fz) (hD:RdL zcell 1 w dA dz):Calls TP 26 #[cz3 fA dA fc dc fz kz dz,.int .i64 fi,.int .i64 dd] w fun e w'=>Ans (VerdR fi dd) fz kz dz w e w':=by
 by_cases hk:askE (chk fz kz dz) (btw fi 0 ((fz.length:Int)-1)&&btw dd 0 ((dz.length:Int)-1))≠0
 ·exact zSq hk (zWl hfl hdl hk w hF hD)
 ·obtain⟨fs,kiln,days,fn,dn,hc,rfl,rfl,rfl,rfl,rfl,hf,hd⟩:=zU0 hk;refine zVc hc ?_;unfold cz3;rw[List.length_map,yR];exact (zL7 hc hf hd w (zKc hF) (zJ6 hD)).mono fun e w' ⟨h1,h2⟩=>⟨⟨_,_,.inr ⟨fn,dn,rfl,rfl,hf,hd,rfl⟩,h1⟩,h2⟩
theorem zS2 (hfl:fz.length<1000000) (hdl:dz.length<1000000) (w:World) (hF:RdL FltZ.cells 4 w fA fz) (hD:RdL zcell 1 w dA dz):Calls TP 27 #[cz3 fA dA fc dc fz kz dz,.int .i64 fi,.int .i64 dd] w fun e w'=>Ans (VerdR fi dd) fz kz dz w e w':=by
 by_cases hk:askE (chk fz kz dz) (btw fi 0 ((fz.length:Int)-1)&&btw dd 0 ((dz.length:Int)-1))≠0
 ·exact zSq hk (zUg hfl hdl hk w hF hD)
 ·obtain⟨fs,kiln,days,fn,dn,hc,rfl,rfl,rfl,rfl,rfl,hf,hd⟩:=zU0 hk;refine zVc hc ?_;unfold cz3;rw[List.length_map,yR];exact (zS9 hc hf hd w (zKc hF) (zJ6 hD)).mono fun e w' ⟨h1,h2⟩=>⟨⟨_,_,.inr ⟨fn,dn,rfl,rfl,hf,hd,rfl⟩,h1⟩,h2⟩
end
theorem F.ent25:Enters TP 25:=jD Tryz.func25 rfl kr
theorem F.ent27:Enters TP 27:=jD Tryz.func27 rfl kr
theorem zPd [R:ReaC] {fA dA nA:Option Addr} {fc dc0 nc:Nat} {fz:List FltZ} {kz sg fq dy pw gn nw:Int} {wd:Bool} {dz nums:List Int} (f0:fA=none->fz=[]∧fc=0) (d0:dA=none->dz=[]∧dc0=0) (hw:∀y∈fz,y.wf) (hf:FltZ.wf ⟨pw,gn,nw,wd⟩) (w:World) (hF:RdL FltZ.cells 4 w fA fz) (hD:RdL zcell 1 w dA dz) (hN:RdL icell 1 w nA nums) (hR:RdC w):Calls TP 5 #[.agg #[.slice fA fz.length fc,.int .i64 kz,.slice dA dz.length dc0],.agg #[.int .i64 pw,.int .i64 gn,.int .i64 nw,.bool wd],.int .i64 sg,.int .i64 fq,.int .i64 dy,.slice nA nums.length nc] w fun e w'=>e=.returned (.bool true)∧Grew w w' []:=by
 refine enter (N:=142) [(0,.agg #[.slice fA fz.length fc,.int .i64 kz,.slice dA dz.length dc0]),(1,.agg #[.int .i64 pw,.int .i64 gn,.int .i64 nw,.bool wd]),(2,.int .i64 sg),(3,.int .i64 fq),(4,.int .i64 dy),(5,.slice nA nums.length nc)] Tryz.func5 J Tryz.ntmps5 J J (csr (jT J J ?_));intro b6;refine jT J J ?_;intro b7;refine lax J J (zG (csr (zZ J J F.agg25 F.ti25 (jE (v:=.bool (decide (20<fz.length)||decide (20<dz.length)||(decide (fz.length=3)&&decide (2<dz.length)))) (vs:=[_]) J J F.ent10 (fun a w ha=>jDg w) ?_))))
 refine lnx (kH J (fun hc0=>?_) (fun hc0=>?_))
 ·exact csr (jE (v:=.bool true) (vs:=[]) J J F.ent11 (fun a w ha=>zMr w (hR.later ha.below)) (lax J J (zV (zU (zX J (rsO J J) (fun a w ha=>⟨rfl,ha.grown nsl⟩))))))
 ·refine zO (zD (csr (zA J J (kJ (X:=Nat) (vs:=[_]) (p:=fun _=>True) (val:=fun b=>pt b) (rs:=fun b=>[.blk b (hatO nA nums.length nc 0 11400714819323198485)]) J J F.ent13 (fun a w ha=>(zZ2 nA nums.length nc w).mono (fun e w' h=>by obtain⟨b,h1,h2⟩:=h;exact⟨b,trivial,h1,h2⟩)) ?_))));intro hb _;dsimp only[List.cons_append,List.nil_append];refine lax J J (csr (zZ J J F.agg25 F.ti25 (zZ J J F.agg27 F.ti27 (zA J J (zA J J (zBb (X:=Nat×Nat×Nat×CZ×CZ) (vs:=[_,_,_,_]) hb (fun y=>hatO nA nums.length nc y.1 y.2.1) (fun y=>.row 25 3 (some ⟨y.2.2.1,0,none⟩) 4 4 ([(⟨fA,fc,fz,kz,dA,dc0,dz⟩:CZ),y.2.2.2.1,y.2.2.2.1,y.2.2.2.2].flatMap CZ.cells)::(y.2.2.2.1.rows++y.2.2.2.2.rows)) (fun y=>y.1<=0+110∧y.2.1<18446744073709551616∧y.2.2.2.1.Fine∧y.2.2.2.1.Ok∧y.2.2.2.2.Ok∧y.2.2.2.2.fz.length=y.2.2.2.1.fz.length∧y.2.2.2.2.dz.length=y.2.2.2.1.dz.length) (fun y=>.slice (some ⟨y.2.2.1,0,none⟩) 4 4) J J F.ent12 (fun a w ha=>(zW4 J J hN (tk:=0) om om hf ha).mono (fun e w' h=>by obtain⟨t',s',b',o',q',h1,h2,h3,h4,h5,h6,h7,h8,h9⟩:=h;exact⟨(t',s',b',o',q'),⟨h1,h2,h3,h4,h5,h6,h7⟩,h8,h9⟩)) ?_))))));rintro⟨tk1,st1,bs,own,other⟩ ⟨htk1,hst1,hfine,hok1,hok2,hl2,hd2⟩;dsimp only[CZ.rows,List.cons_append,List.nil_append] at htk1 hst1 hfine hok1 hok2 hl2 hd2 ⊢;refine lax J J (csr (zA J J (zA J J (vP J J J J hN hst1 om om ?_))));rintro s2 x1 hs2 hx1;refine zA J J (vP J J J J hN hs2 om om ?_);rintro s3 x2 hs3 hx2;refine zA J J (kB (vs:=[(0,_),(1,_),(2,_),(3,_)]) J J U23 F.ti3 J J J ?_);intro b45;refine yZ (n:=4) 1 J (by unfold maxLen;omega) (.head _) (zA J J (zA J J (vP J J J J hN hs3 om om ?_)));rintro s4 x3 hs4 hx3;refine zA J J (vP J J J J hN hs4 om om ?_);rintro s5 x4 hs5 hx4;refine zA J J (kB (vs:=[(0,_),(1,_),(2,_),(3,_)]) J J U23 F.ti3 J J J ?_);intro b52;refine yZ (n:=4) 1 J (by unfold maxLen;omega) (.head _) (zF J J (lax J J (zG (csr (lax J J (zQ ?_))))));obtain⟨hv1,hv2⟩:=jB8 hc0;refine qU (G:=Nat) (fun k=>k<=4) (fun k=>4-k) (fun k=>[(14,.slice (some ⟨bs,0,none⟩) 4 4),(15,.slice (some ⟨b45,0,none⟩) 4 4),(16,.slice (some ⟨b52,0,none⟩) 4 4),(17,.int .i64 (k:Int))]) (fun _=>[.row 3 1 (some ⟨b52,0,none⟩) 4 4 (([dy,(x3:Int),(x4:Int),dy]:List Int).flatMap zcell),.row 3 1 (some ⟨b45,0,none⟩) 4 4 (([fq,(x1:Int),(x2:Int),fq]:List Int).flatMap zcell),.row 25 3 (some ⟨bs,0,none⟩) 4 4 (([(⟨fA,fc,fz,kz,dA,dc0,dz⟩:CZ),own,own,other]:List CZ).flatMap CZ.cells),.row 27 4 own.fA own.fz.length own.fc (own.fz.flatMap FltZ.cells),.row 3 1 own.dA own.dz.length own.dc (own.dz.flatMap zcell),.row 27 4 other.fA other.fz.length other.fc (other.fz.flatMap FltZ.cells),.row 3 1 other.dA other.dz.length other.dc (other.dz.flatMap zcell)]) 0 (Nat.zero_le _) sbn pkk ?_;intro k hk0;(try dsimp only at hk0 ⊢);refine zG (csr (zA J J (zA J J (jR J J U30 (zE J J J jY ?_)))))
  refine lnx (zK J (fun hc1=>?_) (fun hc1=>?_))
  ·have hk4:k<4:=om;obtain⟨x,hx⟩:∃x,([(⟨fA,fc,fz,kz,dA,dc0,dz⟩:CZ),own,own,other]:List CZ)[k]?=some x:=⟨_,List.getElem?_eq_getElem hk4⟩;have hxok:x.Ok:=zSr ⟨hw,f0,d0,hv1,hv2⟩ hok1 hok2 hx;have hxr:Seen w [.row 3 1 (some ⟨b52,0,none⟩) 4 4 (([dy,(x3:Int),(x4:Int),dy]:List Int).flatMap zcell),.row 3 1 (some ⟨b45,0,none⟩) 4 4 (([fq,(x1:Int),(x2:Int),fq]:List Int).flatMap zcell),.row 25 3 (some ⟨bs,0,none⟩) 4 4 (([(⟨fA,fc,fz,kz,dA,dc0,dz⟩:CZ),own,own,other]:List CZ).flatMap CZ.cells),.row 27 4 own.fA own.fz.length own.fc (own.fz.flatMap FltZ.cells),.row 3 1 own.dA own.dz.length own.dc (own.dz.flatMap zcell),.row 27 4 other.fA other.fz.length other.fc (other.fz.flatMap FltZ.cells),.row 3 1 other.dA other.dz.length other.dc (other.dz.flatMap zcell)] x:=zSr (P:=Seen w _) (Seen.old ⟨hF,hD⟩) (Seen.own (by intro r hr;simp only[CZ.rows,List.mem_cons,List.not_mem_nil,or_false] at hr ⊢;rcases hr with rfl|rfl<;>simp)) (Seen.own (by intro r hr;simp only[CZ.rows,List.mem_cons,List.not_mem_nil,or_false] at hr ⊢;rcases hr with rfl|rfl<;>simp)) hx;obtain⟨xA,xc,xf,xk,xD,xd,xz⟩:=x;obtain⟨xw,xf0,xd0,xfl,xdl⟩:=hxok;dsimp only at xw xf0 xd0 xfl xdl;obtain⟨ff,hff⟩:∃x,([fq,(x1:Int),(x2:Int),fq]:List Int)[k]?=some x:=⟨_,List.getElem?_eq_getElem hk4⟩;obtain⟨dd,hdd⟩:∃x,([dy,(x3:Int),(x4:Int),dy]:List Int)[k]?=some x:=⟨_,List.getElem?_eq_getElem hk4⟩;refine zO (zD (zG (zQ (csr (zA J J (zA J J (jO (j:=k) J J J U30 F.ti25 J hk4 ?_)))))))
   refine qV (l:=[.slice xA xf.length xc,.int .i64 xk,.slice xD xz.length xd]) J J F.agg25 F.ti25 J (fun a w ha j u hu=>by
    obtain⟨b9,o9,h1,_,h3⟩:=kX ha (cells:=CZ.cells) (size:=3) (e:=25) (c:=4) (n:=4) (l:=([(⟨fA,fc,fz,kz,dA,dc0,dz⟩:CZ),own,own,other]:List CZ)) (fun _=>rfl) (InR.mem (A:=some ⟨bs,0,none⟩)) J (by simp)
    cases h1
    exact h3 k _ hx j u hu) ?_
   refine kJ (X:=Option Addr×Nat×Option Addr×Nat) (vs:=[_]) (p:=fun _=>True) (val:=fun g=>.agg #[.slice g.1 xf.length g.2.1,.int .i64 xk,.slice g.2.2.1 xz.length g.2.2.2]) (rs:=fun g=>[.row 27 4 g.1 xf.length g.2.1 (xf.flatMap FltZ.cells),.row 3 1 g.2.2.1 xz.length g.2.2.2 (xz.flatMap zcell)]) J J F.ent14 (fun a w ha=>(jEx (fz:=xf) (dz:=xz) xf0 xd0 om om w (hxr (fun r hr=>by repeat (first|exact hr|apply List.mem_cons_of_mem)) ha).f (hxr (fun r hr=>by repeat (first|exact hr|apply List.mem_cons_of_mem)) ha).d).mono (fun e w' h=>by obtain⟨A',c',D',dc',h1,h2⟩:=h;exact⟨(A',c',D',dc'),trivial,h1,h2⟩)) ?_;rintro⟨A1,c1,D1,dc1⟩ -;dsimp only[List.cons_append,List.nil_append];refine zW J F.ti25 ?_;intro b18;refine zH J J F.ti25 J (lnx (csr (zZ J J F.agg25 F.ti25 (kJ (X:=Option Addr×Nat×List Meta×List Meta×(List (List Nat)×Nat×Nat)) (vs:=[_]) (p:=fun y=>RawP (PlanR true) EP xf xk xz y.2.2.2.2∧y.2.2.1.map (·.2.2)=y.2.2.2.2.1∧∀m∈y.2.2.1,m∈y.2.2.2.1) (val:=fun y=>.tuple #[.slice y.1 y.2.2.1.length y.2.1,.int .i64 (y.2.2.2.2.2.1:Int),.int .i64 (y.2.2.2.2.2.2:Int)]) (rs:=fun y=>.row 23 1 y.1 y.2.2.1.length y.2.1 (y.2.2.1.map mcell)::y.2.2.2.1.map mrow) J J F.ent24 (fun a w ha=>(jBe (fz:=xf) (dz:=xz) om om w (kX ha (cells:=FltZ.cells) (size:=4) (e:=27) (c:=c1) (n:=xf.length) (l:=xf) (fun _=>rfl) (InR.mem (A:=A1)) J) (kX ha (cells:=zcell) (size:=1) (e:=3) (c:=dc1) (n:=xz.length) (l:=xz) (fun _=>rfl) (InR.mem (A:=D1)) J)).mono (fun e w' h=>by obtain⟨A',c',R',S',y,h1,h2,h3,h4,h5⟩:=h;exact⟨(A',c',R',S',y),⟨h1,h2,h3⟩,h4,h5⟩)) ?_))));rintro⟨A5,c5,R1,S1,y1⟩ ⟨hp1,hR1,hRS1⟩;dsimp only at hp1 hR1 hRS1 ⊢;refine vL (List.Perm.cons _ List.perm_append_comm) ?_;simp only[List.cons_append,List.nil_append];refine zA J J (jF J J J (jF J J J (jF J J J (zF J J (zF J J (lax J J (csr (zA J J (zA J J (jO (j:=k) J J J U30 F.ti25 J hk4 ?_))))))))))
   refine qV (l:=[.slice xA xf.length xc,.int .i64 xk,.slice xD xz.length xd]) J J F.agg25 F.ti25 J (fun a w ha j u hu=>by
    obtain⟨b9,o9,h1,_,h3⟩:=kX ha (cells:=CZ.cells) (size:=3) (e:=25) (c:=4) (n:=4) (l:=([(⟨fA,fc,fz,kz,dA,dc0,dz⟩:CZ),own,own,other]:List CZ)) (fun _=>rfl) (InR.mem (A:=some ⟨bs,0,none⟩)) J (by simp)
    cases h1
    exact h3 k _ hx j u hu) ?_
   refine kJ (X:=Option Addr×Nat×List Meta×List Meta×(List (List Nat)×Nat×Nat)) (vs:=[_]) (p:=fun y=>RawP (PlanR true) EP xf xk xz y.2.2.2.2∧y.2.2.1.map (·.2.2)=y.2.2.2.2.1∧∀m∈y.2.2.1,m∈y.2.2.2.1) (val:=fun y=>.tuple #[.slice y.1 y.2.2.1.length y.2.1,.int .i64 (y.2.2.2.2.2.1:Int),.int .i64 (y.2.2.2.2.2.2:Int)]) (rs:=fun y=>.row 23 1 y.1 y.2.2.1.length y.2.1 (y.2.2.1.map mcell)::y.2.2.2.1.map mrow) J J F.ent25 (fun a w ha=>(zYp (fz:=xf) (dz:=xz) om om w (hxr (fun r hr=>by repeat (first|exact hr|exact List.mem_append_left (S1.map mrow) hr|apply List.mem_cons_of_mem)) ha).f (hxr (fun r hr=>by repeat (first|exact hr|exact List.mem_append_left (S1.map mrow) hr|apply List.mem_cons_of_mem)) ha).d).mono (fun e w' h=>by obtain⟨A',c',R',S',y,h1,h2,h3,h4,h5⟩:=h;exact⟨(A',c',R',S',y),⟨h1,h2,h3⟩,h4,h5⟩)) ?_;rintro⟨A6,c6,R2,S2,y2⟩ ⟨hp2,hR2,hRS2⟩;dsimp only at hp2 hR2 hRS2 ⊢;refine vL (List.Perm.cons _ List.perm_append_comm) ?_;simp only[List.cons_append];obtain rfl:=PlanR.uniq hp1 hp2;obtain⟨hs1,hs2⟩:=zTy hp1;have hl1:R1.length<=4:=by rw[<-hR1,List.length_map] at hs1;exact hs1
   have hl2:R2.length<=4:=by rw[<-hR2,List.length_map] at hs1;exact hs1
   refine zA J J (jF J J J (jF J J J (jF J J J (zF J J (zF J J (lax J J (zG (jS [] F.follows 15 J (fl 15) J (zC 0 J J J (kR J F.agg25 F.ti25) (anm 1 J J J (anm 2 J J J (zC 3 J J J (jG (j:=k) J J Tryz.underlying23 F.ti3 J hk4) (zC 4 J J J (jC (v:=.int .i64 ff) J F.one3 (fun a w ha=>jQ ha (InR.mem (A:=some ⟨b45,0,none⟩)) J (zo1 (z_at hff)))) (anm 5 J J J (anm 6 J J J (zC 7 J J J (jG (j:=k) J J Tryz.underlying23 F.ti3 J hk4) (zC 8 J J J (jC (v:=.int .i64 dd) J F.one3 (fun a w ha=>jQ ha (InR.mem (A:=some ⟨b52,0,none⟩)) J (zo1 (z_at hdd)))) (an1 9 J (kJ (X:=Nat×Nat) (vs:=[_,_,_]) (p:=fun y=>RawP (VerdR ff dd) E0 xf xk xz y) (val:=fun y=>.tuple #[.int .i64 (y.1:Int),.int .i64 (y.2:Int)]) (rs:=fun _=>[]) J J F.ent26 (fun a w ha=>(zWx (fz:=xf) (dz:=xz) om om w (kX ha (cells:=FltZ.cells) (size:=4) (e:=27) (c:=c1) (n:=xf.length) (l:=xf) (fun _=>rfl) (InR.mem (A:=A1)) J) (kX ha (cells:=zcell) (size:=1) (e:=3) (c:=dc1) (n:=xz.length) (l:=xz) (fun _=>rfl) (InR.mem (A:=D1)) J)).mono (fun e w' h=>by obtain⟨y,h1,h2,h3⟩:=h;exact⟨y,h1,h2,h3⟩)) ?_)))))))))))))))))));rintro⟨n3,e3⟩ hp3;dsimp only[List.nil_append] at hp3 ⊢;refine zB (anb (anm 10 J J J (zC 11 J J J (jN J J) (zC 12 J J J (jN J J) (zC 13 J J J (jP J) (zC 14 J J J (jP J) (adn (zD (zG (jS [] F.follows 18 J (fl 18) J (anm 0 J J J (anm 1 J J J (zC 2 J J J (jG (j:=k) J J U30 F.ti25 J hk4) ?_)))))))))))))
   refine zAo 3 J J J kr kr kr sbl (qW (l:=[.slice xA xf.length xc,.int .i64 xk,.slice xD xz.length xd]) J F.agg25 F.ti25 J (fun a w ha j u hu=>by
    obtain⟨b9,o9,h1,_,h3⟩:=kX ha (cells:=CZ.cells) (size:=3) (e:=25) (c:=4) (n:=4) (l:=([(⟨fA,fc,fz,kz,dA,dc0,dz⟩:CZ),own,own,other]:List CZ)) (fun _=>rfl) (InR.mem (A:=some ⟨bs,0,none⟩)) J (by simp)
    cases h1
    exact h3 k _ hx j u hu)) J ?_
   refine anm 4 J J J (anm 5 J J J (zC 6 J J J (jG (j:=k) J J Tryz.underlying23 F.ti3 J hk4) (zC 7 J J J (jC (v:=.int .i64 ff) J F.one3 (fun a w ha=>jQ ha (InR.mem (A:=some ⟨b45,0,none⟩)) J (zo1 (z_at hff)))) (anm 8 J J J (anm 9 J J J (zC 10 J J J (jG (j:=k) J J Tryz.underlying23 F.ti3 J hk4) (zC 11 J J J (jC (v:=.int .i64 dd) J F.one3 (fun a w ha=>jQ ha (InR.mem (A:=some ⟨b52,0,none⟩)) J (zo1 (z_at hdd)))) (an1 12 J (kJ (X:=Nat×Nat) (vs:=[_,_,_]) (p:=fun y=>RawP (VerdR ff dd) E0 xf xk xz y) (val:=fun y=>.tuple #[.int .i64 (y.1:Int),.int .i64 (y.2:Int)]) (rs:=fun _=>[]) J J F.ent27 (fun a w ha=>(zS2 (fz:=xf) (dz:=xz) om om w (hxr (fun r hr=>by repeat (first|exact hr|exact List.mem_append_left (S1.map mrow++S2.map mrow) hr|apply List.mem_cons_of_mem)) ha).f (hxr (fun r hr=>by repeat (first|exact hr|exact List.mem_append_left (S1.map mrow++S2.map mrow) hr|apply List.mem_cons_of_mem)) ha).d).mono (fun e w' h=>by obtain⟨y,h1,h2,h3⟩:=h;exact⟨y,h1,h2,h3⟩)) ?_)))))))));rintro⟨n4,e4⟩ hp4;dsimp only[List.nil_append] at hp4 ⊢;obtain⟨rfl,rfl⟩:=Prod.ext_iff.1 (VerdR.uniq hp3 hp4);dsimp only;refine zB (anb (anm 13 J J J (zC 14 J J J (jN J J) (zC 15 J J J (jN J J) (zC 16 J J J (jP J) (zC 17 J J J (jP J) (adn (zD (zG (jS [] F.follows 33 J (fl 33) J (anm 0 J J J (anm 1 J J J (zC 2 J J J (kW (v:=.bool false) J J (fun w=>by rw[kT,decide_eq_false (fun h=>h J)])) (anm 3 J J J (ato 4 J J J J J (kF J) (ato 5 J J J J J (kF J) (ato 6 J J J J J (kW (v:=.bool false) J J (fun w=>by rw[kT,decide_eq_false (fun h=>h J)])) (zC 7 J J J (qH J J) (anm 8 J J J (ato 9 J J J J J (kF J) (ato 10 J J J J J (kF J) (ato 11 J J J J J (kW (v:=.bool false) J J (fun w=>by rw[kT,decide_eq_false (fun h=>h J)])) (zC 12 J J J (qH J J) (anm 13 J J J (ato 14 J J J J J (kF J) ?_)))))))))))))))))))))))));refine ato 15 J J J J J (kF J) (ato 16 J J J J J (kW (v:=.bool false) J J (fun w=>by rw[kT,decide_eq_false (fun h=>h J)])) (zC 17 J J J (qH J J) (anm 18 J J J (ato 19 J J J J J (kF J) (ato 20 J J J J J (kF J) (an1 21 J (zM J J ?_)))))))
   refine jE (v:=.bool true) (vs:=[_,_]) J J F.ent17 (fun a w ha=>by
    have h:=zEd (ca:=c5) (cb:=c6) (l:=R1.map zmeta) (m:=R2.map zmeta) (by rw[List.length_map];omega) (by rw[List.length_map];omega) (fun x hx=>by obtain⟨m,hm,rfl⟩:=List.mem_map.1 hx;have h9:=hs2 m.2.2 (hR1▸List.mem_map_of_mem hm);show (zl m.2.2).length<1000000;unfold zl;rw[List.length_map];omega) (fun x hx=>by obtain⟨m,hm,rfl⟩:=List.mem_map.1 hx;have h9:=hs2 m.2.2 (hR2▸List.mem_map_of_mem hm);show (zl m.2.2).length<1000000;unfold zl;rw[List.length_map];omega) w (zN3 ha (InR.mem (A:=A5)) hRS1 (fun r hr=>(by (repeat apply List.mem_cons_of_mem);exact List.mem_append_left _ hr))) (zN3 ha (InR.mem (A:=A6)) hRS2 (fun r hr=>(by (repeat apply List.mem_cons_of_mem);exact List.mem_append_right _ hr)));have hz:∀R:List Meta,(R.map zmeta).map (fun x:MetaZ=>x.2.2)=(R.map (·.2.2)).map zl:=fun R=>by rw[List.map_map,List.map_map];rfl
    rw[hz,hz,hR1,hR2,decide_eq_true J,List.length_map,List.length_map] at h
    exact h) ?_
   refine zB (anb (ato 22 J J J J J (zCa J) (zC 23 J J J (qH J J) (anm 24 J J J (ato 25 J J J J J (kR J F.agg25 F.ti25) (ato 26 J J J J J (kF J) (ato 27 J J J J J (kF J) (ato 28 J J J J J (jG (j:=k) J J U30 F.ti25 J hk4) ?_))))))))
   refine zI2 29 J J J J J kr kr kr sbl (qW (l:=[.slice xA xf.length xc,.int .i64 xk,.slice xD xz.length xd]) J F.agg25 F.ti25 J (fun a w ha j u hu=>by
    obtain⟨b9,o9,h1,_,h3⟩:=kX ha (cells:=CZ.cells) (size:=3) (e:=25) (c:=4) (n:=4) (l:=([(⟨fA,fc,fz,kz,dA,dc0,dz⟩:CZ),own,own,other]:List CZ)) (fun _=>rfl) (InR.mem (A:=some ⟨bs,0,none⟩)) J (by simp)
    cases h1
    exact h3 k _ hx j u hu)) J ?_
   refine an1 30 J (zM J J (jE (v:=.bool true) (vs:=[_,_]) J J F.ent18 (fun a w ha=>zUz (fz:=xf) (dz:=xz) xw om om w (kX ha (cells:=FltZ.cells) (size:=4) (e:=27) (c:=c1) (n:=xf.length) (l:=xf) (fun _=>rfl) (InR.mem (A:=A1)) J) (kX ha (cells:=zcell) (size:=1) (e:=3) (c:=dc1) (n:=xz.length) (l:=xz) (fun _=>rfl) (InR.mem (A:=D1)) J) (hxr (fun r hr=>by repeat (first|exact hr|exact List.mem_append_left (S1.map mrow++S2.map mrow) hr|apply List.mem_cons_of_mem)) ha).f (hxr (fun r hr=>by repeat (first|exact hr|exact List.mem_append_left (S1.map mrow++S2.map mrow) hr|apply List.mem_cons_of_mem)) ha).d) (zB (anb (ato 31 J J J J J (zCa J) (zC 32 J J J (qH J J) (adn (zD (kL J (zO (zJ (zD (zL (zA J J (zE J J J bdO (zF J J (zB (kS (k+1) om tdo sbn pkk))))))))))))))))))
  ·exact jV (zN (zN (zY (zD (csr (jE (v:=.bool true) (vs:=[]) J J F.ent11 (fun a w ha=>zMr w (hR.later ha.below)) (lax J J (zV (zX J (rsO J J) (fun a w ha=>⟨rfl,ha.grown nsl⟩))))))))))

end
section
open Go.Conc
variable {low:Nat} {msg:Nat->Value} {tW:TypeId}
def seenZ (W:World):World:={seenW W with output:=gout [0]}
theorem zVz (W:World):Hid (Viewed W) (fun _=>False) W (seenZ W):=by
 have h:=zWr W;exact⟨h.1,h.2,h.3,h.4,h.5,h.6,h.7,h.8,h.9,h.10⟩
theorem zT0 {W:World} {p:Addr} {u:Value} (h:W.cell? p=some u):(seenZ W).cell? p=some u:=zTk h
section
variable {P:Program} {W:World} {f:FuncId} {args:Array Value} {Post:Value->World->Prop}
theorem zQy {F:Nat->Prop} {w w' v':World} (hk:Kept F (fun _=>False) w w') (hv:Hid F (fun _=>False) w' v') (hb:Bas W (Viewed W) (fun i=>i=0) (fun _=>F) w) (hv0:Below (seenZ W).heap.size (seenZ W) v'):Below W.heap.size W w':=by
 refine⟨hk.os.trans hb.os,hk.tape.trans hb.tape,hk.output.trans hb.output,Nat.le_trans hb.size hk.size,fun b hlt=>?_⟩
 by_cases hF:F b
 ·rw[hk.block b (Nat.lt_of_lt_of_le hlt hb.size) (.inl hF)];exact (hb.held b (hb.new b hlt hF)).2.1
 ·rw[<-hv.same b hF (fun x=>x),hv0.block b (by simpa[seenZ,seenW] using hlt)];show (seenW W).heap[b]?=_;rw[zBu]
  cases h:W.heap[b]? with
  | none=>rfl
  | some o =>
   cases o with
   | view p t=>exact absurd ((hb.held b ⟨p,t,h⟩).2.2 0 rfl) hF
   | _=>rfl
def sig0:Cst:=⟨0,0,0,[],0,false,false,false,0,0,.rest,[],[],fun _=>none,[]⟩
theorem zTz:sig0.blank:=⟨fun _=>rfl,rfl,rfl,rfl,rfl,rfl,rfl,rfl,rfl⟩
theorem jAg (low:Nat):Cok low sig0:=by
 refine⟨List.nodup_nil,rfl,fun j=>?_,fun j p h=>(by cases h),fun b hb=>(by cases hb),fun h=>(by cases h),fun h=>(by cases h),fun h=>(by cases h),by decide,rfl,.nil,zTz⟩
 constructor
 ·intro h;cases h
 ·rintro⟨p,h⟩;cases h
theorem jB0 {σ:Cst} (hok:Cok low σ) (h:σ.gh 0=some [0]):Alone (Cp low tW msg) σ∧σ.lent=[]∧∀c,¬(Cst.ts σ).Ca c:=by
 rw[zBi] at h;have hp:=hok.phase
 cases hm:σ.mn<;>rw[hm] at h<;>simp[Mn.enc] at h
 unfold Cst.phase at hp;rw[hm] at hp;obtain⟨h1,h2,h3,h4,h5,h6,h7,h8,h9⟩:=hp
 refine⟨?_,h9,fun c hc=>?_⟩
 ·refine⟨fun j hj=>zBq hj h1,?_⟩;show (Cst.ts σ).D 0=0;simp[Cst.ts,hm,Mn.deaf]
 ·rcases hc with ⟨h,_⟩|⟨h,_⟩<;>omega
theorem zLy (hK:low=W.heap.size) (noInit:P.inits.idxOf? f=none)
  (h : @Calls P (zSys P (Cp low tW msg)) f args (seenZ W) fun e v'=>∃x,e=.returned x∧Below (seenZ W).heap.size (seenZ W) v'∧∀W',Below W.heap.size W W'->Post x W') :
  ∃N last o w' t',runNT P (N+1) (solo (G (Frame.enter P f args .normal) []) W) #[]=(.ended o w',t')∧runN P N (solo (G (Frame.enter P f args .normal) []) W)=.next last∧step P last=.ended o w'∧Go.Conc.Good P Post last o w' t':=by
 refine jEb (K:=Cp low tW msg) (σ:=sig0) (γ:=[0]) jBj hK (zVz W) J (jAg low) J (fun j hj=>zBr hj J) (fun b hb=>(by cases hb)) J J (@Gs.mono P (zSys P (Cp low tW msg)) _ _ _ _ (h []) fun g v' hs=>?_);obtain⟨e,fr,v₀,⟨x,rfl,hb,hp⟩,hr,rfl,hfn,hm,hd,hkd,fn,hf,ht,hres⟩:=hs;have hb':Below (seenZ W).heap.size (seenZ W) v':=hb.trans (hr.mono hb.size);refine⟨rfl,⟨[0],hb'.output,fun σ hok hg=>jB0 hok hg⟩,fun F w hv hbas=>?_⟩;obtain⟨w',h1,h2,h3,h4,h5⟩:=ht.ok (hres v' (Rl.refl v')) hv;have hno:P.inits.idxOf? fr.fn=none:=by rw[hfn];exact noInit
 refine⟨x,w',seen P fr.fn ((results fn fr.tmps).events P v' #[]),?_,?_,hp w' (zQy h4 h3 hbas hb')⟩
 ·rw[<-h2];simp[G,stepG,unwind,doReturn,hm,hd,hkd,hf,h1,hno,GStep.after]
 ·rw[<-hv.size];exact fun e he=>h5 e (Go.Conc.mem_seen he)
end
theorem zBs {H:Type} {enc:TypeId×Value->H} {a:Assume} {C:Checked} {os:Os} {f:FuncId} {fn:Func} {s:ChangeSpec} {conds:List PathCond} {apart fresh handsOn again:Bool} (tW:TypeId) (msg:Nat->Value)
  (own:ownKnob C.prog.godebug=none) (started:os.Started) (noInit:C.prog.inits.idxOf? f=none) (hfn:C.prog.funcs[f]?=some fn)
  (witness:∃(w:World) (tape:Tape) (i:Input),w.os=os∧(w.forCall tape i).Shaped C.prog∧i.vars=[]∧Input.okWide C.prog (w.forCall tape i) .any w.heap.size f i ∧
   s.pre6 enc C.prog fn conds apart (w.forCall tape i).memory i.args∧a.holds C.prog (lone (Frame.enter C.prog f i.args .normal) [] (w.forCall tape i)))
  (contract:∀(W:World) (base:Nat) (args:Array Value) (ds gs:List (DataW H)) (before:List MemPlace),
   (∀(j:Nat) t v,fn.params[j]?=some t->args[j]?=some v->Value.okWide C.prog W .any base t v) ->
   DataW.Whole enc C.prog fn.params.toList s.vars apart W args.toList ds gs before ->
   conds.all (PathCond.test C.prog ⟨fn.params.toList,ds,s.plain.varTypes C.prog,gs⟩)=true ->
   (DataW.weightsEach C.prog (fn.params.toList++s.plain.varTypes C.prog) (ds++gs)).all (·<=reachBytes)=true ->
   a.holds C.prog (lone (Frame.enter C.prog f args .normal) [] W) ->
   @Calls C.prog (zSys C.prog (Cp W.heap.size tW msg)) f args (seenZ W) fun e v'=>∃x,e=.returned x∧Below (seenZ W).heap.size (seenZ W) v'∧∀W',Below W.heap.size W W'->s.post enc C.prog fn apart fresh handsOn again W args x W') :
  ReturnsInLeavingWide a C os f .any (s.pre6 enc C.prog fn conds apart) (s.post enc C.prog fn apart fresh handsOn again):=by
 refine returnsInLeavingWide_of_good own started witness ?_;intro w tape i _ _ _ hok hpre hholds;obtain⟨_,_,_,fn',hfn',_,_,_,_,hval⟩:=hok;have e:fn'=fn:=Option.some.inj (hfn'.symm.trans hfn);subst e;obtain⟨⟨ds,gs,before,hw,hc⟩,hz⟩:=hpre;have hw':=DataW.Whole.of_heap (w':=w.forCall tape i) (by rfl) hw;have hcalls:=contract (w.forCall tape i) w.heap.size i.args ds gs before hval hw' hc (hz.weights hw) hholds;obtain⟨M,last,o,w',t',h1,h2,h3,h4⟩:=zLy J noInit hcalls;exact⟨M,last,o,w',t',h1,h2,h3,h4.mono fun v hp=>ChangeSpec.post_blind hp⟩
end
end Go.Proofs.YteppiphdbondeaaGreat.N
/- What rows of laws about char share: the program's closed facts, and the law from its call in company. -/
namespace Go.Proofs.YteppiphdbondeaaGreat.N
open Go Go.ChangeShapes Go.WideShapes Go.ChangeAt Go.RowKit Go.Proofs Go.Proofs.YteppiphdbondeaaGreat Go.Proofs.YteppiphdbondeaaGreat.Rows
set_option linter.unusedSectionVars false
theorem own_:ownKnob Tryz.prog.godebug=Option.none:=by kernel_rfl
theorem zOo:laidOutB Tryz.prog=true:=by kernel_rfl
theorem zLw:Tryz.prog.cellsOf 3=1:=by kernel_rfl
theorem zV2:Tryz.prog.underlying 23=some (.slice 3):=by kernel_rfl
theorem zH9:Tryz.prog.underlying 3=some (.int .i64):=by kernel_rfl
theorem jAb:Tryz.prog.underlying 4=some .bool:=by kernel_rfl
theorem jBu:Tryz.prog.readableRec 23=true:=by kernel_rfl
set_option maxRecDepth 100000 in
theorem jF6:23<Tryz.prog.types.size:=of_decide_eq_true (by kernel_rfl)
theorem zJh {α:Type} {cells:α->List Value} {size:Nat} {W:World} {A:Option Addr} {l:List α} (h:RdL cells size W A l):RdL cells size (seenZ W) A l:=fun hl=>by
 obtain⟨b,o,h1,h2,h3⟩:=h hl;exact⟨b,o,h1,by simpa[seenZ,seenW] using h2,fun k x hk j u hu=>zT0 (h3 k x hk j u hu)⟩
abbrev ZS (W:World):Sys:=zSys Tryz.prog (Cp W.heap.size 158 msgM)
def orderN:List Nat:=[104,97,114,110,101,115,115,32,48,54,49,51,49,99,97,48,49,54,101,97,100,102,48,51,102,57,97,100,49,54,102,55,49,53,56,54,56,53,50,50,99,48,48,49,51,57,48,55,101,97,57,51,53,54,52,57,55,51,57,53,55,101,98,49,102,52,55,54,50,57,48,57,32,99,117,116,32,97,116,32,109,117,115,99,111,118,97,100,111,47,109,117,115,99,111,118,97,100,111,108,97,119,48,52,46,67,104,97,114,70,101,119,101,115,116,115,32,109,117,115,99,111,118,97,100,111,47,109,117,115,99,111,118,97,100,111,108,97,119,48,52,46,67,104,97,114,66,117,121,115,32,109,117,115,99,111,118,97,100,111,47,109,117,115,99,111,118,97,100,111,108,97,119,48,52,46,67,104,97,114,65,103,97,105,110,115,32,109,117,115,99,111,118,97,100,111,47,109,117,115,99,111,118,97,100,111,108,97,119,48,52,46,67,104,97,114,67,111,117,114,115,101,115,32,109,117,115,99,111,118,97,100,111,47,109,117,115,99,111,118,97,100,111,108,97,119,48,52,46,67,104,97,114,70,97,105,108,115,32,109,117,115,99,111,118,97,100,111,47,109,117,115,99,111,118,97,100,111,108,97,119,48,52,46,67,104,97,114,78,101,101,100,101,100,115,32,109,117,115,99,111,118,97,100,111,47,109,117,115,99,111,118,97,100,111,108,97,119,48,52,46,67,104,97,114,77,111,115,116,115]
def wordsN:List (List Nat):=[[104,97,114,110,101,115,115],[48,54,49,51,49,99,97,48,49,54,101,97,100,102,48,51,102,57,97,100,49,54,102,55,49,53,56,54,56,53,50,50,99,48,48,49,51,57,48,55,101,97,57,51,53,54,52,57,55,51,57,53,55,101,98,49,102,52,55,54,50,57,48,57],[99,117,116],[97,116],[109,117,115,99,111,118,97,100,111,47,109,117,115,99,111,118,97,100,111,108,97,119,48,52,46,67,104,97,114,70,101,119,101,115,116,115],[109,117,115,99,111,118,97,100,111,47,109,117,115,99,111,118,97,100,111,108,97,119,48,52,46,67,104,97,114,66,117,121,115],[109,117,115,99,111,118,97,100,111,47,109,117,115,99,111,118,97,100,111,108,97,119,48,52,46,67,104,97,114,65,103,97,105,110,115],[109,117,115,99,111,118,97,100,111,47,109,117,115,99,111,118,97,100,111,108,97,119,48,52,46,67,104,97,114,67,111,117,114,115,101,115],[109,117,115,99,111,118,97,100,111,47,109,117,115,99,111,118,97,100,111,108,97,119,48,52,46,67,104,97,114,70,97,105,108,115],[109,117,115,99,111,118,97,100,111,47,109,117,115,99,111,118,97,100,111,108,97,119,48,52,46,67,104,97,114,78,101,101,100,101,100,115],[109,117,115,99,111,118,97,100,111,47,109,117,115,99,111,118,97,100,111,108,97,119,48,52,46,67,104,97,114,77,111,115,116,115]]
set_option maxRecDepth 100000 in
theorem jEn:Tryz.prog.initOrder=String.ofList (orderN.map Char.ofNat):=by kernel_rfl
theorem jBv:Tryz.prog.initOrder.toList=orderN.map Char.ofNat:=by rw[jEn,String.toList_ofList]
def wordN (k:Nat):List Char:=(wordsN.getD k []).map Char.ofNat
def wordR:List (List Char):=(wordsN.drop 3).map (·.map Char.ofNat)
set_option maxRecDepth 100000 in
theorem jCz:wordsSigns Tryz.prog.initOrder.toList=wordN 0::wordN 1::wordN 2::wordR:=by
 rw[jBv]
 kernel_rfl
theorem zWd {a b : List Char} {r : List (List Char)} (h1 : (a == "harness".toList || a == "ownmain".toList) = true) (h2 : isSumSigns b = true) : behindMainWord (a :: b :: r) = r := by
 unfold behindMainWord;dsimp only;rw[h1,h2]
 rfl
theorem zQm:behindMainWord (wordsSigns Tryz.prog.initOrder.toList)=wordN 2::wordR:=by
 rw[jCz];exact zWd kr kr
theorem jBq {P : Program} {c : List Char} {rest : List (List Char)} (h : behindMainWord (wordsSigns P.initOrder.toList) = c :: rest) (h1 : (c == "gc".toList || c == "spec".toList) = false) (h2 : (c == "cut".toList) = true) : P.make = some .cut := by
 unfold Program.make;rw[h];dsimp only;rw[h1,h2]
 rfl
theorem jE6 {P : Program} {c : List Char} {rest : List (List Char)} (h : behindMainWord (wordsSigns P.initOrder.toList) = c :: rest) (h1 : (stripLifts liftWords (c :: rest)).1 = []) (h2 : ((stripLifts liftWords (c :: rest)).2.head? == some "cut".toList) = true) (h3 : P.laysLater = false) (h4 : P.bearsReflect = false) (h5 : P.doorFits [] = true) : P.mayEnter = true := by
 unfold Program.mayEnter;rw[h];dsimp only;rw[h1,h2,h3,h4,h5];simp
theorem zYo {P : Program} {c : List Char} {rest : List (List Char)} (h : behindMainWord (wordsSigns P.initOrder.toList) = c :: rest) (h1 : (stripLifts liftWords (c :: rest)).1 = []) (h2 : (c == "carried".toList) = false) : P.liftsFinal = false := by
 have e : (some c == some "carried".toList) = false := h2;unfold Program.liftsFinal Program.headLifts;dsimp only;rw [h, h1, List.head?_cons, e];simp
theorem zKv:(stripLifts liftWords (wordN 2::wordR)).1=[]:=by kernel_rfl
set_option maxRecDepth 100000 in
theorem jGa:Tryz.prog.make=some .cut:=jBq zQm (by kernel_rfl) (by kernel_rfl)
set_option maxRecDepth 100000 in
theorem jDf:Tryz.prog.liftsFinal=false:=zYo zQm zKv (by kernel_rfl)
set_option maxRecDepth 100000 in
theorem zUe:Tryz.prog.laysLater=false:=by kernel_rfl
set_option maxRecDepth 100000 in
theorem zNm:Tryz.prog.bearsReflect=false:=by kernel_rfl
set_option maxRecDepth 100000 in
theorem jFf:Tryz.prog.doorFits []=true:=by kernel_rfl
set_option maxRecDepth 100000 in
theorem may_:Tryz.prog.mayEnter=true:=jE6 zQm zKv (by kernel_rfl) zUe zNm jFf
set_option maxRecDepth 100000 in
theorem zTr:mapsRowed Tryz.prog=true:=by kernel_rfl
set_option maxRecDepth 100000 in
theorem zT7:Tryz.prog.plainKeys=false:=by kernel_rfl
set_option maxRecDepth 100000 in
theorem zRb:Tryz.prog.stopsHeard=true:=by kernel_rfl
end Go.Proofs.YteppiphdbondeaaGreat.N
namespace Go.Proofs.YteppiphdbondeaaGreat.N
set_option linter.unusedSectionVars false
open Go.RowKit
section
theorem zY4 (W:World) : @RdC (ZS W) (reaC_main W.heap.size) (seenZ W):=⟨by show W.heap.size<=(seenZ W).heap.size;simp[seenZ,seenW],rfl⟩
end
end Go.Proofs.YteppiphdbondeaaGreat.N
