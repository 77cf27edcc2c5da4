/- Parts of the walk of the law CharAgains: N15, N16, M16, M17, M18, M19, M20, M21, R1, W0, C1, C2, C3, C4, C5. -/
import Derived.Test.YteppiphdbondeaaGreatSCharAgains02
import Derived.Conc.LeavingOf
import Derived.Conc.QuitsD
import Derived.Conc.SmallLaws
import Derived.Conc.DeferLaws
import Derived.Conc.MarkLaws
import Derived.Conc.AtomicLaws2
namespace Go.Proofs.YteppiphdbondeaaGreat.N
set_option linter.unusedSectionVars false
open Go.RowKit
section
open Go.Conc
section
variable {P:Program} {K:Pro} {W:World} {H:Nat->Prop} {Stop:Goroutine->World->Prop} {w:World} {n:Nat} {gs:Array Goroutine} {t:Trace} {sl:Option (Nat×Nat)}
theorem jEe (L:K.Laws) (hKW:K.low=W.heap.size) (hS:∀g v,Stop g v->g.status=.running) {g:Goroutine} (hg:gs[0]?=some g) (hr:g.status=.running) (hn:n=runs gs):∀(tr:Tr) (σ:K.St) (F S:Nat->Nat->Prop) (vs:Nat->World) (ms:List (Nm K)),NInv P K Stop W H gs w σ F S vs tr ms t ->
  (∃σ F S vs m0 ms γ,NInv P K Stop W H gs w σ F S vs m0 ms t∧Stop g (vs 0)∧K.gh σ 0=some γ∧(vs 0).output=gout γ)∨Nex P K Stop W H (tr,ms,n) (runT P (crowd gs w sl) 0) t:=by
 intro tr
 induction Tr.acc tr with
 | intro tr _ ih =>
  intro σ F S vs ms h;have hz:=(L.zero σ h.ok).2;have hl0:=h.zero;have hlt:0<gs.size:=(Array.getElem?_eq_some_iff.1 hg).1;obtain⟨γ,a,hgh,ha1,hao,ha2⟩:=h.main;rw[hg] at ha1
  cases ha1
  rcases ha2 with hT|⟨g2,h5,_⟩|⟨g2,st,cs,shape,rfl,_,hlis⟩
  ·cases hT with
   | stop hs=>exact .inl ⟨σ,F,S,vs,_,ms,γ,h,hs _ (Rl.refl _),hgh,hao⟩
   | @step f _ _ _ nx hstp hk' =>
    have hh:=hstp (vs 0) (Rl.refl _);obtain⟨w',hst,hv,hkp,hev⟩:=hh.real (F 0) (S 0) w (h.hid 0 hl0 hz);have hT':=hk' (vs 0) (Rl.refl _);have hout:=(hh.out (F 0) (S 0) w (h.hid 0 hl0 hz)).trans hao;have hown:=h.own L hS (tr:=f (vs 0,(nx (vs 0)).1,(nx (vs 0)).2.1)) hl0 hz hg hkp hv (by rw[<-hv.size];exact hev) (zrun hS hT') (fun _ γ2 h6=>by rw[hgh] at h6;cases h6;exact⟨hout,.inl hT'⟩) (fun e=>absurd J e);simp only[if_true] at hown
    exact .inr (.of (μ':=(f (vs 0,(nx (vs 0)).1,(nx (vs 0)).2.1),ms,_)) (runT_crowd_go hg hst) (zA1 ⟨_,rfl⟩) ⟨_,w',sl,σ,_,_,_,rfl,rfl,hown⟩)
   | @sync f _ _ nx hsy hk' =>
    obtain⟨_,γ2,hout,hsyn⟩:=hsy (vs 0) (Rl.refl _);have e:γ=γ2:=zJe (hao.symm.trans hout);subst e;have hT:GsT P (zSys P K) Stop (.node f) g (vs 0):=.sync nx hsy hk'
    rcases hsyn with ⟨⟨hm,hact⟩|⟨g',hlook,hnx⟩|⟨c,x,z,γ',_,hsay,_⟩⟩|⟨cs,shape,h1,h2,k1,k2⟩|⟨l2,γ',γc,g',ch,h1,hgr,hgv,hun,hs,hw,hk⟩|⟨b,o,γ',h1,h2,hlo,hs,hk⟩|⟨Ls,γ',hs,hk⟩
    ·rcases hact σ h.ok hgh with ⟨hidle,hof,hst⟩|⟨acts,cl,σ',g',hmv,hstp,hfate⟩
     ·have hs:=hst (F 0) (S 0) w (h.hid 0 hl0 hz) h.shows;have hrun:=runT_crowd_go (sl:=sl) hg (show stepG P (0==0) g w=_ from hs);rw[zRq (fun x=>zGu J)] at hrun
      have hsty:=h.stay (g':={g with status:=.blocked}) hg hl0 hz (fun _ γ2 h6=>by rw[hgh] at h6;cases h6;exact⟨hao,.inr (.inl ⟨g,⟨rfl,hr,hof,hidle⟩,hT⟩)⟩) (fun e=>absurd J e)
       (zEh hlt h.apart (fun _ g4 cs shape e=>by
        have:=congrArg Goroutine.offers e;simp only[parked] at this;rw[hof] at this
        cases this) fun g3 c x z e=>by
        have:=congrArg Goroutine.offers e;simp only[parked] at this;rw[hof] at this
        cases this) (fun _ g4 cs shape e=>by
        have:=congrArg Goroutine.offers e;simp only[parked] at this;rw[hof] at this
        cases this)
      have e1:t++MemOp.ofEvents 0 g.frame.fn g.frame.place #[]=t:=by rw[ofEvents_eq];simp
      refine .inr (.of (μ':=(.node f,ms,runs (gs.setIfInBounds 0 {g with status:=.blocked}))) hrun (zIg (by rw[hn];exact zFs hg hr (by simp))) ?_);rw[e1];exact⟨_,w,sl,σ,F,S,vs,rfl,rfl,hsty⟩
     ·obtain⟨w',es,hs,hes,hT'⟩:=hstp (F 0) (S 0) w (h.hid 0 hl0 hz) h.shows
      rcases hfate with ⟨γ',h6,h7,h8⟩|⟨e,_⟩|⟨e,_⟩
      ·have hk2:=hk' (vs 0) (Rl.refl _) _ _ h8;have:=h.turn L hKW hS hl0 hg hmv hT' hes hm (.inl (zrun hS hk2)) (tr:=f (vs 0,g',saying (vs 0) (gout γ'))) (mi:=.quits 0) (fun _ γ2 h9=>by rw[h6] at h9;cases h9;exact⟨rfl,.inl hk2⟩) (fun e=>absurd J e) (fun e=>absurd J e);simp only[if_true] at this;exact .inr (.of (μ':=(f (vs 0,g',saying (vs 0) (gout γ')),ms,_)) (runT_crowd_go hg hs) (zA1 ⟨_,rfl⟩) ⟨_,w',sl,σ',_,_,_,rfl,rfl,this⟩)
      ·exact absurd J e
      ·exact absurd J e
    ·have hst:=hlook σ h.ok hgh w h.shows;have hT':=hk' (vs 0) (Rl.refl _) _ _ hnx;have hown:=h.own L hS (tr:=f (vs 0,g',vs 0)) (es:=#[]) hl0 hz hg (.refl ..) (h.hid 0 hl0 hz) (by simp) (zrun hS hT') (fun _ γ2 h6=>by rw[hgh] at h6;cases h6;exact⟨hao,.inl hT'⟩) (fun e=>absurd J e);simp only[if_true] at hown;exact .inr (.of (μ':=(f (vs 0,g',vs 0),ms,_)) (runT_crowd_go hg hst) (zA1 ⟨_,rfl⟩) ⟨_,w,sl,σ,_,_,_,rfl,rfl,hown⟩)
    ·exact absurd J (L.spk σ 0 γ c x γ' h.ok hgh hsay).2
    ·refine .inr (zU4 h L hKW hS hg hr hgh hao (g2:=g) (cs:=cs) (shape:=shape) ⟨h2,fun v₁ hv F S w hw=>?_,fun v₁ hv k c z x γ' hk hh=>?_,fun v₁ hv k c z σ' hk ok' hg' hc'=>?_,fun _=>rfl⟩ hn)
     ·exact h1 v₁ hv F S w hw
     ·exact⟨_,⟨_,rfl⟩,(hk' (vs 0) (Rl.refl _) _ _ (k1 k c z x γ' hk hh)).rely (wQ hv _)⟩
     ·obtain⟨γ',σ2,h8,h9⟩:=k2 k c z σ' hk ok' hg' hc';exact⟨γ',σ2,_,h8,⟨_,rfl⟩,(hk' (vs 0) (Rl.refl _) _ _ h9).rely (wQ hv _)⟩
    ·obtain⟨es,hst,hev⟩:=h1 (F 0) (S 0) w (h.hid 0 hl0 hz)
     have hnl:K.gh σ gs.size=none:=by
      cases e:K.gh σ gs.size with
      | none=>rfl
      | some y=>have:=h.inside gs.size (by simp[Lv,e]);omega
     obtain⟨σ',hh⟩:=hs σ gs.size h.ok hgh (by omega) hnl;obtain⟨trc,hTc⟩:=zSu (hw gs.size (by omega));have hin:=(h.told hl0 hz (fn:=g.frame.fn) (pos:=g.frame.place) hev).hire (tr:=f (vs 0,g',saying (chill l2 (vs 0)) (gout γ'))) (trc:=trc) L hg hgv (hun σ h.ok hgh) hh hgr (nrun hTc) ⟨rfl,.inl (hk' _ (Rl.refl _) _ _ hk)⟩ ⟨rfl,.inl hTc⟩ g.frame.fn g.frame.place ch.frame.fn;have ee:∀(X:Array MemOp) (p q:MemOp),(t++X)++#[p,q]=t++(X.push p).push q:=fun X p q=>by apply Array.ext';simp
     rw[ee] at hin;exact .inr (.of (μ':=(f (vs 0,g',saying (chill l2 (vs 0)) (gout γ')),ms++[.live trc],_)) (runT_crowd_spawn hg hst) (zA1 ⟨_,rfl⟩) ⟨_,w,sl,σ',_,_,_,rfl,rfl,hin⟩)
    ·obtain⟨hA,σ',hsh⟩:=hs σ h.ok hgh;have hh:=h.share L hKW hg hA h1 h2 hlo hsh hr (tr:=f (vs 0,g,saying (hideB b (vs 0)) (gout γ'))) ⟨rfl,.inl (hk' _ (Rl.refl _) _ _ hk)⟩
     rcases ih _ ⟨_,rfl⟩ _ _ _ _ _ hh with x|⟨m',ops,μ',h3,h4,h5⟩
     ·exact .inl x
     ·exact .inr ⟨m',ops,μ',h3,h4.tail (zA1 ⟨_,rfl⟩),h5⟩
    ·obtain⟨hA,rfl,σ',hsh⟩:=hs σ h.ok hgh;have hh:=h.settle L hg hr hA hsh (tr:=f (vs 0,g,saying (thaw (K.lent σ) (vs 0)) (gout γ'))) ⟨rfl,.inl (hk' _ (Rl.refl _) _ _ hk)⟩
     rcases ih _ ⟨_,rfl⟩ _ _ _ _ _ hh with x|⟨m',ops,μ',h3,h4,h5⟩
     ·exact .inl x
     ·exact .inr ⟨m',ops,μ',h3,h4.tail (zA1 ⟨_,rfl⟩),h5⟩
  ·rw[h5.1] at hr;cases hr
  ·exact .inr (zU4 h L hKW hS hg hr hgh hao hlis hn)
end
def EndN (P:Program) (K:Pro) (W:World) (H:Nat->Prop) (Post:Value->World->Prop) (g:Goroutine) (v:World):Prop :=
 g.status=.running∧(∃γ,v.output=gout γ∧∀σ,K.ok σ->K.gh σ 0=some γ->Alone K σ∧K.lent σ=[]∧∀c,¬(K.ts σ).Ca c) ∧
  ∀F w,Hid F (fun _=>False) w v->Bas W H (fun i=>i=0) (fun _=>F) w->∃x w' es,stepG P true g w=.ended (.done x) w' es∧(∀e∈es,EvOk F (fun _=>False) w.heap.size e)∧Post x w'
section
variable {P:Program} {K:Pro} {W:World} {H:Nat->Prop} {Post:Value->World->Prop}
theorem jE0 [Nonempty K.St] (L:K.Laws) (hKW:K.low=W.heap.size) (μ:Mu K) (m:Machine) (t:Trace) (h:NM P K (EndN P K W H Post) W H μ m t) :
  (∃o w ops,stepT P m=(.ended o w,ops)∧Go.Conc.Good P Post m o w (t++ops))∨(∃m' ops μ',stepT P m=(.next m',ops)∧Relation.TransGen Mu.Lt μ' μ∧NM P K (EndN P K W H Post) W H μ' m' (t++ops)):=by
 obtain⟨gs,w,sl,σ,F,S,vs,rfl,hn,h⟩:=h;obtain⟨m0,ms,n⟩:=μ;simp only at h hn;have hS:∀g v,EndN P K W H Post g v->g.status=.running:=fun _ _ x=>x.1
 have hstat:∀(i:Nat) (g:Goroutine),gs[i]?=some g->g.status=.running∨g.status=.blocked∨g.status=.finished:=by
  intro i g hg
  by_cases e0:i=0
  ·subst e0;obtain⟨γ,a,_,h1,_,h2⟩:=h.main;rw[hg] at h1
   cases h1
   rcases h2 with h3|⟨g2,h3,_⟩|⟨g2,st,cs,shape,rfl,h3,_⟩
   ·exact .inl (zrun hS h3)
   ·exact .inr (.inl (by rw[h3.1]))
   ·exact h3.imp id .inl
  ·by_cases hi:Lv K σ i
   ·obtain⟨γ,hγ⟩:=Option.isSome_iff_exists.1 hi;obtain⟨y,m1,h2,_,h4,h5⟩:=h.work i γ e0 hγ;rw[hg] at h2
    cases h2
    by_cases hd:(K.ts σ).Dn i
    ·obtain⟨q,_,h6⟩:=h4 hd;exact .inl h6.run
    ·obtain⟨q,_,_,h6|⟨g2,h6,_⟩|⟨g2,c,x,z,γ',rfl,_⟩⟩:=h5 hd
     ·exact .inl (nrun h6)
     ·exact .inr (.inl (by rw[h6.1]))
     ·exact .inr (.inl J)
   ·obtain⟨k,_,h2⟩:=h.old i g e0 hi hg;exact h2.status.imp id .inr
 have haw:∀g∈gs,awake g:=by
  intro g hg;obtain⟨i,hi,rfl⟩:=Array.mem_iff_getElem.1 hg;exact awake_of (hstat i _ (Array.getElem?_eq_getElem hi))
 have hsome:∃(i:Nat) (g:Goroutine),gs[i]?=some g∧g.status=.running:=by
  obtain⟨γ,a,hgh,h1,_,h2⟩:=h.main
  have other:(K.idle (K.sh σ) γ∨∃cs,K.ear γ=some cs∧∀c∈cs,K.ch σ c=some false)->(∀(j:Nat) (γj:Gh) (g2:Goroutine) (c:Nat) (x z:Value) (γ':Gh),K.gh σ j=some γj->gs[j]?=some (parked g2 #[scase c x z] .send)->K.says γj c x γ'->(K.ear γ).isSome->¬K.idle (K.sh σ) γ->False)->∃(i:Nat) (g:Goroutine),gs[i]?=some g∧g.status=.running:=by
   intro hw hno;obtain⟨j,γj,hj0,hj,hid,hsay⟩:=L.live σ γ h.ok hgh hw;obtain⟨y,m1,h3,_,h4,h5⟩:=h.work j γj hj0 hj
   by_cases hd:(K.ts σ).Dn j
   ·obtain⟨q,_,h6⟩:=h4 hd;exact⟨j,y,h3,h6.run⟩
   ·obtain⟨q,_,_,h6|⟨g2,h6,_⟩|⟨g2,c,x,z,γ',rfl,h6,_⟩⟩:=h5 hd
    ·exact⟨j,y,h3,nrun h6⟩
    ·exact absurd h6.2.2.2 hid
    ·obtain⟨h7,h8⟩:=hsay c x γ' h6;exact (hno j γj g2 c x z γ' hj h3 h6 h7 h8).elim
  rcases h2 with h3|⟨g2,h3,_⟩|⟨g2,st,cs,shape,rfl,h3,hlis⟩
  ·exact⟨0,a,h1,zrun hS h3⟩
  ·exact other (.inl h3.2.2.2) fun _ _ _ _ _ _ _ _ _ _ _ x=>x h3.2.2.2
  ·rcases h3 with rfl|rfl
   ·exact⟨0,_,h1,rfl⟩
   ·obtain⟨_,hall⟩:=L.ears σ γ _ h.ok hgh hlis.ear
    refine other (.inr ⟨_,hlis.ear,fun c hc=>?_⟩) fun j γj g3 c x z γ' hj hgj hs _ _=>?_
    ·obtain⟨⟨c',z⟩,hm,rfl⟩:=List.mem_map.1 hc;obtain⟨k,hk⟩:=List.getElem?_of_mem hm;obtain⟨b,hb⟩:=Option.isSome_iff_exists.1 (hall c' hc)
     cases b with
     | true=>exact absurd hb (h.open0 g2 cs shape h1 k c' z hk)
     | false=>exact hb
    ·obtain⟨hm,_⟩:=L.meet σ γ _ j γj c x γ' h.ok hgh hlis.ear hj hs;obtain⟨⟨c',z2⟩,hm2,rfl⟩:=List.mem_map.1 hm;obtain⟨k,hk⟩:=List.getElem?_of_mem hm2;exact h.apart g2 _ shape h1 j g3 c' x z hgj k z2 (by simp[hk,kase])
 obtain⟨i,g,d,sl',hi,hg,hst⟩:=crowd_pick (P:=P) (w:=w) (sl:=sl) haw hsome;have hd:=h.drew d
 by_cases e0:i=0
 ·subst e0
  rcases jEe (sl:=sl') L hKW hS hi hg hn m0 σ F S _ ms hd with ⟨σ1,F1,S1,vs1,m1,ms1,γ1,hI,hend,hgh1,hout1⟩|⟨m',ops,μ',h3,h4,h5⟩
  ·obtain⟨_,⟨γ,h3,h4⟩,h5⟩:=hend;have e:γ1=γ:=zJe (hout1.symm.trans h3);subst e;obtain⟨hA,hlent,hC⟩:=h4 σ1 hI.ok hgh1;have hz:=(L.zero σ1 hI.ok).2;have hS0:S1 0=fun _=>False:=funext fun b=>propext ((hI.lent b).trans (by rw[hlent];simp));obtain⟨x,w',es,hstp,hev,hpost⟩:=h5 (F1 0) (w.at d) (by have:=hI.hid 0 hI.zero hz;rwa[hS0] at this) ⟨hI.based.os,hI.based.tape,hI.based.output,hI.based.size,fun b hb=>⟨(hI.based.held b hb).1,(hI.based.held b hb).2.1,fun _ _=>(hI.based.held b hb).2.2 0 hI.zero⟩,hI.based.new⟩;have hrunT:=runT_many_ended (P:=P) (sl:=sl') (i:=0) hi (show stepG P (0==0) g (w.at d)=_ from hstp);have hP':=(hI.told hI.zero hz (fn:=g.frame.fn) (pos:=g.frame.place) (es:=es) (by rw[hS0];exact hev)).law
   refine .inl ⟨_,_,_,hst.trans hrunT,x,rfl,hpost,hP'.clean,hP'.handed hA.1 hC,⟨fun y hy=>?_,rfl⟩,fun j y hy hj=>?_⟩
   ·obtain⟨j,hj⟩:=List.mem_iff_getElem?.1 hy;rw[List.getElem?_drop] at hj;obtain⟨k,_,hq⟩:=hI.old (1+j) y (by omega) (fun z=>by have:=hA.1 _ z;omega) (by simpa[crowd] using hj);exact⟨_,hq.leaves⟩
   ·obtain⟨k,_,hq⟩:=hI.old j y hj (fun z=>hj (hA.1 _ z)) hy;refine⟨k,?_⟩
    have e:(t++MemOp.ofEvents 0 g.frame.fn g.frame.place es).deaf j (t++MemOp.ofEvents 0 g.frame.fn g.frame.place es).size=Deaf t j :=
     Deaf_other t (g:=j) (g':=0) (fun z=>hj z.symm) _ (fun op hop=>by obtain⟨e,_,rfl⟩:=Go.Conc.mem_ofEvents hop;rfl)
    rw[e];exact hq.hears _
  ·exact .inr ⟨m',ops,μ',hst.trans h3,h4,h5⟩
 ·by_cases hl:Lv K σ i
  ·obtain⟨γ,hγ⟩:=Option.isSome_iff_exists.1 hl
   by_cases hdn:(K.ts σ).Dn i
   ·obtain⟨m',ops,μ',h3,h4,h5⟩:=jBh (sl:=sl') (n:=n) hd L hKW hS e0 hγ hdn hi;exact .inr ⟨m',ops,μ',hst.trans h3,h4,h5⟩
   ·obtain⟨m',ops,μ',h3,h4,h5⟩:=zXk (sl:=sl') hd L hKW hS e0 hγ hdn hi hg hn;exact .inr ⟨m',ops,μ',hst.trans h3,h4,h5⟩
  ·obtain⟨m',ops,μ',h3,h4,h5⟩:=zYg (sl:=sl') (n:=n) hd L hS e0 hl hi hg;exact .inr ⟨m',ops,μ',hst.trans h3,h4,h5⟩
theorem jEb (L:K.Laws) {a:Goroutine} {v:World} {σ:K.St} {γ:Gh} (hKW:K.low=W.heap.size) (hv:Hid H (fun _=>False) W v) (ho:v.output=gout γ) (hok:K.ok σ) (hgh:K.gh σ 0=some γ) (hoth:∀j,j≠0->K.gh σ j=none) (hpub:∀b,¬K.pub σ b) (hlent:K.lent σ=[]) (hD:(K.ts σ).D 0=0)
  (hG : @Gs P (zSys P K) (EndN P K W H Post) a v) :
  ∃N last o w' t',runNT P (N+1) (solo a W) #[]=(.ended o w',t')∧runN P N (solo a W)=.next last∧step P last=.ended o w'∧Go.Conc.Good P Post last o w' t':=by
 obtain⟨tr,hT⟩:=zSu hG
 haveI:Nonempty K.St:=⟨σ⟩
 have hL:Lv K σ=fun j=>j=0:=zH0 hgh hoth;obtain⟨l1,l2,_⟩:=L.inner σ hok;have hz:=(L.zero σ hok).2;refine run_of_inv (WellFounded.transGen nuWf) (NM P K (EndN P K W H Post) W H) (Go.Conc.Good P Post) (jE0 L hKW) (tr,[.live tr],runs #[a]) (crowd #[a] W none) #[] ⟨#[a],W,none,σ,fun _=>H,fun _ _=>False,fun _=>v,rfl,rfl,?_⟩
 refine⟨rfl,hok,fun i hi=>(by rw[hL] at hi;subst hi;simp),fun i _ _=>hv,⟨γ,a,hgh,rfl,ho,.inl hT⟩,fun i γi hi0 hi=>(by rw[hoth i hi0] at hi;cases hi),fun i g hi0 _ hg=>?_,fun _ _=>rfl,?_,?_,⟨fun b o hb=>absurd (l1 b o hb) (hpub b),fun c x hc=>absurd (l2 c x hc) (hpub c)⟩,fun b hb=>absurd hb (hpub b),fun i hi hd=>?_,fun b=>(by rw[hlent];simp),fun b hb=>(by rw[hlent] at hb;cases hb),fun g2 cs shape _ j g3 c x z hj=>?_,?_,fun g2 cs shape h0 k c z hk hc=>absurd (l2 c true hc) (hpub c)⟩
 ·have:i<1:=by simpa using (Array.getElem?_eq_some_iff.1 hg).1
  omega
 ·rw[hL];intro a b ha hb hab;exact absurd (Eq.trans ha (Eq.symm hb)) hab
 ·exact⟨fun said=>(by rintro⟨i,j,_,⟨a,b,ha,_⟩,_⟩;simp[Trace.act?] at ha),fun g _ i a b ha=>(by simp[touchAt,Trace.act?] at ha),fun g _ i a b ha=>(by simp[touchAt,Trace.act?] at ha),fun g _ i a b ha=>(by simp[touchAt,Trace.act?] at ha),fun i a b ha=>(by simp[touchAt,Trace.act?] at ha),fun i a ha=>(by simp[touchAt,Trace.act?] at ha),fun g hg=>(by rw[hL] at hg;subst hg;exact hD.symm),(by simp),(by simp)⟩
 ·rw[hL] at hi;subst hi;exact absurd hd hz
 ·intro k z' _;have hjlt:j<1:=by simpa using (Array.getElem?_eq_some_iff.1 hj).1
  have:j=0:=by omega
  subst this;have e:a=parked g3 #[scase c x z] .send:=by simpa using hj
  have:=zrun (fun _ _ x=>x.1) hT;rw[e] at this
  cases this
 ·rw[hL];exact⟨rfl,rfl,rfl,Nat.le_refl _,fun b hb=>⟨hv.fitF b hb,rfl,fun _ _=>hb⟩,fun b _ hF=>hF⟩
end
variable {T:Type} {i:Nat} {op:Op} {x:Operand}
section
variable {P:Program} {main:Bool} {b:Frame} {a:Act} {k:List Item} {cs:List Frame} {w w':World} {ops:Array Oper}
theorem zRi {rest:List Nat} {o:Oper} {d:Deferred} {f:Fn} {cap:Array Value} (ho:ops[i]?=some o) (hw:Region.wanted o (yielded ops a.tmps)=true) (hd:OkOp b o)
  (hk:b.kind≠.early) (hr:(execOp a.eval o).run P w=.ok (.spawn d) w') (ht:d.target=.fn f cap) :
  stepG P main (G (b.atR a (.inRegion ops (i::rest)::k)) cs) w=.spawn (G (b.atR (a.put o.dst undef) (.inRegion ops rest::k)) cs) (born P d) w' (listed P b.fn a o w):=by
 have hk':(b.kind==CallKind.early)=false:=by simpa using hk
 rw[yG ho hw hd,<-zA3 ho];simp[stepG.apply,hr,G,Frame.atR,hk',GStep.after,listed,ht,born]
end
section
variable {P:Program} {K:Prot} {c:Nat} {a:Act} {o:Oper} {v:World} {Kt:Value->World->Prop}
theorem zU1 {b:Frame} {a₁:Act} {ops:Array Oper} {rest:List Nat} {k:List Item} {cs:List Frame} {o₁:Oper} (h3:ops[i]?=some o₁) (x:Value) :
  Go.Conc.served (G (b.atR a₁ (.inRegion ops (i::rest)::k)) cs) x=G (b.atR (a₁.put o₁.dst x) (.inRegion ops rest::k)) cs:=by
 show G ((b.atR a₁ (.inRegion ops (i::rest)::k)).finish x) cs=_;rw[zA3 h3]
theorem zHu {fn:FuncId} {n:Next} {F S:Nat->Prop} {w:World} (ht:Tame P (execOp a.eval o)) (hop:∀w,(execOp a.eval o).run P w=.ok n w) (hw:Hid F S w v):∀e∈listed P fn a o w,EvOk F S w.heap.size e:=by
 obtain⟨w',h1,h2,h3,h4,h5⟩:=ht.ok (hop v) hw;unfold listed;rw[h2,<-hw.size];exact fun e he=>h5 e (Go.Conc.mem_seen he)
end

section
variable [I:Sys] {C:Ctx} {fr:LV} {hp hp':List Res} {a:Act} {w:World} {ops:Array Oper} {Q:QT} {rest:List Oper} {d:Nat} {ty:TypeId} {pos:String} {after:Array Edge}
abbrev Ctx.re (C:Ctx) (B:Nat) (w0:World):Ctx:=⟨C.P,B,w0,C.N,C.ds⟩
theorem At.said (ha:At C fr hp a w) (o:Array (Nat×ByteArray)):At (C.re C.B (saying C.w0 o)) fr hp a (saying w o) :=
 ⟨ha.size,ha.defs,ha.slots,⟨ha.below.os,ha.below.tape,rfl,ha.below.size,ha.below.block⟩,ha.base,fun r hr=>by
  have:=ha.own r hr
  cases r<;>exact this,ha.apart⟩
theorem zXq (p:T->Prop) (Cf:T->Ctx) (X:T->Value) (fn:T->List Res) (hP:∀g,(Cf g).P=C.P) (hN:∀g,(Cf g).N=C.N) (hd:Nat.blt d C.N=true)
  (h:∀a w,At C fr hp a w->SyOp C.P ⟨some d,op,ty,pos,after,none⟩ a w fun x w'=>∃g,p g∧x=X g∧At (Cf g) fr (fn g) a w')
  (k:∀g,p g->Lst (Cf g) ops Q rest ((d,X g)::fr) (fn g)):Lst C ops Q (⟨some d,op,ty,pos,after,none⟩::rest) fr hp:=by
 intro a w ha;simp only[wpList];rw[if_pos (show Region.wanted _ _=true from rfl)];refine .inr ⟨fun x w'=>∃g,p g∧x=X g∧At (Cf g) fr (fn g) a w',fun x w' ⟨g,hg,hx,ha'⟩=>?_,fun v₁ h1=>h a v₁ (ha.later h1)⟩;subst hx;have:=k g hg _ _ (ha'.put (by rw[hN g];exact kK hd) (X g));rw[hP g] at this;exact this
theorem zHh (p:T->Prop) (Cf:T->Ctx) (fn:T->List Res) (hP:∀g,(Cf g).P=C.P)
  (h:∀a w,At C fr hp a w->SyOp C.P ⟨none,op,ty,pos,after,none⟩ a w fun _ w'=>∃g,p g∧At (Cf g) fr (fn g) a w')
  (k:∀g,p g->Lst (Cf g) ops Q rest fr (fn g)):Lst C ops Q (⟨none,op,ty,pos,after,none⟩::rest) fr hp:=by
 intro a w ha;simp only[wpList];rw[if_pos (show Region.wanted _ _=true from rfl)];refine .inr ⟨fun _ w'=>∃g,p g∧At (Cf g) fr (fn g) a w',fun x w' ⟨g,hg,ha'⟩=>?_,fun v₁ h1=>h a v₁ (ha.later h1)⟩;have:=k g hg _ _ ha';rw[hP g] at this;exact this
def RndC {T:Type} (p:T->Prop) (μ:T->Nat) (Cf:T->Ctx) (f:T->List (Nat×Value)) (h:T->List Res) (g:T) (a:Act) (w:World):Prop:=∃g',p g'∧μ g'<μ g∧At (Cf g') (f g') (h g') a w
theorem zD3 {c:Code} (p:T->Prop) (μ:T->Nat) (Cf:T->Ctx) (f:T->List (Nat×Value)) (h:T->List Res) (hP:∀g,(Cf g).P=C.P) (g0:T) (h0:p g0) (hC:Cf g0=C) (hs:Sub (f g0) fr) (hh:Pck (h g0) hp)
  (round:∀g,p g->Cod (Cf g) c (Exit.then (RndC p μ Cf f h g) Q) (f g) (h g)):Cod C (.loop c) Q fr hp:=by
 intro a w ha;refine zGl (fun n a w=>∃g,p g∧μ g=n∧At (Cf g) (f g) (h g) a w) (μ g0) ⟨g0,h0,rfl,by rw[hC];exact (ha.drop_slots hs).pck hh⟩ ?_;rintro n a w ⟨g,hg,rfl,hag⟩;have:=round g hg a w hag;rw[hP g] at this;refine zCe this fun e a w he=>?_
 cases e with
 | normal=>obtain⟨g',h1,h2,h3⟩:=he;exact⟨μ g',h2,g',h1,rfl,h3⟩
 | _=>exact he
theorem zBg {p:T->Prop} {μ:T->Nat} {g:T} {Cf:T->Ctx} {f:T->List (Nat×Value)} {h:T->List Res} (g':T) (hC:Cf g'=C) (h0:p g') (hm:μ g'<μ g) (hs:Sub (f g') fr) (hh:Pck (h g') hp) :
  Ex C (Exit.then (RndC p μ Cf f h g) Q) .normal fr hp:=fun _ _ ha=>⟨g',h0,hm,by rw[hC];exact (ha.drop_slots hs).pck hh⟩
theorem zY7 {y:Operand} {n:Nat} {u:Value} (hx:ev fr x=some (.chan (some n))) (hy:ev fr y=some u) (ha:At C fr hp a w) (w':World) :
  (execOp a.eval ⟨none,.send x y,ty,pos,after,none⟩).run C.P w'=.ok (.comm #[scase n u (.tuple #[])] true .send) w':=by
 simp[execOp,ha.eval hx,ha.eval hy,scase]
theorem zUy {fn:Fn} {first captured:Array Value} {ts:Array TypeId} (hx:ev fr x=some (.func fn first captured)) (ha:At C fr hp a w) (w':World) :
  (execOp a.eval ⟨none,.go {callee:=.value x,args:=#[],argTypes:=ts},ty,pos,after,none⟩).run C.P w'=.ok (.spawn {target:=.fn fn captured,args:=first}) w':=by
 simp[execOp,resolve,Deferred.ofValue,ha.eval hx]
end
end
section
open Go.Conc
theorem zRa (o:Obj):Obj.chill (Obj.chill o)=Obj.chill o:=by cases o<;>rfl
theorem zTq {c:Array Value} {t:TypeId}:Obj.thaw (Obj.chill (.cells c t (0,0)))=.cells c t (0,0):=rfl
def unview:Obj->Obj
 | .view _ _=>blank
 | o=>o
def seenW (W:World):World:={W with heap:=W.heap.map unview,output:=Gst.enc ⟨0,[],[]⟩}
def Viewed (W:World) (b:Nat):Prop:=∃p t,W.heap[b]?=some (.view p t)
theorem zBu (W:World) (b:Nat):(seenW W).heap[b]?=(W.heap[b]?).map unview:=by simp[seenW]
theorem zWr (W:World):Hid (Viewed W) (fun _=>False) W (seenW W):=by
 refine⟨rfl,rfl,rfl,by simp[seenW],fun b ⟨p,t,h⟩=>(Array.getElem?_eq_some_iff.1 h).1,fun b h=>h.elim,fun b ⟨p,t,h⟩=>⟨0,(0,0),by rw[zBu,h];rfl⟩,fun b h=>h.elim,fun b hv _=>?_,fun b o ho=>?_⟩
 ·rw[zBu]
  cases h:W.heap[b]? with
  | none=>rfl
  | some o =>
   cases o with
   | view p t=>exact absurd ⟨p,t,h⟩ hv
   | _=>rfl
 ·rw[zBu] at ho
  cases h:W.heap[b]? with
  | none=>rw[h] at ho;cases ho
  | some o' =>
   rw[h] at ho;simp only[Option.map_some,Option.some.injEq] at ho;subst ho
   cases o'<;>trivial
theorem zTk {W:World} {p:Addr} {u:Value} (h:W.cell? p=some u):(seenW W).cell? p=some u:=by
 unfold World.cell? at *;rw[zBu]
 cases hb:W.heap[p.block]? with
 | none=>rw[hb] at h;cases h
 | some o =>
  rw[hb] at h
  cases o<;>first|exact h|cases h
variable {o:Oper}
def bornF (P:Program):Frame:={(default:Frame) with fn:=P.funcs.size,defers:=[],mode:=.panicking [goexitEntry]}
def bD (f:FuncId):Frame:={(default:Frame) with fn:=f,kind:=.deferred}
section
variable {P:Program} {K:Prot} {c:Nat} {v:World}
theorem zX5 {f:FuncId} {fn:Func} {code:Code} (args:Array Value) (hf:P.funcs[f]?=some fn) (hb:fn.body=some code) :
  Frame.enter P f args .deferred=(bD f).atR {tmps:=args++Array.replicate (fn.ntmps-args.size) undef,defers:=[]} [.code code]:=by
 simp[Frame.enter,Frame.atR,hf,hb,bD]
 rfl
end

section
variable [I:Sys] {C:Ctx} {fr:LV} {hp hpS:List Res} {a:Act} {w:World} {ops:Array Oper} {Q:QT} {fuel d:Nat} {listed listed':Array Bool} {ty:TypeId} {pos:String} {after:Array Edge}
abbrev Ctx.out (C:Ctx) (o:Array (Nat×ByteArray)):Ctx:=C.re C.B (saying C.w0 o)
theorem At.out (ha:At C fr hp a w):At (C.out C.w0.output) fr hp a w:=ha
def MemO (C:Ctx) (hp:List Res) (w:World):Prop:=∃o,Mem (C.out o) hp w
theorem MemO.rely {hp:List Res} (w w':World) (h:MemO C hp w) (hr:Rl w w'):MemO C hp w':=by
 obtain⟨o,h⟩:=h;exact⟨o,Mem.rely w w' h hr⟩
def AnyO (C:Ctx) (ops:Array Oper) (Q:QT) (hpS:List Res) (fuel:Nat) (listed:Array Bool) (fr:LV) (hp:List Res):Prop :=
 ∀a w,At C fr hp a w->wpAnyH C.P .any ops (Lax (OnlyN Q)) (MemO C hpS) fuel listed a w
theorem zUh {id:Nat} {l:List Oper} (hm:C.P.follows .mixedOrders=true) (n:Nat) (hn:l.length=n) (lst:List Bool) (hl:Array.replicate n false=lst.toArray) (h:AnyO C l.toArray Q hpS n lst.toArray fr hp) :
  Cod C (.region id l.toArray true) Q fr hp:=by
 intro a w ha
 refine zCe (Q:=OnlyN Q) (zP8 (zB5 (S:=MemO C hpS) hm ?_)) ?_
 ·have h1:=h a _ ha;rw[<-hl] at h1;simpa[hn] using h1
 ·intro e a' w' he
  cases e with
  | normal=>exact he
  | _=>exact he.elim
theorem wT {v:Value} (i:Nat) (hi:ops[i]?=some o) (hdst:o.dst=some d) (hd:Nat.blt d C.N=true) (hns:Region.noSelect ops=true) (hf:Region.free .any ops listed i=true) (hr:(Region.ready .any ops listed).contains i=true)
  (hs:hpS.Sublist hp) (y:∀x,Yld (C.out x) o fr hpS v) (hl:listed.setIfInBounds i true=listed') (k:AnyO C ops Q hpS fuel listed' ((d,v)::fr) hp):AnyO C ops Q hpS (fuel+1) listed fr hp:=by
 intro a w ha
 refine zA9 MemO.rely (fun _ _ _ h hr=>h.rely hr) hi hns hf hr (fun c a w h=>h.elim fun _ h=>h.1.elim) (.inl ⟨?_,((y C.w0.output).2 a w (ha.out.ofMem (ha.out.toMem hs))).1,fun w' ⟨x,hw'⟩=>((y x).2 a w' ⟨ha.size,ha.defs,ha.slots,hw'.1,hw'.2.1,hw'.2.2.1,hw'.2.2.2⟩).2⟩) ⟨C.w0.output,ha.out.toMem hs⟩ ?_
 ·unfold Region.wanted;rw[(y C.w0.output).1]
 ·rw[hl,hdst];exact k _ _ (ha.put (kK hd) v)
def NxtO (C:Ctx) (ops:Array Oper) (Q:QT) (hpS:List Res) (fuel:Nat) (listed:Array Bool) (a:Act) (w:World):Prop :=
 MemO C hpS w∧wpAnyH C.P .any ops (Lax (OnlyN Q)) (MemO C hpS) fuel listed a w
theorem zJp (i:Nat) (hr:Region.ready .any ops listed=[i]) (hi:ops[i]?=some o) (hl:listed.setIfInBounds i true=listed') (h:Lst C ops (Exit.then (NxtO C ops Q hpS fuel listed') (Lax (OnlyN Q))) [o] fr hp):AnyO C ops Q hpS (fuel+1) listed fr hp:=by
 intro a w ha;refine zBz hr (by simp) ?_;intro k hk;simp at hk;subst hk;rw[hl];exact wP hi h ha
theorem zMu (hs:hpS.Sublist hp) (h:AnyO C ops Q hpS fuel listed fr hp):Ex C (Exit.then (NxtO C ops Q hpS fuel listed) (Lax (OnlyN Q))) .normal fr hp :=
 fun a w ha=>⟨⟨C.w0.output,ha.out.toMem hs⟩,h a w ha⟩
end
end
section
open Go.Conc
instance Cells.chan (c:Option Nat):Cells (.chan c) [.chan c]:=⟨rfl,by simp[Value.oneCell']⟩
section
variable {P:Program} {ev:Operand->Value} {dst:Option Tmp} {ty:TypeId} {pos:String} {after:Array Edge} {on_:Option (Nat×Bool)}
theorem zNb (t:TypeId) (s:Operand):Tame P (execOp ev ⟨dst,.makeChan t s,ty,pos,after,on_⟩) :=
 kU _ (Tame.bind (wN _) fun n=>Tame.bind (kN _) fun u=>by
  split
  ·refine Tame.bind (qS _) fun i=>?_
   split
   ·trivial
   ·exact Tame.bind (zCl _ trivial) fun _=>trivial
  ·trivial)
theorem zRc (x y:Operand):Tame P (execOp ev ⟨dst,.send x y,ty,pos,after,on_⟩):=trivial
theorem zO2 {x:Operand} {ts:Array TypeId}:Tame P (execOp ev ⟨dst,.go {callee:=.value x,args:=#[],argTypes:=ts},ty,pos,after,on_⟩):=by
 show Tame P (Deferred.ofValue _ _ >>= fun d=>pure (Next.spawn d));refine Tame.bind ?_ fun _=>trivial;unfold Deferred.ofValue
 split<;>trivial
end
section
variable [I:Sys] {C:Ctx} {fr:LV} {hp:List Res} {a:Act} {w:World} {ops:Array Oper} {Q:QT} {rest:List Oper} {d:Nat} {ty:TypeId} {pos:String} {after:Array Edge}
theorem jZ {t elem:TypeId} {dir:ChanDir} {z:Value} {size bytes:Nat} (hd:Nat.blt d C.N=true) (ht:C.P.underlying t=some (.chan dir elem)) (hi:TI C.P elem z size bytes)
  (k:∀b,Lst C ops Q rest ((d,.chan (some b))::fr) (.blk b (.chan 0 #[] false 0 0 false)::hp)):Lst C ops Q (⟨some d,.makeChan t (.const (.int .i64 0)),ty,pos,after,none⟩::rest) fr hp:=by
 refine xV J fun a w ha=>?_;obtain⟨i,hi,_,_,_⟩:=hi;refine⟨zNb ..,?_⟩
 have hr:(execOp a.eval ⟨some d,.makeChan t (.const (.int .i64 0)),ty,pos,after,none⟩).run C.P w=.ok (.value (.chan (some w.heap.size))) (w.alloc (.chan 0 #[] false 0 0 false)):=by
  have h0:a.eval (.const (.int .i64 0))=.int .i64 0:=rfl;have h1:IntKind.i64.max=9223372036854775807:=rfl;simp only[execOp,Instr.makeChan,h0,asInt,asIntOf,Sem.run_bind,Sem.run_pure,Result.andThen_ok,run_underlying ht,typeInfo];simp[hi,h1]
 rw[hr];exact k w.heap.size _ _ ((ha.alloc (.chan 0 #[] false 0 0 false)).put (kK hd) _)
theorem zIp {x:Operand} {t ct:TypeId} {b:Nat} {v:Value} {fz:Nat×Nat} (hd:Nat.blt d C.N=true) (hx:ev fr x=some (pt b)) (ht:One C.P t)
  [hm:InB b (.cells #[v] ct fz) hp] (k:Lst C ops Q rest ((d,v)::fr) hp):Lst C ops Q (⟨some d,.load t x,ty,pos,after,none⟩::rest) fr hp :=
 jM hd hx ht (fun _ w ha=>by rw[cell_of_row w b 0 #[v] ct fz (ha.mem_blk hm.mem)];rfl) k
end
theorem zIj [I:Sys] {P:Program} {vs:List Value} {N:Nat} {v:World} (hle:Nat.ble vs.length N=true):At ⟨P,v.heap.size,v,N,[]⟩ (idx 0 vs) [] {tmps:=vs.toArray++Array.replicate (N-vs.toArray.size) undef,defers:=[]} v:=by
 refine⟨?_,rfl,?_,Below.refl _ _,Nat.le_refl _,(fun r hr=>by cases hr),List.nodup_nil⟩
 ·have:vs.length<=N:=by simpa[Nat.ble_eq] using hle
  simp;omega
 ·intro t v ht;obtain⟨j,rfl,hj⟩:=zB8 vs 0 t v ht
  have hjl:j<vs.length:=by
   rcases Nat.lt_or_ge j vs.length with h1|h1
   ·exact h1
   ·rw[List.getElem?_eq_none h1] at hj;cases hj
  simp only[Nat.zero_add,Array.getD_eq_getD_getElem?];rw[Array.getElem?_append_left (by simpa using hjl)];simp[hj]
section
variable {P:Program} [I:Sys] {Stop:Goroutine->World->Prop} {b:Frame} {k:List Item} {cs:List Frame} {a:Act} {v:World}
theorem jC9 {C:Ctx} {fr:LV} {hp:List Res} {ops:Array Oper} {i:Nat} {rest:List Nat} {o:Oper} {x:Value} (ha:At C fr hp a v) (ho:ops[i]?=some o) (hb:b.kind≠.early) (hod:OkOp b o) (y:Yld C o fr hp x)
  (h:Gs C.P Stop (G (b.atR (a.put o.dst x) (.inRegion ops rest::k)) cs) v):Gs C.P Stop (G (b.atR a (.inRegion ops (i::rest)::k)) cs) v:=by
 have hw:Region.wanted o (yielded ops a.tmps)=true:=by unfold Region.wanted;rw[y.1]
 refine Gs.step' J fun v₁ h1=>?_;obtain⟨ht,hr⟩:=y.2 a v₁ (ha.later h1);exact⟨_,_,_,.oper ht hr (fun _ _ hr=>zI3 ho hw hod hb hr),h.rely h1⟩
end
section
variable [I:Sys] {C:Ctx} {fr:LV} {hp hp':List Res} {a:Act} {w:World} {ops:Array Oper} {Q:QT}
theorem At.blk_row1 (ha:At C fr hp a w) {b e:Nat} {v:Value} (hu:Upd (.blk b (.cells #[v] e (0,0))) (.row e 1 (some ⟨b,0,none⟩) 1 1 [v]) hp hp'):At C fr hp' a w:=by
 have hb:=ha.own _ hu.mem;exact ha.turn hu (⟨rfl,rfl,rfl,Nat.le_refl _,fun _ _ _=>rfl⟩:w.grownBy w _) ⟨by simp,.inr ⟨b,1,#[v],rfl,hb.1,hb.2,Nat.le_refl _,by unfold maxLen;omega,by simp,by simp⟩⟩ (fun k hk=>.inl hk)
theorem zOn {l:List Oper} {b e:Nat} {v:Value} (hu:Upd (.blk b (.cells #[v] e (0,0))) (.row e 1 (some ⟨b,0,none⟩) 1 1 [v]) hp hp') (h:Lst C ops Q l fr hp'):Lst C ops Q l fr hp:=fun a w ha=>h a w (ha.blk_row1 hu)
end
theorem zXt {α:Type} {cells:α->List Value} {size:Nat} {v0 w:World} {A:Option Addr} {l:List α} {sl:List Nat} (h:RdL cells size v0 A l)
  (hb:0<l.length->∀g o,A=some ⟨g,o,none⟩->g∈sl∧∃cs t fz fz',v0.heap[g]?=some (.cells cs t fz)∧w.heap[g]?=some (.cells cs t fz')):RdL cells size (onlyV sl w) A l:=fun hl=>by
 obtain⟨b,o,h1,h2,h3⟩:=h hl;obtain⟨hm,cs,t,fz,fz',e1,e2⟩:=hb hl b o h1;have e3:(onlyV sl w).heap[b]?=some (.cells cs t (0,cs.size)):=by rw[vY,e2];simp[hm,Obj.chill]
 refine⟨b,o,h1,(Array.getElem?_eq_some_iff.1 e3).1,fun k x hk j u hu=>?_⟩;have:=h3 k x hk j u hu;rw[cell_of_row v0 b _ cs t fz e1] at this;rw[cell_of_row _ b _ cs t _ e3];exact this
variable {b:Nat} {sl:List Nat}
abbrev Cz (P:Program) (B N:Nat) (ds:List Deferred) (v0:World) (L:List Nat) (γ:Gh):Ctx:=⟨P,B,saying (chill L v0) (gout γ),N,ds⟩
section
variable {P:Program} {B N:Nat} {ds:List Deferred} {v0 v:World} {L:List Nat} {γ γ':Gh} {fr:LV} {hp hp':List Res} {a:Act}
theorem At.outsZ (ha:At (Cz P B N ds v0 L γ) fr hp a v):v.output=gout γ:=ha.below.output
theorem At.oldZ (ha:At (Cz P B N ds v0 L γ) fr hp a v) {b:Nat} (hb:b<B):v.heap[b]?=(v0.heap[b]?).map fun o=>if b∈L then Obj.chill o else o:=by
 rw[ha.below.block b hb];exact vD L v0 b
theorem At.saidZ [I:Sys] (ha:At (Cz P B N ds v0 L γ) fr hp a v) (γ':Gh):At (Cz P B N ds v0 L γ') fr hp a (saying v (gout γ')):=ha.said (gout γ')
theorem At.hiredZ (ha:At (Cz P B N ds v0 L γ) fr hp a v) {sl:List Nat} (hr:∀r∈hp',r.ok B (chill sl v)) (hn:(hp'.filterMap Res.id).Nodup) :
  At (Cz P B N ds v0 (L++sl) γ') fr hp' a (saying (chill sl v) (gout γ')):=by
 refine⟨ha.size,ha.defs,ha.slots,⟨ha.below.os,ha.below.tape,rfl,?_,fun k hk=>?_⟩,?_,fun r h=>?_,hn⟩
 ·have:=ha.below.size;simp only[saying,chill,Array.size_mapIdx] at this ⊢;exact this
 ·show (chill sl v).heap[k]?=(chill (L++sl) v0).heap[k]?;have hk':k<B:=hk;rw[vD,ha.oldZ hk',vD]
  cases v0.heap[k]? with
  | none=>rfl
  | some o =>
   simp only[Option.map_some,List.mem_append];by_cases h1:k∈L<;>by_cases h2:k∈sl<;>simp[h1,h2,zRa]
 ·have:=ha.base;simp only[saying,chill,Array.size_mapIdx] at this ⊢;exact this
 ·have:=hr r h
  cases r<;>exact this
theorem At.sharedZ [I:Sys] (ha:At (Cz P B N ds v0 L γ) fr hp a v) {c:Nat} {o:Obj} (hu:Upd (.blk c o) (.blk c blank) hp hp') :
  At (Cz P B N ds v0 L γ') fr hp' a (saying (hideB c v) (gout γ')):=by
 have hc:=ha.own _ hu.mem
 have h1:At (Cz P B N ds v0 L γ) fr hp' a (hideB c v):=by
  refine ha.turn hu ⟨rfl,rfl,rfl,by simp[hideB],fun k _ hk=>?_⟩ ⟨hc.1,?_⟩ (fun k hk=>.inl hk)
  ·rw[zAy];have:k≠c:=fun e=>hk (by rw[e];rfl)
   cases v.heap[k]?<;>simp[this]
  ·rw[zAy,hc.2];simp
 exact h1.said (gout γ')
theorem At.settledZ (ha:At (Cz P B N ds v0 L γ) fr hp a v) (hfz:∀b∈L,b<B->∃cs t,v0.heap[b]?=some (.cells cs t (0,0))) (hr:∀r∈hp',r.ok B (thaw L v)) (hn:(hp'.filterMap Res.id).Nodup) :
  At (Cz P B N ds v0 [] γ') fr hp' a (saying (thaw L v) (gout γ')):=by
 refine⟨ha.size,ha.defs,ha.slots,⟨ha.below.os,ha.below.tape,rfl,?_,fun k hk=>?_⟩,?_,fun r h=>?_,hn⟩
 ·have:=ha.below.size;simp only[saying,chill,thaw,Array.size_mapIdx] at this ⊢;exact this
 ·show (thaw L v).heap[k]?=(chill [] v0).heap[k]?;have hk':k<B:=hk;rw[zAm,ha.oldZ hk',vD]
  cases hv:v0.heap[k]? with
  | none=>rfl
  | some o =>
   by_cases h1:k∈L
   ·obtain⟨cs,t,h2⟩:=hfz k h1 hk';rw[hv] at h2
    cases h2
    simp[h1,zTq]
   ·simp[h1]
 ·have:=ha.base;simp only[saying,thaw,Array.size_mapIdx] at this ⊢;exact this
 ·have:=hr r h
  cases r<;>exact this
theorem At.startZ (hout:v0.output=gout γ) (ha:At ⟨P,B,v0,N,ds⟩ fr hp a v):At (Cz P B N ds v0 [] γ) fr hp a v :=
 ⟨ha.size,ha.defs,ha.slots,⟨ha.below.os,ha.below.tape,ha.below.output.trans hout,by
  have:=ha.below.size;simp only[saying,chill,Array.size_mapIdx] at this ⊢
  exact this,fun k hk=>by
   rw[ha.below.block k hk];show _=(chill [] v0).heap[k]?;rw[vD]
   cases v0.heap[k]?<;>simp⟩,ha.base,ha.own,ha.apart⟩
theorem At.endZ (hout:v0.output=gout γ) (ha:At (Cz P B N ds v0 [] γ) fr hp a v):At ⟨P,B,v0,N,ds⟩ fr hp a v :=
 ⟨ha.size,ha.defs,ha.slots,⟨ha.below.os,ha.below.tape,ha.below.output.trans hout.symm,by
  have:=ha.below.size;simp only[saying,chill,Array.size_mapIdx] at this ⊢
  exact this,fun k hk=>by
   rw[ha.below.block k hk];show (chill [] v0).heap[k]?=_;rw[vD]
   cases v0.heap[k]?<;>simp⟩,ha.base,ha.own,ha.apart⟩
theorem Res.heldZ {r:Res} (h:r.ok B v) (hn:∀k,r.id=some k->k∉sl):r.ok B (chill sl v) :=
 Res.keep h fun k hk=>by
  rw[vD]
  cases v.heap[k]? with
  | none=>rfl
  | some o=>simp[hn k hk]
theorem Res.lentZ {cs:Array Value} {t:TypeId} {fz:Nat×Nat} (h:(Res.blk b (.cells cs t fz)).ok B v) (hb:b∈sl):(Res.blk b (.cells cs t (0,cs.size))).ok B (chill sl v):=by
 refine⟨h.1,?_⟩;rw[vD,h.2];simp[hb,Obj.chill]
end

section
variable {P:Program} {K:Pro} {i:Nat} {a:Act} {o:Oper} {v:World} {Kt:Value->World->Prop} {γ γ':Gh}
theorem zXs {c:Nat} {x z:Value} (hout:v.output=gout γ) (hs:K.says γ c x γ') (ht:Tame P (execOp a.eval o)) (hop:∀w:World,(execOp a.eval o).run P w=.ok (.comm #[scase c x z] true .send) w)
  (hk:Kt undef (saying v (gout γ'))) : @SyOp P (nSys P K i) o a v Kt:=by
 intro a₁ o₁ h1 h2 _ ops j rest b k cs h3 h4 hd h5;refine⟨rfl,γ,hout,.send c x z γ' (fun F S w hw=>⟨listed P b.fn a₁ o₁ w,zKg h3 h4 hd h5 (by rw[h1];exact hop w),zHu (n:=.comm #[scase c x z] true .send) (by rw[h1];exact ht) (fun w=>by rw[h1];exact hop w) hw⟩) hs ⟨undef,?_,hk⟩⟩;rw[zU1 h3,h2]
theorem zV7 {d:Deferred} {f:Fn} {cap:Array Value} {γc:Gh} (hout:v.output=gout γ) (hgv:Givable sl v)
  (hun:∀σ,K.ok σ->K.gh σ 0=some γ->∀b∈sl,b∈K.lent σ∨∃cs t,v.heap[b]?=some (.cells cs t (0,0)))
  (hs:∀σ n,K.ok σ->K.gh σ 0=some γ->n≠0->K.gh σ n=none->∃σ',Hires K n σ sl γ' γc σ')
  (ht:Tame P (execOp a.eval o)) (hop:∀w:World,(execOp a.eval o).run P w=.ok (.spawn d) w) (hd:d.target=.fn f cap)
  (hw:∀n,n≠0->Worker P K n (born P d) (saying (onlyV sl v) (gout γc))) (hk:Kt undef (saying (chill sl v) (gout γ'))) : @SyOp P (zSys P K) o a v Kt:=by
 intro a₁ o₁ h1 h2 _ ops j rest b k cs h3 h4 hod h5;refine⟨rfl,γ,hout,.hire sl γ' γc _ (born P d) (fun F S w hw=>⟨listed P b.fn a₁ o₁ w,zRi h3 h4 hod h5 (by rw[h1];exact hop w) hd,zHu (n:=.spawn d) (by rw[h1];exact ht) (fun w=>by rw[h1];exact hop w) hw⟩) J hgv hun hs hw ⟨undef,by rw[h2],hk⟩⟩
theorem zGp {b:Frame} {a₁:Act} {ops:Array Oper} {j:Nat} {rest:List Nat} {k:List Item} {cs:List Frame} {o₁:Oper} (h3:ops[j]?=some o₁) (cases:Array CommCase) (shape:CommShape) (n:Int) (x:Value) (ok:Bool) :
  (G (b.atR a₁ (.inRegion ops (j::rest)::k)) cs).finishComm P cases shape n x ok=G (b.atR (a₁.put o₁.dst (commResult cases shape n x ok)) (.inRegion ops rest::k)) cs:=by
 show G ((b.atR a₁ (.inRegion ops (j::rest)::k)).finish _) cs=_;rw[zA3 h3]
theorem zZv {cs:LV} {shape:CommShape} (hout:v.output=gout γ) (he:K.ear γ=some (cs.map (·.1))) (ht:Tame P (execOp a.eval o)) (hop:∀w:World,(execOp a.eval o).run P w=.ok (.comm (cs.map kase).toArray true shape) w)
  (k1:∀(n c:Nat) (z x:Value) (γ':Gh),cs[n]?=some (c,z)->K.heard γ c x γ'->Kt (commResult (cs.map kase).toArray shape n x true) (saying v (gout γ')))
  (k2:∀(n c:Nat) (z:Value) (σ:K.St),cs[n]?=some (c,z)->K.ok σ->K.gh σ 0=some γ->K.ch σ c=some true->∃γ' σ',Finds K σ c γ' σ'∧Kt (commResult (cs.map kase).toArray shape n z false) (saying v (gout γ'))) : @SyOp P (zSys P K) o a v Kt:=by
 intro a₁ o₁ h1 h2 _ ops j rest b k fs h3 h4 hod h5
 refine⟨rfl,γ,hout,.hear cs shape (fun v₁ _ F S w hw=>⟨listed P b.fn a₁ o₁ w,zKg h3 h4 hod h5 (by rw[h1];exact hop w),zHu (n:=.comm (cs.map kase).toArray true shape) (by rw[h1];exact ht) (fun w=>by rw[h1];exact hop w) hw⟩) he (fun n c z x γ' hn hh=>⟨_,?_,k1 n c z x γ' hn hh⟩) (fun n c z σ hn hok hg hc=>?_)⟩
 ·rw[zGp h3,h2]
 ·obtain⟨γ',σ',hF,hk⟩:=k2 n c z σ hn hok hg hc;exact⟨γ',σ',hF,_,by rw[zGp h3,h2],hk⟩
end

section
variable {P:Program} {K:Pro} {B N:Nat} {ds:List Deferred} {v0:World} {L:List Nat} {γ γ':Gh} {fr:LV} {hp hp':List Res} {code:Code} {Q:QT}
theorem zGx {o:Obj} (hu:Upd (.blk b o) (.blk b blank) hp hp') (ho:(∃c t,o=.cells c t (0,0)∧0<c.size)∨∃x r,o=.chan 0 #[] x r r false) (hlo:K.low<=B)
  (hs:∀σ,B<=b->K.ok σ->K.gh σ 0=some γ->Alone K σ∧∃σ',Shares K σ b o γ' σ')
  (k : @Cod (zSys P K) (Cz P B N ds v0 L γ') code Q fr hp') : @Cod (zSys P K) (Cz P B N ds v0 L γ) code Q fr hp:=by
 intro a v ha b' kk cs hb
 letI:Sys:=zSys P K
 refine @Gs.sync' P (zSys P K) _ _ _ fun v₁ h1=>?_;have ha1:=ha.later h1;have hc:=ha1.own _ hu.mem;exact⟨rfl,γ,ha1.outsZ,.share b o γ' hc.2 ho (Nat.le_trans hlo hc.1) (fun σ=>hs σ hc.1) (k a _ (ha1.sharedZ hu) b' kk cs hb)⟩
theorem zRg (hs:∀σ,K.ok σ->K.gh σ 0=some γ->Alone K σ∧K.lent σ=L∧∃σ',Settles K σ γ' σ')
  (h:∀a v,At (Cz P B N ds v0 L γ) fr hp a v->At (Cz P B N ds v0 [] γ') fr hp' a (saying (thaw L v) (gout γ')))
  (k : @Cod (zSys P K) (Cz P B N ds v0 [] γ') code Q fr hp') : @Cod (zSys P K) (Cz P B N ds v0 L γ) code Q fr hp:=by
 intro a v ha b kk cs hb;refine @Gs.sync' P (zSys P K) _ _ _ fun v₁ h1=>?_;have ha1:=ha.later h1;exact⟨rfl,γ,ha1.outsZ,.settle L γ' hs (k a _ (h a v₁ ha1) b kk cs hb)⟩
end
end
section
open Go.Conc
set_option linter.unusedVariables false
set_option linter.unusedSimpArgs false
variable {a:Act} {ats:Array TypeId} {c x:Operand} {f:FuncId} {fn:Func} {id:Nat} {k':List Item} {kd:IntKind} {m:Int} {o:Oper} {op:BinOp} {s t:TypeId} {v:Value} {y:Code}
class Stl (P:Program) (Φ:Goroutine->Prop):Prop where
 still:∀g g':Goroutine,g.status=.running->(∀main w,stepG P main g w=.go g' w)->Φ g'->Φ g
instance stl_quiet {P:Program} {K:Pro} {i:Nat} {γ:Gh}:Stl P (Quiet P K i γ):=⟨fun _ g' hr h k=>.still g' hr (h false) k⟩
structure Sl (N:Nat) (ds:List Deferred) (fr:LV) (a:Act):Prop where
 size:a.tmps.size=N
 defs:a.defers=ds
 slots:∀t u,look fr t=some u->a.tmps.getD t undef=u
def W (P:Program) (Φ:Goroutine->Prop) (b:Frame) (N:Nat) (ds:List Deferred) (fr:LV) (k:List Item) (cs:List Frame):Prop:=∀a,Sl N ds fr a->Φ (G (b.at a k) cs)
def Wr (P:Program) (Φ:Goroutine->Prop) (b:Frame) (N:Nat) (ds:List Deferred) (fr:LV) (cs:List Frame):Prop:=∀a todo,Sl N ds fr a->Φ (G {b.at a todo with mode:=.returning} cs)
def Pyl (P:Program) (fr:LV) (o:Oper) (x:Value):Prop :=
 ∀a:Act,(∀t u,look fr t=some u->a.tmps.getD t undef=u)->∀w,(execOp a.eval o).run P w=.ok (.value x) w∧(execOp a.eval o).events P w #[]=#[]
section
variable {P:Program} {Φ:Goroutine->Prop} {b:Frame} {N:Nat} {ds:List Deferred} {fr:LV} {k:List Item} {cs:List Frame} {ops:Array Oper} {i:Nat} {rest:List Nat} {d:Nat} {ty:TypeId} {pos:String} {after:Array Edge} {dst:Option Nat} {gd:Option (Nat×Bool)}
theorem qO (h:∀t u,look fr t=some u->a.tmps.getD t undef=u) {x:Operand} {v:Value} (hx:ev fr x=some v):a.eval x=v:=by
 cases x with
 | tmp t=>exact h t v hx
 | const u=>exact Option.some.inj hx
 | global g=>exact Option.some.inj hx
 | func f=>exact Option.some.inj hx
theorem zEv (h:∀t u,look fr t=some u->a.tmps.getD t undef=u) {xs:Array Operand} {vs:List Value} (hx:xs.toList.map (ev fr)=vs.map some):xs.map a.eval=vs.toArray:=by
 obtain⟨xs⟩:=xs;simp only[List.map_toArray] at hx ⊢
 congr 1
 induction xs generalizing vs with
 | nil=>cases vs<;>simp_all
 | cons x xs ih =>
  cases vs with
  | nil=>simp at hx
  | cons v vs =>
   simp only[List.map_cons,List.cons.injEq] at hx ⊢;exact⟨qO h hx.1,ih hx.2⟩
theorem Sl.put (h:Sl N ds fr a) {d:Nat} (hd:Nat.blt d N=true) (v:Value):Sl N ds ((d,v)::fr) (a.put (some d) v):=by
 haveI:Sys:=⟨false,fun _ _ _=>True⟩
 have hlt:=kK hd;refine⟨by simp[Act.put,h.size],h.defs,fun t u ht=>?_⟩;rw[zBj] at ht
 by_cases e:d=t
 ·subst e;rw[if_pos J] at ht
  cases ht
  simp[Act.put,Array.getD_eq_getD_getElem?,Array.getElem?_setIfInBounds,h.size,hlt]
 ·rw[if_neg e] at ht;have:=h.slots t u ht;simp[Act.put,Array.getD_eq_getD_getElem?,Array.getElem?_setIfInBounds,e] at this ⊢;exact this
theorem Sl.put0 (h:Sl N ds fr a) (v:Value):Sl N ds fr (a.put none v):=⟨h.size,h.defs,h.slots⟩
theorem Sl.sub {fr':LV} (h:Sl N ds fr a) (hs:Sub fr' fr):Sl N ds fr' a:=⟨h.size,h.defs,fun t u ht=>h.slots t u (letI:Sys:=⟨false,fun _ _ _=>True⟩;hs.look t u ht)⟩
variable [S:Stl P Φ]
theorem zCr (h:∀a main w,Sl N ds fr a->stepG P main (G (b.at a k) cs) w=.go (G (b.at a k') cs) w) (hw:W P Φ b N ds fr k' cs):W P Φ b N ds fr k cs :=
 fun a ha=>S.still _ _ J (fun main w=>h a main w ha) (hw a ha)
theorem jI {x:Code} (h:W P Φ b N ds fr (.code x::.code y::k) cs):W P Φ b N ds fr (.code (x.seq y)::k) cs:=zCr (fun _ _ _ _=>stepG_seq) h
theorem qQ (h:W P Φ b N ds fr k cs):W P Φ b N ds fr (.code .skip::k) cs:=zCr (fun _ _ _ _=>stepG_skip) h
theorem zH2 {x:Code} (h:W P Φ b N ds fr (.code x::.inBlock id::k) cs):W P Φ b N ds fr (.code (.block id x)::k) cs:=zCr (fun _ _ _ _=>stepG_block) h
theorem zMs (h:W P Φ b N ds fr k cs):W P Φ b N ds fr (.inBlock id::k) cs:=zCr (fun _ _ _ _=>stepG_inBlock) h
theorem zVp {x:Code} (h:W P Φ b N ds fr (.code x::.inLoop x::k) cs):W P Φ b N ds fr (.code (.loop x)::k) cs:=zCr (fun _ _ _ _=>stepG_loop) h
theorem zOq {x:Code} (h:W P Φ b N ds fr (.code x::.inLoop x::k) cs):W P Φ b N ds fr (.inLoop x::k) cs:=zCr (fun _ _ _ _=>stepG_inLoop) h
theorem jE5 (he:exitTo id k=some k') (h:W P Φ b N ds fr k' cs):W P Φ b N ds fr (.code (.exit id)::k) cs:=zCr (fun _ _ _ _=>stepG_exit he) h
theorem zWn {x:Code} (t:Bool) (hc:ev fr c=some (.bool t)) (h:W P Φ b N ds fr (.code (if t then x else y)::k) cs):W P Φ b N ds fr (.code (.cond c x y)::k) cs :=
 zCr (fun _ _ _ ha=>stepG_cond (qO ha.slots hc)) h
theorem jB {l:List Nat} (hl:List.range ops.size=l) (h:W P Φ b N ds fr (.inRegion ops l::k) cs):W P Φ b N ds fr (.code (.region id ops false)::k) cs:=by
 subst hl;exact zCr (fun _ _ _ _=>stepG_region) h
theorem jL (h:W P Φ b N ds fr k cs):W P Φ b N ds fr (.inRegion ops []::k) cs:=zCr (fun _ _ _ _=>stepG_region_end) h
theorem yX (h:Wr P Φ b N ds fr cs):W P Φ b N ds fr (.code .ret::k) cs:=fun a ha=>S.still _ _ rfl (fun _ _=>stepG_ret') (h a _ ha)
theorem zD9 (h:Wr P Φ b N ds fr cs):W P Φ b N ds fr [] cs:=fun a ha=>S.still _ _ rfl (fun _ _=>stepG_end) (h a _ ha)
def Wants (ops:Array Oper) (fr:LV) (o:Oper) (x:Bool):Prop:=match o.guard with
 | none=>x=true
 | some (j,g)=>∃t y,(ops[j]?).bind (·.dst)=some t∧look fr t=some (.bool y)∧x=(y==g)
theorem Wants.eq {x:Bool} (h:Wants ops fr o x) {a:Act} (ha:∀t u,look fr t=some u->a.tmps.getD t undef=u):Region.wanted o (yielded ops a.tmps)=x:=by
 unfold Wants at h;unfold Region.wanted
 cases hg:o.guard with
 | none=>rw[hg] at h;exact h.symm
 | some p =>
  obtain⟨j,g⟩:=p;rw[hg] at h;obtain⟨t,y,h1,h2,rfl⟩:=h;have h3:=ha t _ h2;have h1':Option.bind ops[j]? (fun x=>x.dst)=some t:=h1
  have h4:a.tmps[t]?=some (.bool y):=by
   rw[Array.getD_eq_getD_getElem?] at h3
   cases h:a.tmps[t]? with
   | none=>rw[h] at h3;cases h3
   | some u=>rw[h] at h3;exact congrArg some h3
  simp only[yielded,h1',Option.bind_some,h4]
  cases y<;>cases g<;>rfl
theorem xH {x:Value} (ho:ops[i]?=some o) (hg:Wants ops fr o true) (hk:b.kind≠.early) (hdst:o.dst=some d) (hd:Nat.blt d N=true) (y:Pyl P fr o x) (h:W P Φ b N ds ((d,x)::fr) (.inRegion ops rest::k) cs) :
  W P Φ b N ds fr (.inRegion ops (i::rest)::k) cs:=by
 intro a ha;refine S.still _ _ J (fun main w=>?_) (h _ (ha.put hd x));obtain⟨h1,h2⟩:=y a ha.slots w;rw[stepG_value ho (hg.eq ha.slots) hk h1];unfold listed;rw[h2,seen_none,hdst]
theorem jFn (ho:ops[i]?=some o) (hg:Wants ops fr o false) (hdst:o.dst=some d) (hd:Nat.blt d N=true) (h:W P Φ b N ds ((d,undef)::fr) (.inRegion ops rest::k) cs) :
  W P Φ b N ds fr (.inRegion ops (i::rest)::k) cs:=by
 intro a ha;refine S.still _ _ J (fun main w=>?_) (h _ (ha.put hd undef));rw[stepG_unwanted ho (hg.eq ha.slots),hdst]
theorem zB0 {c:Code} {xs:Array Operand} {vs:List Value} {N':Nat} (ho:ops[i]?=some o) (hg:Wants ops fr o true) (hk:b.kind≠.early) (hop:o.op=.call {callee:=.value (.func f),args:=xs,argTypes:=ats})
  (hf : P.funcs[f]? = some fn) (hname : (fn.name == "runtime.NumGoroutine") = false) (hb : fn.body = some c) (hx : xs.toList.map (ev fr) = vs.map some) (hN : fn.ntmps = N') (hle : Nat.ble vs.length N' = true)
  (h:∀a,Sl N ds fr a->W P Φ (base f) N' [] (idx 0 vs) [.code c] (b.at a (.inRegion ops (i::rest)::k)::cs)):W P Φ b N ds fr (.inRegion ops (i::rest)::k) cs:=by
 intro a ha;have hb':fn.body.isNone=false:=by rw[hb];rfl
 subst hN
 refine S.still _ (G ((base f).at {tmps:=xs.map a.eval++Array.replicate (fn.ntmps-(xs.map a.eval).size) undef,defers:=[]} [.code c]) (b.at a (.inRegion ops (i::rest)::k)::cs)) J (fun main w=>?_) (h a ha _ ?_)
 ·rw[stepG_enter ho (hg.eq ha.slots) hk (run_call_body hop hf hname hb'),enter_at _ hf hb];have:listed P b.fn a o w=#[]:=by unfold listed;rw[events_call_body hop hf hname hb'];exact seen_none P _
  rw[this]
 ·rw[zEv ha.slots hx];have:=zIj (P:=P) (I:=⟨false,fun _ _ _=>True⟩) (vs:=vs) (v:=default) hle;exact⟨this.size,rfl,this.slots⟩
theorem zX1 {b₀:Frame} {a₀:Act} {ops₀:Array Oper} {i₀:Nat} {rest₀:List Nat} {k₀:List Item} {o₀:Oper} {x:Value} (hn:b.kind=.normal) (hf:P.funcs[b.fn]?=some fn) (hr:fn.results=#[]∧x=.tuple #[]∨∃t,fn.results=#[.tmp t]∧look fr t=some x)
  (ho:ops₀[i₀]?=some o₀) (h:Φ (G (b₀.at (a₀.put o₀.dst x) (.inRegion ops₀ rest₀::k₀)) cs)):Wr P Φ b N [] fr (b₀.at a₀ (.inRegion ops₀ (i₀::rest₀)::k₀)::cs):=by
 intro a todo ha;refine S.still _ _ J (fun main w=>?_) h;have e:(b₀.at a₀ (.inRegion ops₀ (i₀::rest₀)::k₀)).finish x=b₀.at (a₀.put o₀.dst x) (.inRegion ops₀ rest₀::k₀):=by rw[Frame.finish_at,ho];rfl
 rw[<-e]
 rcases hr with ⟨hr,rfl⟩|⟨t,hr,ht⟩
 ·exact stepG_leave hn ha.defs hf (results_none hr a.tmps P w) (events_results_none hr a.tmps #[])
 ·exact stepG_leave hn ha.defs hf (by have:=results_tmp hr a.tmps P w;rw[ha.slots t x ht] at this;exact this) (events_results_tmp hr a.tmps #[])
theorem zEc {c:Frame} (hn:b.kind=.deferred) (hf:P.funcs[b.fn]?=some fn) (hr:fn.results=#[]) (hc:c.mode=.returning) (h:Φ (G c cs)):Wr P Φ b N [] fr (c::cs) :=
 fun a todo ha=>S.still _ _ J (fun main w=>stepG_leave_deferred hn ha.defs hf (results_none hr a.tmps P w) (events_results_none hr a.tmps #[]) hc) h
theorem zSb (ho:ops[i]?=some o) (hg:Wants ops fr o true) (hk:b.kind≠.early) (hop:o.op=.defer {callee:=.value (.func f),args:=#[],argTypes:=ats}) (hdst:o.dst=none)
  (h:W P Φ b N (dcall f #[]::ds) fr (.inRegion ops rest::k) cs):W P Φ b N ds fr (.inRegion ops (i::rest)::k) cs:=by
 intro a ha;refine S.still _ _ J (fun main w=>stepG_defer ho (hg.eq ha.slots) hk hop) (h _ ?_);rw[hdst];refine⟨ha.size,?_,ha.slots⟩;show dcall f (Array.map a.eval #[])::a.defers=_;rw[ha.defs];simp
theorem zUx {aS:Array Operand} (v:Value) (ho:ops[i]?=some o) (hg:Wants ops fr o true) (hk:b.kind≠.early) (hop:o.op=.call {callee:=.value (.func f),args:=aS,argTypes:=ats}) (hdst:o.dst=some d) (hd:Nat.blt d N=true)
  (hf : P.funcs[f]? = some fn) (hname : (fn.name == "runtime.NumGoroutine") = false) (hb : fn.body.isNone = true) (hn : Extern.findNext fn = none) (he : Extern.find fn = some (fun _ => pure v))
  (h:W P Φ b N ds ((d,v)::fr) (.inRegion ops rest::k) cs):W P Φ b N ds fr (.inRegion ops (i::rest)::k) cs:=by
 intro a ha;refine S.still _ _ J (fun main w=>stepG_entry_pure v ho (hg.eq ha.slots) hk hop hf hname hb hn he) (hdst▸h _ (ha.put hd v))
end

section
variable {P:Program} {fr:LV} {dst:Option Nat} {ty:TypeId} {pos:String} {after:Array Edge} {gd:Option (Nat×Bool)}
theorem zT (hx:ev fr x=some v):Pyl P fr ⟨dst,.move x,ty,pos,after,gd⟩ v:=fun a ha w=>by simp[execOp,qO ha hx]
theorem jX (hx:ev fr x=some v):Pyl P fr ⟨dst,.assign x,ty,pos,after,gd⟩ v:=fun a ha w=>by simp[execOp,qO ha hx]
theorem kQ {y:Operand} (t:Bool) {v:Value} (hc:ev fr c=some (.bool t)) (hx:ev fr (if t then x else y)=some v):Pyl P fr ⟨dst,.pick c x y,ty,pos,after,gd⟩ v:=fun a ha w=>by
 have:=qO ha hx
 cases t<;>simp[execOp,qO ha hc,asBool] at this ⊢ <;> exact this
theorem qM {p:Addr} (hx:ev fr x=some (.pointer (some p))):Pyl P fr ⟨dst,.nilCheck x,ty,pos,after,gd⟩ (.pointer (some p)):=fun a ha w=>by simp[execOp,qO ha hx]
theorem jCh {y:Operand} {t':TypeId} {n:Int} (hx:ev fr x=some (.int kd m)) (hy:ev fr y=some (.int kd n))
  (hr:∀w:World,(binOp op t (.int kd m) (.int kd n)).run P w=.ok v w) (he:∀w:World,(binOp op t (.int kd m) (.int kd n)).events P w #[]=#[]):Pyl P fr ⟨dst,.binOp op t x y t',ty,pos,after,gd⟩ v:=fun a ha w=>by
 have hg:∀w:World,(eqGuard op t x y (.int kd m) (.int kd n)).run P w=.ok () w∧(eqGuard op t x y (.int kd m) (.int kd n)).events P w #[]=#[]:=by
  intro w;unfold eqGuard
  cases op<;>simp
 refine⟨?_,?_⟩
 ·simp[execOp,qO ha hx,qO ha hy,(hg w).1,hr w]
 ·simp[execOp,qO ha hx,qO ha hy,(hg w).1,(hg w).2,he w]
theorem jE8 (hop:op=.shl∨op=.shr) {x y:Operand} {t t':TypeId} {kd ke:IntKind} {m n:Int} {v:Value} (hx:ev fr x=some (.int kd m)) (hy:ev fr y=some (.int ke n))
  (hr:∀w:World,(binOp op t (.int kd m) (.int ke n)).run P w=.ok v w) (he:∀w:World,(binOp op t (.int kd m) (.int ke n)).events P w #[]=#[]):Pyl P fr ⟨dst,.binOp op t x y t',ty,pos,after,gd⟩ v:=fun a ha w=>by
 have hg:∀w:World,(eqGuard op t x y (.int kd m) (.int ke n)).run P w=.ok () w∧(eqGuard op t x y (.int kd m) (.int ke n)).events P w #[]=#[]:=by
  intro w;unfold eqGuard;rcases hop with rfl|rfl<;>simp
 refine⟨?_,?_⟩
 ·simp[execOp,qO ha hx,qO ha hy,(hg w).1,hr w]
 ·simp[execOp,qO ha hx,qO ha hy,(hg w).1,(hg w).2,he w]
theorem qJ {ke:IntKind} {r:Int} {ds:TypeDesc} (hx:ev fr x=some (.int ke m)) (hs:P.underlying s=some ds) (ht:P.underlying t=some (.int kd)) (hr:kd.wrap m=r):Pyl P fr ⟨dst,.convert s t x,ty,pos,after,gd⟩ (.int kd r):=fun a ha w=>by
 refine⟨?_,?_⟩
 ·simp only[execOp,qO ha hx,convert,Sem.run_bind,run_underlying hs,run_underlying ht,Result.andThen_ok,Conv.intToInt,Sem.run_pure,hr]
 ·simp[execOp,qO ha hx,convert,run_underlying hs,run_underlying ht,Conv.intToInt]
theorem xK {f:Nat} {b o ft off:Nat} {z:Value} {n m:Nat} (hx:ev fr x=some (.pointer (some ⟨b,o,none⟩))) (hf:FI P s f ft off) (hi:TI P ft z (n+1) m) :
  Pyl P fr ⟨dst,.fieldAddr s x f,ty,pos,after,gd⟩ (.pointer (some ⟨b,o+off,none⟩)):=fun a ha w=>by
 obtain⟨fs,fd,h1,h2,h3,h4⟩:=hf;obtain⟨i,hi,_,hs,_⟩:=hi;subst h3;subst h4
 refine⟨?_,?_⟩
 ·simp[execOp,qO ha hx,Instr.fieldAt,run_underlying h1,h2,Instr.sureAddr,fieldPlace,sizeOf,typeInfo,hi,hs]
  haveI:Sys:=⟨false,fun _ _ _=>True⟩
  exact xW b o fd.offset
 ·simp[execOp,qO ha hx,Instr.fieldAt,run_underlying h1,h2,Instr.sureAddr,fieldPlace,sizeOf,typeInfo,hi,hs]
end
end
section
open Go.Conc
set_option linter.unusedVariables false
set_option linter.unusedSimpArgs false
variable {c d e f i j:Nat} {js l o:List Nat} {sh:Nat->Option Obj} {γ:Gh}
inductive Wkr:Type
 | send (l:List Nat)
 | rel
 | off
 | l1
 | l2
 | l3
inductive Wt:Type
 | new
 | load (n:Nat)
 | cas (n:Nat)
 | writ
 | sleep
 | again
 | on
 | acq
 | cls
inductive Ph:Type
 | wk (p:Wkr)
 | wt (p:Wt)
inductive Mn:Type
 | rest
 | sh1
 | sh2
 | hire (k m:Nat)
 | hear
 | over
def Wkr.enc (W f:Nat):Wkr->Gh
 | .send l=>10::W::f::l
 | .rel=>[11,W]
 | .off=>[12,W]
 | .l1=>[13,W]
 | .l2=>[14,W]
 | .l3=>[15,W]
def Wt.enc (W d:Nat):Wt->Gh
 | .new=>[20,W,d]
 | .load n=>[21,W,d,n]
 | .cas n=>[22,W,d,n]
 | .writ=>[23,W,d]
 | .sleep=>[24,W,d]
 | .again=>[25,W,d]
 | .on=>[26,W,d]
 | .acq=>[27,W,d]
 | .cls=>[28,W,d]
def Ph.enc (W f d:Nat):Ph->Gh
 | .wk p=>p.enc W f
 | .wt p=>p.enc W d
def cde:List Nat->Nat
 | []=>0
 | a::l=>2^a*(2*cde l+1)
theorem zSp:∀{a b x y:Nat},2^a*(2*x+1)=2^b*(2*y+1)->a=b∧x=y
 | 0,0,x,y,h=>by simp at h;exact⟨rfl,by omega⟩
 | 0,b+1,x,y,h=>by
  rw[Nat.pow_succ,Nat.mul_comm (2^b) 2,Nat.mul_assoc] at h;simp only[Nat.pow_zero,Nat.one_mul] at h
  omega
 | a+1,0,x,y,h=>by
  rw[Nat.pow_succ,Nat.mul_comm (2^a) 2,Nat.mul_assoc] at h;simp only[Nat.pow_zero,Nat.one_mul] at h
  omega
 | a+1,b+1,x,y,h=>by
  rw[Nat.pow_succ,Nat.mul_comm (2^a) 2,Nat.mul_assoc,Nat.pow_succ,Nat.mul_comm (2^b) 2,Nat.mul_assoc] at h;obtain⟨h1,h2⟩:=zSp (Nat.eq_of_mul_eq_mul_left (by omega) h);exact⟨by omega,h2⟩
theorem zFi:∀{l m:List Nat},cde l=cde m->l=m
 | [],[],_=>rfl
 | [],b::m,h=>by
  exfalso;have h0:0=2^b*(2*cde m+1):=h;have:=Nat.mul_pos (Nat.two_pow_pos b) (show 0<2*cde m+1 by omega)
  omega
 | a::l,[],h=>by
  exfalso;have h0:2^a*(2*cde l+1)=0:=h;have:=Nat.mul_pos (Nat.two_pow_pos a) (show 0<2*cde l+1 by omega)
  omega
 | a::l,b::m,h=>by
  obtain⟨h1,h2⟩:=zSp (show 2^a*(2*cde l+1)=2^b*(2*cde m+1) from h);rw[h1,zFi h2]
def Mn.enc (W f d e:Nat) (o:List Nat):Mn->Gh
 | .rest=>[0]
 | .sh1=>[1,W]
 | .sh2=>[2,W,f]
 | .hire k m=>3::W::f::d::k::m::e::o
 | .hear=>4::W::f::d::e::o
 | .over=>[5,W,f,d,e]
def Wkr.quiet:Wkr->Bool
 | .send _=>false
 | _=>true
def Wkr.deaf:Wkr->Nat
 | .send _ | .rel=>0
 | _=>1
def Wt.deaf:Wt->Nat
 | .new | .acq | .cls=>0
 | _=>1
def Ph.deaf:Ph->Nat
 | .wk p=>p.deaf
 | .wt p=>p.deaf
def Mn.deaf:Mn->Nat
 | .hire k _=>if k=1∨k=2∨k=3 then 1 else 0
 | _=>0
def Mn.more:Mn->Nat
 | .hire k _=>if k=2∨k=3∨k=4 then 1 else 0
 | _=>0
def Mn.hasW:Mn->Bool
 | .rest=>false
 | _=>true
def Mn.hasF:Mn->Bool
 | .rest | .sh1=>false
 | _=>true
def Mn.hasD:Mn->Bool
 | .rest | .sh1 | .sh2=>false
 | _=>true
def counts:Option Ph->Bool
 | some (.wk (.send _))|some (.wk .rel)|some (.wk .off)=>true
 | _=>false
def leftOf:Option Ph->List Nat
 | some (.wk (.send l))=>l
 | _=>[]
structure Cst where
 W:Nat
 f:Nat
 d:Nat
 pubs:List Nat
 cnt:Nat
 wtr:Bool
 sem:Bool
 shut:Bool
 car:Nat
 ow:Nat
 mn:Mn
 owed:List Nat
 js:List Nat
 oth:Nat->Option Ph
 lent:List Nat
def Cst.state (σ:Cst):Nat:=σ.cnt*4294967296+σ.wtr.toNat
def Cst.NoWk (σ:Cst):Prop:=∀j p,σ.oth j≠some (.wk p)
def Cst.NoLast (σ:Cst):Prop:=∀j,σ.oth j≠some (.wk .l1)∧σ.oth j≠some (.wk .l2)∧σ.oth j≠some (.wk .l3)
def Cst.Only (σ:Cst) (i:Nat):Prop:=∀j p,σ.oth j=some (.wk p)->j=i
def Cst.early (σ:Cst):Prop:=σ.wtr=false∧σ.sem=false∧σ.NoLast∧σ.car<=1
def Cst.wait (σ:Cst):Prop:=σ.car<=1∧((σ.wtr=true∧σ.sem=false∧0<σ.cnt∧σ.NoLast)∨(σ.wtr=true∧σ.sem=false∧∃i,(σ.oth i=some (.wk .l1)∨σ.oth i=some (.wk .l2))∧σ.Only i) ∨
 (σ.wtr=false∧σ.sem=false∧∃i,σ.oth i=some (.wk .l3)∧σ.Only i)∨(σ.wtr=false∧σ.sem=true∧σ.NoWk))
def Cst.late (σ:Cst):Prop:=σ.wtr=false∧σ.sem=false∧σ.NoWk
def Cst.at (σ:Cst):Wt->Prop
 | .new=>σ.early
 | .load n=>σ.early∧σ.cnt<=n
 | .cas n=>σ.early∧σ.cnt<=n∧0<n
 | .writ | .sleep=>σ.wait
 | .again | .on | .acq=>σ.late∧σ.car<=1
 | .cls=>σ.late∧σ.car=0
def Cst.blank (σ:Cst):Prop:=(∀j,σ.oth j=none)∧σ.js=[]∧σ.owed=[]∧σ.wtr=false∧σ.sem=false∧σ.shut=false∧σ.car=0∧σ.ow=0∧σ.lent=[]
def Cst.phase (σ:Cst):Prop:=match σ.mn with
 | .rest | .sh1 | .sh2=>σ.blank
 | .hire _ m=>σ.early∧(∀j p,σ.oth j≠some (.wt p))∧σ.shut=false∧σ.ow=0∧σ.js.length<=m
 | .hear=>(σ.shut=false∧∃p,σ.oth σ.ow=some (.wt p)∧σ.at p)∨(σ.shut=true∧(∀j,σ.oth j=none)∧σ.car=2∧σ.wtr=false∧σ.sem=false)
 | .over=>(∀j,σ.oth j=none)∧σ.car=0
structure Cok (low:Nat) (σ:Cst):Prop where
 nodup:σ.js.Nodup
 zero:σ.oth 0=none
 jin:∀j,j∈σ.js↔∃p,σ.oth j=some (.wk p)
 one:∀j p,σ.oth j=some (.wt p)->j=σ.ow
 lows:∀b∈σ.pubs,low<=b
 hasW:σ.mn.hasW=true->σ.W∈σ.pubs
 hasF:σ.mn.hasF=true->σ.f∈σ.pubs∧σ.f≠σ.W
 hasD:σ.mn.hasD=true->σ.d∈σ.pubs∧σ.d≠σ.W∧σ.d≠σ.f
 small:σ.cnt<1000000
 cnt:σ.cnt=σ.js.countP (fun j=>counts (σ.oth j))+σ.mn.more
 owed:σ.owed.Perm (σ.js.flatMap fun j=>leftOf (σ.oth j))
 phase:σ.phase
def Cst.cells (tW:TypeId) (σ:Cst):Obj:=.cells #[.int .u64 (σ.state:Int),.int .u32 (σ.sem.toNat:Int)] tW (0,0)
def Cst.gh (σ:Cst) (j:Nat):Option Gh:=if j=0 then some (σ.mn.enc σ.W σ.f σ.d (cde σ.lent) σ.owed) else (σ.oth j).map (Ph.enc σ.W σ.f σ.d)
def Cst.ts (σ:Cst):Ts where
 D j:=if j=0 then σ.mn.deaf else ((σ.oth j).map Ph.deaf).getD 0
 Dn j:=∃p:Wkr,σ.oth j=some (.wk p)∧p.quiet=true
 Ca c:=(σ.car=1∧c=.rel ⟨σ.W,0,none⟩)∨(σ.car=2∧c=.cls σ.d)
def earOf:Gh->Option (List Nat)
 | 4::_::f::d::_::_=>some [f,d]
 | _=>none
def Cp (low:Nat) (tW:TypeId) (msg:Nat->Value):Pro where
 St:=Cst
 ok:=Cok low
 gh:=Cst.gh
 ts:=Cst.ts
 ow:=Cst.ow
 pub σ b:=b∈σ.pubs
 sh σ b:=if σ.mn.hasW=true∧b=σ.W then some (σ.cells tW) else none
 ch σ c:=if σ.mn.hasF=true∧c=σ.f then some false else if σ.mn.hasD=true∧c=σ.d then some σ.shut else none
 lent:=Cst.lent
 idle sh γ:=∃W d s t,γ=[24,W,d]∧sh W=some (.cells #[s,.int .u32 0] t (0,0))
 ear:=earOf
 says γ c x γ':=∃W m l,γ=10::W::c::m::l∧x=msg m∧γ'=10::W::c::l
 heard γ c x γ':=∃W d e m o,γ=4::W::c::d::e::o∧m∈o∧x=msg m∧γ'=4::W::c::d::e::o.erase m
 low:=low
section
variable {low:Nat} {tW:TypeId} {msg:Nat->Value} {σ:Cst}
theorem zBi:σ.gh 0=some (σ.mn.enc σ.W σ.f σ.d (cde σ.lent) σ.owed):=rfl
theorem jDs (h:σ.oth 0=none) {j:Nat} {γ:Gh} (hj:j≠0) (hg:σ.gh j=some γ):∃p,σ.oth j=some p∧γ=p.enc σ.W σ.f σ.d:=by
 unfold Cst.gh at hg;rw[if_neg hj] at hg;obtain⟨p,h1,h2⟩:=Option.map_eq_some_iff.1 hg;exact⟨p,h1,h2.symm⟩
theorem zB7 {p:Ph} (hj:j≠0) (h:σ.oth j=some p):σ.gh j=some (p.enc σ.W σ.f σ.d):=by
 unfold Cst.gh;rw[if_neg hj,h]
 rfl
theorem zBr (hj:j≠0) (h:σ.oth j=none):σ.gh j=none:=by
 unfold Cst.gh;rw[if_neg hj,h]
 rfl
theorem zBq (h:(σ.gh j).isSome=true) (ha:∀j,σ.oth j=none):j=0:=by
 by_cases e:j=0
 ·exact e
 ·rw[zBr e (ha j)] at h
  cases h
theorem ghs (h0:σ.oth 0=none) (hg:σ.gh j=some γ) (hm:∀W f d e o m,γ≠Mn.enc W f d e o m):∃p,j≠0∧σ.oth j=some p∧γ=p.enc σ.W σ.f σ.d:=by
 have hj:j≠0:=by
  rintro rfl;rw[zBi] at hg
  cases hg
  exact hm _ _ _ _ _ _ J
 obtain⟨p,h1,h2⟩:=jDs h0 hj hg;exact⟨p,hj,h1,h2⟩
theorem zLr {W:Nat} (h0:σ.oth 0=none) (hg:σ.gh j=some (10::W::c::l)):j≠0∧σ.oth j=some (.wk (.send l))∧W=σ.W∧c=σ.f:=by
 obtain⟨p,h1,h2,h3⟩:=ghs h0 hg (fun W f d e o m=>by cases m<;>simp[Mn.enc])
 cases p with
 | wk p=>cases p<;>simp_all[Ph.enc,Wkr.enc]
 | wt p=>cases p<;>simp_all[Ph.enc,Wt.enc]
theorem zTn {r:List Nat} {m:Nat} (h:o.Perm (l++m::r)):m∈o∧(o.erase m).Perm (l++r):=by
 have h1:o.Perm (m::(l++r)):=h.trans List.perm_middle;refine⟨h1.mem_iff.2 (by simp),?_⟩;have:=h1.erase m;simpa using this
def Cst.put (σ:Cst) (i:Nat) (p:Option Ph):Cst:={σ with oth:=fun j=>if j=i then p else σ.oth j}
theorem zYc {α:Type} {o:Nat->Option Ph} {p:Option Ph} (g:Option Ph->List α) (hn:js.Nodup) (hi:i∈js):∃l r,js.flatMap (fun j=>g (o j))=l++g (o i)++r∧js.flatMap (fun j=>g (if j=i then p else o j))=l++g p++r:=by
 induction js with
 | nil=>cases hi
 | cons a js ih =>
  rw[List.nodup_cons] at hn
  rcases List.mem_cons.1 hi with rfl|hi
  ·refine⟨[],js.flatMap fun j=>g (o j),by simp,?_⟩
   have:js.flatMap (fun j=>g (if j=i then p else o j))=js.flatMap fun j=>g (o j):=by
    have:∀j∈js,g (if j=i then p else o j)=g (o j):=fun j hj=>by
     have:j≠i:=fun e=>hn.1 (e▸hj);simp[this]
    simp only[List.flatMap];rw[List.map_congr_left this]
   simp[this]
  ·obtain⟨l,r,h1,h2⟩:=ih hn.2 hi;have:a≠i:=fun e=>hn.1 (e▸hi);exact⟨g (o a)++l,r,by simp[h1],by simp[h2,this]⟩
theorem zUd {o:Nat->Option Ph} {p:Option Ph} (hn:js.Nodup) (hi:i∈js):js.countP (fun j=>counts (if j=i then p else o j))+(counts (o i)).toNat=js.countP (fun j=>counts (o j))+(counts p).toNat:=by
 induction js with
 | nil=>cases hi
 | cons a js ih =>
  rw[List.nodup_cons] at hn;simp only[List.countP_cons]
  rcases List.mem_cons.1 hi with rfl|hi
  ·have:js.countP (fun j=>counts (if j=i then p else o j))=js.countP (fun j=>counts (o j)):=by
    refine List.countP_congr fun j hj=>?_;have:j≠i:=fun e=>hn.1 (e▸hj);simp[this]
   rw[this];simp only[if_true]
   generalize counts (o i)=x
   generalize counts p=y
   cases x<;>cases y<;>simp
  ·have h1:a≠i:=fun e=>hn.1 (e▸hi);have:=ih hn.2 hi;simp only[if_neg h1];omega
theorem jDd (i:Nat) (p:Option Ph):(σ.put i p).oth i=p:=by simp[Cst.put]
theorem zKh (h:∀j,counts (σ.oth j)=false):σ.js.countP (fun j=>counts (σ.oth j))=0:=by
 rw[List.countP_eq_zero];intro j _;simp[h j]
theorem Cok.deaf_hear (h:Cok low σ) (hm:σ.mn=.hear):σ.ts.D 0=0:=by simp[Cst.ts,hm,Mn.deaf]
theorem zJo {cs:List Nat} (h:earOf γ=some cs):∃W f d e o,γ=4::W::f::d::e::o∧cs=[f,d]:=by
 unfold earOf at h
 split at h
 ·cases h;exact⟨_,_,_,_,_,rfl,rfl⟩
 ·cases h
theorem zIc {W:Nat} (h:σ.gh 0=some (4::W::f::d::e::o)):σ.mn=.hear∧W=σ.W∧f=σ.f∧d=σ.d∧o=σ.owed∧e=cde σ.lent:=by
 rw[zBi] at h
 cases hm:σ.mn<;>rw[hm] at h<;>simp[Mn.enc] at h
 obtain⟨rfl,rfl,rfl,rfl,rfl⟩:=h;exact⟨rfl,rfl,rfl,rfl,rfl,rfl⟩
theorem zTm (h:Cok low σ) (hc:0<σ.js.countP (fun j=>counts (σ.oth j))):∃j p,j≠0∧σ.oth j=some (.wk p)∧counts (some (.wk p))=true:=by
 rw[List.countP_pos_iff] at hc;obtain⟨j,hj,hc⟩:=hc;have hj0:j≠0:=fun e=>by rw[e,h.zero] at hc;cases hc
 cases ho:σ.oth j with
 | none=>rw[ho] at hc;cases hc
 | some p =>
  cases p with
  | wk p=>exact⟨j,p,hj0,ho,by rw[<-ho];exact hc⟩
  | wt p=>rw[ho] at hc;cases hc
theorem zJv {p:Wt} {W:Nat} {x:Value} {γ':Gh} (h:(Cp low tW msg).says (p.enc W d) c x γ'):False:=by
 obtain⟨W',m,l,h1,h2,h3⟩:=h
 cases p<;>simp[Wt.enc] at h1
theorem jCm {p:Wkr} {W:Nat}:¬(Cp low tW msg).idle sh (p.enc W f):=by
 rintro⟨W',d,s,t,h1,h2⟩
 cases p<;>simp[Wkr.enc] at h1
theorem jCv {m:Mn} {W:Nat}:¬(Cp low tW msg).idle sh (m.enc W f d e o):=by
 rintro⟨W',d,s,t,h1,h2⟩
 cases m<;>simp[Mn.enc] at h1
theorem Cok.js_ne (h:Cok low σ) {j:Nat} (hj:j≠0) (hg:(σ.gh j).isSome=true):∃p,σ.oth j=some p:=by
 unfold Cst.gh at hg;rw[if_neg hj] at hg
 cases ho:σ.oth j with
 | none=>rw[ho] at hg;cases hg
 | some p=>exact⟨p,rfl⟩
theorem jBj:(Cp low tW msg).Laws:=by
 refine⟨fun σ h=>⟨fun b o hb=>?_,fun c x hc=>?_,h.lows⟩,fun σ b o h hb=>?_,fun σ h=>⟨⟨_,rfl⟩,?_⟩,fun σ c c' h hc hc'=>?_,fun σ c h hc j hj=>?_,fun σ γ cs h hg he=>?_,fun σ j γ c x γ' h hg hs=>?_,fun σ γ0 cs j γ c x γ' h hg he hj hs=>?_,fun σ γ0 h hg hw=>?_⟩
 ·simp only[Cp] at hb ⊢
  split at hb
  ·rename_i hh;rw[hh.2];exact h.hasW hh.1
  ·cases hb
 ·simp only[Cp] at hc ⊢
  split at hc
  ·rename_i hh;rw[hh.2];exact (h.hasF hh.1).1
  ·split at hc
   ·rename_i hh;rw[hh.2];exact (h.hasD hh.1).1
   ·cases hc
 ·simp only[Cp] at hb ⊢
  split at hb
  ·rename_i hh
   rw[if_neg,if_neg]
   ·rintro⟨h1,h2⟩;exact (h.hasD h1).2.1 (h2.symm.trans hh.2)
   ·rintro⟨h1,h2⟩;exact (h.hasF h1).2 (h2.symm.trans hh.2)
  ·cases hb
 ·rintro⟨p,h1,_⟩;rw[h.zero] at h1
  cases h1
 ·simp only[Cp] at hc hc'
  split at hc
  ·cases hc
  ·split at hc
   ·split at hc'
    ·cases hc'
    ·split at hc'
     ·rename_i h1 _ h2;exact h1.2.trans h2.2.symm
     ·cases hc'
   ·cases hc
 ·simp only[Cp] at hc
  split at hc
  ·cases hc
  ·split at hc
   ·have hs:σ.shut=true:=by simpa using hc
    have hp:=h.phase;unfold Cst.phase at hp
    cases hm:σ.mn<;>rw[hm] at hp<;>dsimp only at hp
    ·have:=hp.2.2.2.2.2.1;rw[hs] at this;cases this
    ·have:=hp.2.2.2.2.2.1;rw[hs] at this;cases this
    ·have:=hp.2.2.2.2.2.1;rw[hs] at this;cases this
    ·have:=hp.2.2.1;rw[hs] at this;cases this
    ·rcases hp with ⟨x,_⟩|⟨_,x,_⟩
     ·rw[hs] at x;cases x
     ·exact zBq hj x
    ·exact zBq hj hp.1
   ·cases hc
 ·obtain⟨W,f,d,e,o,rfl,rfl⟩:=zJo he;obtain⟨hm,rfl,rfl,rfl,rfl,rfl⟩:=zIc hg;have hD:=h.hasD (by rw[hm];rfl);refine⟨by simp[Ne.symm hD.2.2],fun c hc=>?_⟩;simp only[List.mem_cons,List.not_mem_nil,or_false] at hc
  rcases hc with rfl|rfl
  ·simp[Cp,hm,Mn.hasF]
  ·simp[Cp,hm,Mn.hasF,Mn.hasD]
   split<;>rfl
 ·obtain⟨W,m,l,rfl,_,_⟩:=hs;obtain⟨hj,ho,_,rfl⟩:=zLr h.zero hg;refine⟨?_,hj⟩
  have hF:σ.mn.hasF=true:=by
   have hp:=h.phase;unfold Cst.phase at hp
   cases hm:σ.mn<;>rw[hm] at hp<;>first|rfl|(have:=hp.1 j;rw[ho] at this;cases this)
  simp[Cp,hF]
 ·obtain⟨W,f,d,e,o,rfl,rfl⟩:=zJo he;obtain⟨hm,rfl,rfl,rfl,rfl,rfl⟩:=zIc hg;obtain⟨W',m,l,rfl,hx,hγ⟩:=hs;obtain⟨hj0,ho,hW',hcf⟩:=zLr h.zero hj;refine⟨by rw[hcf];simp,h.deaf_hear hm,?_⟩;have hji:=(h.jin j).2 ⟨_,ho⟩;obtain⟨l1,r1,h1,h2⟩:=zYc (o:=σ.oth) (p:=some (.wk (.send l))) leftOf h.nodup hji;have h3:=zTn (m:=m) (l:=l1) (r:=l++r1) (o:=σ.owed) (by refine h.owed.trans ?_;rw[h1,ho];simp[leftOf])
  refine⟨{σ.put j (some (.wk (.send l))) with owed:=σ.owed.erase m},4::σ.W::σ.f::σ.d::cde σ.lent::σ.owed.erase m,⟨h.nodup,?_,?_,?_,h.lows,h.hasW,h.hasF,h.hasD,h.small,?_,?_,?_⟩,?_,⟨?_,rfl,rfl,?_,?_,rfl⟩,?_,?_,fun k hk0 hkj=>?_⟩
  ·simp[Cst.put,Ne.symm hj0,h.zero]
  ·intro k
   by_cases e:k=j
   ·subst e;exact⟨fun _=>⟨.send l,by simp[Cst.put]⟩,fun _=>hji⟩
   ·simpa[Cst.put,e] using h.jin k
  ·intro k p hk
   by_cases e:k=j
   ·simp[Cst.put,e] at hk
   ·exact h.one k p (by simpa[Cst.put,e] using hk)
  ·have:=zUd (o:=σ.oth) (p:=some (.wk (.send l))) h.nodup hji;rw[ho] at this;have e:counts (some (.wk (.send (m::l))))=counts (some (.wk (.send l))):=rfl;rw[e] at this;have:=h.cnt;simp only[Cst.put];omega
  ·refine h3.2.trans ?_;simp only[Cst.put];rw[h2];simp[leftOf]
  ·have hp:=h.phase;unfold Cst.phase at hp ⊢;simp only[Cst.put,hm] at hp ⊢
   rcases hp with ⟨hs0,p,hpo,hat⟩|⟨_,hno,_⟩
   ·left;have hne:σ.ow≠j:=fun e=>by rw[e,ho] at hpo;cases hpo
    refine⟨hs0,p,by simp[hne,hpo],?_⟩
    have e1:σ.NoLast->Cst.NoLast {σ.put j (some (.wk (.send l))) with owed:=σ.owed.erase m}:=fun hl k=>by
     by_cases e:k=j
     ·subst e;simp[Cst.put]
     ·simp only[Cst.put,e,if_false];exact hl k
    have e2:∀i q,σ.oth i=some (.wk q)->σ.Only i->q.quiet=true->False:=fun i q h1 h2 h3=>by
     have:=h2 j _ ho;subst this;rw[ho] at h1
     cases h1
     cases h3
    have e3:σ.NoWk->False:=fun hn=>hn j _ ho
    cases p<;>simp only[Cst.at] at hat ⊢
    ·exact⟨hat.1,hat.2.1,e1 hat.2.2.1,hat.2.2.2⟩
    ·exact⟨⟨hat.1.1,hat.1.2.1,e1 hat.1.2.2.1,hat.1.2.2.2⟩,hat.2⟩
    ·exact⟨⟨hat.1.1,hat.1.2.1,e1 hat.1.2.2.1,hat.1.2.2.2⟩,hat.2⟩
    ·refine⟨hat.1,?_⟩
     rcases hat.2 with ⟨x1,x2,x3,x4⟩|⟨_,_,i,x|x,x'⟩|⟨_,_,i,x,x'⟩|⟨_,_,x⟩
     ·exact .inl ⟨x1,x2,x3,e1 x4⟩
     ·exact (e2 i _ x x' J).elim
     ·exact (e2 i _ x x' J).elim
     ·exact (e2 i _ x x' J).elim
     ·exact (e3 x).elim
    ·refine⟨hat.1,?_⟩
     rcases hat.2 with ⟨x1,x2,x3,x4⟩|⟨_,_,i,x|x,x'⟩|⟨_,_,i,x,x'⟩|⟨_,_,x⟩
     ·exact .inl ⟨x1,x2,x3,e1 x4⟩
     ·exact (e2 i _ x x' J).elim
     ·exact (e2 i _ x x' J).elim
     ·exact (e2 i _ x x' J).elim
     ·exact (e3 x).elim
    ·exact (e3 hat.1.2.2).elim
    ·exact (e3 hat.1.2.2).elim
    ·exact (e3 hat.1.2.2).elim
    ·exact (e3 hat.1.2.2).elim
   ·rw[hno j] at ho;cases ho
  ·refine⟨σ.W,σ.d,cde σ.lent,m,σ.owed,?_,h3.1,hx,?_⟩
   ·rw[hcf]
   ·rw[hcf]
  ·simp only[Cp,Cst.ts,Cst.put]
   congr 1
   ·funext k
    by_cases e:k=j
    ·subst e;simp[hj0,ho,Ph.deaf,Wkr.deaf]
    ·simp[e]
   ·funext k
    by_cases e:k=j
    ·subst e;simp[ho,Wkr.quiet]
    ·simp[e]
  ·funext k
   rfl
  ·rfl
  ·show some (Mn.enc _ _ _ _ _ σ.mn)=_;rw[hm]
   rfl
  ·rw[hγ,hW',hcf];exact zB7 (σ:={σ.put j (some (.wk (.send l))) with owed:=σ.owed.erase m}) hj0 (jDd j _)
  ·show Cst.gh _ k=Cst.gh σ k;simp[Cst.gh,Cst.put,hk0,hkj]
 ·have hidle:¬(Cp low tW msg).idle ((Cp low tW msg).sh σ) γ0:=by
   have:some (σ.mn.enc σ.W σ.f σ.d (cde σ.lent) σ.owed)=some γ0:=hg
   cases this
   exact jCv
  rcases hw with hw|⟨cs,he,hc⟩
  ·exact absurd hw hidle
  ·have he':=he;obtain⟨W,f,d,e,o,rfl,rfl⟩:=zJo he;obtain⟨hm,rfl,rfl,rfl,rfl,rfl⟩:=zIc hg
   have hsh:σ.shut=false:=by
    have hD:=h.hasD (by rw[hm];rfl);have:=hc σ.d (by simp);simp[Cp,hm,Mn.hasF,Mn.hasD,hD.2.2] at this;exact this
   have hp:=h.phase;unfold Cst.phase at hp;simp only[hm] at hp
   rcases hp with ⟨_,p,hpo,hat⟩|⟨x,_⟩
   ·have hwk:∀j q,j≠0->σ.oth j=some (.wk q)->∃j γ,j≠0∧(Cp low tW msg).gh σ j=some γ∧¬(Cp low tW msg).idle ((Cp low tW msg).sh σ) γ∧∀c x γ',(Cp low tW msg).says γ c x γ'->(earOf (4::σ.W::σ.f::σ.d::cde σ.lent::σ.owed)).isSome∧¬(Cp low tW msg).idle ((Cp low tW msg).sh σ) (4::σ.W::σ.f::σ.d::cde σ.lent::σ.owed):=fun j q hj hq =>
     ⟨j,_,hj,zB7 hj hq,jCm,fun c x γ' _=>⟨rfl,hidle⟩⟩
    have hw0:σ.ow≠0:=fun e=>by rw[e,h.zero] at hpo;cases hpo
    have hj0:∀j q,σ.oth j=some q->j≠0:=fun j q hq e=>by rw[e,h.zero] at hq;cases hq
    by_cases hs:p=.sleep
    ·subst hs;simp only[Cst.at,Cst.wait] at hat
     rcases hat.2 with ⟨_,_,x,_⟩|⟨_,_,i,x|x,_⟩|⟨_,_,i,x,_⟩|⟨_,x,_⟩
     ·have hc0:=h.cnt;rw[hm] at hc0;obtain⟨j,q,h1,h2,_⟩:=zTm h (by simp only[Mn.more] at hc0;omega);exact hwk j q h1 h2
     ·exact hwk i _ (hj0 i _ x) x
     ·exact hwk i _ (hj0 i _ x) x
     ·exact hwk i _ (hj0 i _ x) x
     ·refine⟨σ.ow,_,hw0,zB7 hw0 hpo,?_,fun c x γ' hs=>(zJv (p:=.sleep) (W:=σ.W) (d:=σ.d) (low:=low) (tW:=tW) (msg:=msg) hs).elim⟩;rintro⟨W,d,s,t,h1,h2⟩;simp only[Ph.enc,Wt.enc,List.cons.injEq,true_and,and_true] at h1;obtain⟨rfl,rfl⟩:=h1;simp[Cp,hm,Mn.hasW,Cst.cells,x] at h2
    ·refine⟨σ.ow,_,hw0,zB7 hw0 hpo,?_,fun c x γ' hs=>(zJv (p:=p) (W:=σ.W) (d:=σ.d) (low:=low) (tW:=tW) (msg:=msg) hs).elim⟩;rintro⟨W,d,s,t,h1,h2⟩
     cases p<;>first|exact hs J|simp[Ph.enc,Wt.enc] at h1
   ·rw[hsh] at x;cases x
end
end
section
open Go.Conc
set_option linter.unusedVariables false
set_option linter.unusedSimpArgs false
variable {car cnt i:Nat} {js:List Nat} {o:Nat->Option Ph} {p:Option Ph} {sem wtr:Bool}
section
variable {low:Nat} {tW:TypeId} {msg:Nat->Value} {σ σ':Cst}
def isWk:Option Ph->Bool
 | some (.wk _)=>true
 | _=>false
def Cst.turn (σ:Cst) (i:Nat) (p:Option Ph) (cnt:Nat) (wtr sem:Bool) (car:Nat):Cst :=
 {σ with oth:=fun j=>if j=i then p else σ.oth j,cnt,wtr,sem,car,js:=if isWk p=true then σ.js else σ.js.erase i}
theorem vI:(σ.turn i p cnt wtr sem car).oth i=p:=by simp[Cst.turn]
theorem vK {j:Nat} (h:j≠i):(σ.turn i p cnt wtr sem car).oth j=σ.oth j:=by simp[Cst.turn,h]
theorem zA8 (hi:i∈js):js.countP (fun j=>counts (o j))=(js.erase i).countP (fun j=>counts (o j))+(counts (o i)).toNat:=by
 rw[(List.perm_cons_erase hi).countP_eq,List.countP_cons]
 cases counts (o i)<;>simp
theorem zHp (hn:js.Nodup):(js.erase i).countP (fun j=>counts (if j=i then p else o j))=(js.erase i).countP (fun j=>counts (o j)):=by
 refine List.countP_congr fun j hj=>?_;rw[if_neg (fun e=>by subst e;exact (List.Nodup.not_mem_erase hn) hj)]
theorem zKa (hi:i∈js):(js.flatMap fun j=>leftOf (o j)).Perm (leftOf (o i)++(js.erase i).flatMap fun j=>leftOf (o j)):=by
 have:=(List.perm_cons_erase hi).flatMap_right (fun j=>leftOf (o j));simpa using this
theorem zPx (hn:js.Nodup):((js.erase i).flatMap fun j=>leftOf (if j=i then p else o j))=(js.erase i).flatMap fun j=>leftOf (o j):=by
 have:∀j∈js.erase i,leftOf (if j=i then p else o j)=leftOf (o j):=fun j hj=>by
  rw[if_neg (fun e=>by subst e;exact (List.Nodup.not_mem_erase hn) hj)]
 simp only[List.flatMap];rw[List.map_congr_left this]
theorem xJ (h:Cok low σ) {i:Nat} {p:Ph} (hi:σ.oth i=some p):i≠0:=fun e=>by rw[e,h.zero] at hi;cases hi
theorem Cok.turn_wk (h:Cok low σ) {i:Nat} {q:Wkr} {p:Option Wkr} {cnt car:Nat} {wtr sem:Bool} (hi:σ.oth i=some (.wk q)) (hl:leftOf (some (.wk q))=[]) (hl':leftOf (p.map .wk)=[])
  (hc:cnt+(counts (some (.wk q))).toNat=σ.cnt+(counts (p.map .wk)).toNat) (hle:cnt<=σ.cnt) (hp:(σ.turn i (p.map .wk) cnt wtr sem car).phase):Cok low (σ.turn i (p.map .wk) cnt wtr sem car):=by
 have hij:=(h.jin i).2 ⟨_,hi⟩;have hi0:=xJ h hi;have hcs:=zA8 (o:=σ.oth) hij;have hfs:=zKa (o:=σ.oth) hij;rw[hi] at hcs hfs;rw[hl] at hfs;have h1:=h.cnt;have hcp:∀js',js'=σ.js.erase i->js'.countP (fun j=>counts (if j=i then p.map .wk else σ.oth j))=(σ.js.erase i).countP (fun j=>counts (σ.oth j)):=fun js' e=>by rw[e];exact zHp h.nodup
 refine⟨?_,by rw[vK (Ne.symm hi0)];exact h.zero,fun j=>?_,fun j q' hj=>?_,h.lows,h.hasW,h.hasF,h.hasD,Nat.lt_of_le_of_lt hle h.small,?_,?_,hp⟩
 ·show (if _ then _ else _:List Nat).Nodup
  split
  ·exact h.nodup
  ·exact h.nodup.erase i
 ·by_cases e:j=i
  ·subst e;rw[vI]
   cases p with
   | none=>simp[Cst.turn,isWk,List.Nodup.not_mem_erase h.nodup]
   | some p=>simp[Cst.turn,isWk,hij]
  ·rw[vK e,<-h.jin j]
   cases p with
   | none=>simp[Cst.turn,isWk,List.mem_erase_of_ne e]
   | some p=>simp[Cst.turn,isWk]
 ·by_cases e:j=i
  ·subst e;rw[vI] at hj
   cases p<;>simp at hj
  ·rw[vK e] at hj;exact h.one j q' hj
 ·cases p with
  | none =>
   simp only[Cst.turn,Option.map_none,isWk,Bool.false_eq_true,if_false];rw[zHp h.nodup];have e:(counts ((none:Option Wkr).map Ph.wk)).toNat=0:=rfl;rw[e] at hc;show cnt=_+σ.mn.more
   omega
  | some p =>
   simp only[Cst.turn,Option.map_some,isWk,if_true];have h2:=zA8 (o:=fun j=>if j=i then some (.wk p) else σ.oth j) hij;rw[zHp h.nodup] at h2;simp only[if_true] at h2;simp only[Option.map_some] at hc;omega
 ·refine (h.owed.trans hfs).trans ?_
  cases p with
  | none =>
   simp only[Cst.turn,Option.map_none,isWk,Bool.false_eq_true,if_false];rw[zPx h.nodup]
   exact .refl _
  | some p =>
   simp only[Cst.turn,Option.map_some,isWk,if_true];have h2:=zKa (o:=fun j=>if j=i then some (.wk p) else σ.oth j) hij;rw[zPx h.nodup] at h2;simp only[if_true] at h2;simp only[Option.map_some] at hl';rw[hl'] at h2;exact h2.symm
theorem Cok.turn_wt (h:Cok low σ) {i:Nat} {q:Wt} {p:Option Wt} {car:Nat} {wtr sem:Bool} (hi:σ.oth i=some (.wt q)) (hp:(σ.turn i (p.map .wt) σ.cnt wtr sem car).phase):Cok low (σ.turn i (p.map .wt) σ.cnt wtr sem car):=by
 have hij:i∉σ.js:=fun e=>by obtain⟨q',x⟩:=(h.jin i).1 e;rw[hi] at x;cases x
 have hi0:=xJ h hi;have e1:isWk (p.map .wt)=false:=by cases p<;>rfl
 have e2:(σ.turn i (p.map .wt) σ.cnt wtr sem car).js=σ.js:=by
  show (if _ then _ else _:List Nat)=_;rw[e1];exact List.erase_of_not_mem hij
 have e3:∀j∈σ.js,(σ.turn i (p.map .wt) σ.cnt wtr sem car).oth j=σ.oth j:=fun j hj=>vK (fun e=>hij (e▸hj))
 refine⟨by rw[e2];exact h.nodup,by rw[vK (Ne.symm hi0)];exact h.zero,fun j=>?_,fun j q' hj=>?_,h.lows,h.hasW,h.hasF,h.hasD,h.small,?_,?_,hp⟩
 ·rw[e2]
  by_cases e:j=i
  ·subst e;rw[vI];simp only[hij,false_iff];rintro⟨q',x⟩
   cases p<;>simp at x
  ·rw[vK e];exact h.jin j
 ·by_cases e:j=i
  ·subst e;exact h.one j q hi
  ·rw[vK e] at hj;exact h.one j q' hj
 ·rw[e2];refine h.cnt.trans (congrArg (·+_) (List.countP_congr fun j hj=>?_));rw[e3 j hj]
 ·rw[e2];refine h.owed.trans ?_
  have:σ.js.flatMap (fun j=>leftOf ((σ.turn i (p.map .wt) σ.cnt wtr sem car).oth j))=σ.js.flatMap fun j=>leftOf (σ.oth j):=by
   simp only[List.flatMap];rw[List.map_congr_left fun j hj=>by rw[e3 j hj]]
  rw[this]
theorem wR (h:Cok low σ) {i:Nat} (hi0:i≠0) {p:Option Ph} {cnt car:Nat} {wtr sem:Bool} {acts:List MemAct} (ok':Cok low (σ.turn i p cnt wtr sem car))
  (hq:∀B,(∀b,b∈σ.pubs->b<B)->∃s1,Tqs (·∈σ.pubs) σ.ow B i σ.ts acts s1∧(∀q,p=some q->s1.D i=q.deaf)∧(∀j,j≠i->s1.D j=σ.ts.D j)∧(∀q,p=some (.wk q)->q.quiet=true->s1.Dn i)∧(∀j,j≠i->σ.ts.Dn j->s1.Dn j)∧(∀c,s1.Ca c->(σ.turn i p cnt wtr sem car).ts.Ca c)∧(p=none->s1.Dn i)) :
  (Cp low tW msg).Moves i σ acts none (σ.turn i p cnt wtr sem car):=by
 refine⟨ok',fun j hj=>?_,rfl,rfl,fun c=>?_,fun c hc=>(by cases hc),rfl,fun j hj=>?_,fun B hB=>?_⟩
 ·show Cst.gh _ j=Cst.gh σ j;unfold Cst.gh;rw[vK hj]
  rfl
 ·rw[if_neg (by simp)]
  rfl
 ·show (∃p',_∧_)↔∃p',_∧_;rw[vK hj]
 ·obtain⟨s1,h1,h2,h3,h4,h5,h6,h7⟩:=hq B hB
  refine⟨s1,h1,fun j hj=>?_,fun j hj=>?_,h6,fun hn=>h7 ?_⟩
  ·by_cases e:j=i
   ·subst e;obtain⟨q,hq⟩:=ok'.js_ne hi0 hj;rw[vI] at hq;rw[h2 q hq];simp[Cp,Cst.ts,hi0,Cst.turn,hq]
   ·rw[h3 j e];simp only[Cp,Cst.ts];rw[vK e]
    rfl
  ·obtain⟨q,hq1,hq2⟩:=hj
   by_cases e:j=i
   ·subst e;rw[vI] at hq1;exact h4 q hq1 hq2
   ·rw[vK e] at hq1;exact h5 j e ⟨q,hq1,hq2⟩
  ·have:Cst.gh _ i=none:=hn;unfold Cst.gh at this;rw[if_neg hi0,vI] at this
   cases p with
   | none=>rfl
   | some p=>cases this
end
end
section
open Go.Conc
set_option linter.unusedVariables false
set_option linter.unusedSimpArgs false
variable {B car cnt:Nat} {p:Option Ph} {sem wtr:Bool}
section
variable {low:Nat} {tW:TypeId} {msg:Nat->Value} {σ σ':Cst} {i:Nat}
theorem zGd (h:Cok low σ) {q:Wkr} (hi:σ.oth i=some (.wk q)):(∃k m,σ.mn=.hire k m)∨σ.mn=.hear∧σ.shut=false∧∃p,σ.oth σ.ow=some (.wt p)∧σ.at p∧σ.ow≠i:=by
 have hp:=h.phase;unfold Cst.phase at hp
 cases hm:σ.mn<;>rw[hm] at hp<;>dsimp only at hp
 ·have:=hp.1 i;rw[hi] at this;cases this
 ·have:=hp.1 i;rw[hi] at this;cases this
 ·have:=hp.1 i;rw[hi] at this;cases this
 ·exact .inl ⟨_,_,rfl⟩
 ·rcases hp with ⟨h1,p,h2,h3⟩|⟨_,x,_⟩
  ·exact .inr ⟨rfl,h1,p,h2,h3,fun e=>by rw[e,hi] at h2;cases h2⟩
  ·rw[x i] at hi;cases hi
 ·rw[hp.1 i] at hi;cases hi
theorem zA0 (h:Cok low σ) {q:Wkr} {p:Option Wkr} {cnt car:Nat} {wtr sem:Bool} (hi:σ.oth i=some (.wk q)) (hle:cnt<=σ.cnt) (he:σ.early->(σ.turn i (p.map .wk) cnt wtr sem car).early) (hw:σ.wait->(σ.turn i (p.map .wk) cnt wtr sem car).wait) :
  (σ.turn i (p.map .wk) cnt wtr sem car).phase:=by
 have hp:=h.phase;have hmn:(σ.turn i (p.map .wk) cnt wtr sem car).mn=σ.mn:=rfl;unfold Cst.phase at hp ⊢;rw[hmn]
 rcases zGd h hi with ⟨k,m,hm⟩|⟨hm,h1,r,h2,h3,h4⟩
 ·rw[hm] at hp ⊢;dsimp only at hp ⊢
  refine⟨he hp.1,fun j r=>?_,hp.2.2.1,hp.2.2.2.1,?_⟩
  ·by_cases e:j=i
   ·subst e;rw[vI];cases p<;>simp
   ·rw[vK e];exact hp.2.1 j r
  ·refine Nat.le_trans ?_ hp.2.2.2.2;show (if _ then _ else _:List Nat).length<=_
   split
   ·exact Nat.le_refl _
   ·exact List.length_erase_le ..
 ·rw[hm];dsimp only;refine .inl ⟨h1,r,by show (σ.turn i (p.map .wk) cnt wtr sem car).oth σ.ow=_;rw[vK h4];exact h2,?_⟩;have hno:σ.late->False:=fun x=>x.2.2 i q hi
  cases r<;>simp only[Cst.at] at h3 ⊢
  ·exact he h3
  ·exact⟨he h3.1,Nat.le_trans hle h3.2⟩
  ·exact⟨he h3.1,Nat.le_trans hle h3.2.1,h3.2.2⟩
  ·exact hw h3
  ·exact hw h3
  ·exact (hno h3.1).elim
  ·exact (hno h3.1).elim
  ·exact (hno h3.1).elim
  ·exact (hno h3.1).elim
theorem zCs (h:σ.NoLast) (hp:p≠some (.wk .l1)∧p≠some (.wk .l2)∧p≠some (.wk .l3)):(σ.turn i p cnt wtr sem car).NoLast:=fun j=>by
 by_cases e:j=i
 ·subst e;rw[vI];exact hp
 ·rw[vK e];exact h j
theorem zM8 (h:σ.Only i):(σ.turn i p cnt wtr sem car).Only i:=fun j q hj=>by
 by_cases e:j=i
 ·exact e
 ·rw[vK e] at hj;exact h j q hj
theorem zJz (h:Cok low σ) {q p:Wkr} {car:Nat} (hi:σ.oth i=some (.wk q)) (hq:counts (some (.wk q))=true) (hp:counts (some (.wk p))=true) (hc:σ.car<=1->car<=1):(σ.turn i (some (.wk p)) σ.cnt σ.wtr σ.sem car).phase:=by
 have hpl:some (Ph.wk p)≠some (.wk .l1)∧some (Ph.wk p)≠some (.wk .l2)∧some (Ph.wk p)≠some (.wk .l3):=by
  refine⟨?_,?_,?_⟩<;>intro e<;>rw[e] at hp<;>cases hp
 have hq1:∀j,(σ.oth j=some (.wk .l1)∨σ.oth j=some (.wk .l2)∨σ.oth j=some (.wk .l3))->σ.Only j->False:=fun j h1 h2=>by
  have:=h2 i q hi;subst this;rw[hi] at h1;rcases h1 with e|e|e<;>rw[e] at hq<;>cases hq
 refine zA0 (p:=some p) h hi (Nat.le_refl _) (fun x=>⟨x.1,x.2.1,zCs x.2.2.1 hpl,hc x.2.2.2⟩) fun x=>⟨hc x.1,?_⟩
 rcases x.2 with ⟨x1,x2,x3,x4⟩|⟨_,_,j,x,x'⟩|⟨_,_,j,x,x'⟩|⟨_,_,x⟩
 ·exact .inl ⟨x1,x2,x3,zCs x4 hpl⟩
 ·exact (hq1 j (x.imp id .inl) x').elim
 ·exact (hq1 j (.inr (.inr x)) x').elim
 ·exact (x i q hi).elim
theorem jD2 (h:Cok low σ) {q:Wkr} (hi:σ.oth i=some (.wk q)):σ.car<=1:=by
 have hp:=h.phase;unfold Cst.phase at hp
 rcases zGd h hi with ⟨k,m,hm⟩|⟨hm,h1,r,h2,h3,h4⟩
 ·rw[hm] at hp;exact hp.1.2.2.2
 ·have hno:σ.late->False:=fun x=>x.2.2 i q hi
  cases r<;>simp only[Cst.at] at h3
  ·exact h3.2.2.2
  ·exact h3.1.2.2.2
  ·exact h3.1.2.2.2
  ·exact h3.1
  ·exact h3.1
  ·exact h3.2
  ·exact h3.2
  ·exact h3.2
  ·exact (hno h3.1).elim
theorem wY (h:Cok low σ) {q:Wkr} (hi:σ.oth i=some (.wk q)):σ.W∈σ.pubs∧σ.mn.hasW=true:=by
 have:σ.mn.hasW=true:=by
  rcases zGd h hi with ⟨k,m,hm⟩|⟨hm,_⟩<;>rw[hm]<;>rfl
 exact⟨h.hasW this,this⟩
theorem xP {σ:Cst} (hW:σ.W∈σ.pubs) (hB:∀b,b∈σ.pubs->b<B):σ.W<B:=hB _ hW
theorem yH {p:Ph} (hi0:i≠0) (hi:σ.oth i=some p):σ.ts.D i=p.deaf:=by simp[Cst.ts,hi0,hi]
theorem zFq {q:Wkr} (hi:σ.oth i=some (.wk q)):σ.ts.Dn i↔q.quiet=true:=by
 constructor
 ·rintro⟨p,h1,h2⟩;rw[hi] at h1
  cases h1
  exact h2
 ·exact fun x=>⟨q,hi,x⟩
theorem zK0 {q:Wt} (hi:σ.oth i=some (.wt q)):¬σ.ts.Dn i:=by
 rintro⟨p,h1,h2⟩;rw[hi] at h1
 cases h1
theorem yE:(σ.turn i p cnt wtr sem σ.car).ts.Ca=σ.ts.Ca:=rfl
theorem zW2 (hc:σ.car<=1) {c:Car} (h:σ.ts.Ca c):c=.rel ⟨σ.W,0,none⟩:=by
 rcases h with ⟨_,h⟩|⟨h,_⟩
 ·exact h
 ·omega
theorem jDc (h:Cok low σ) (hi:σ.oth i=some (.wk (.send []))):(Cp low tW msg).Moves i σ [.mark (.releaseMerge ⟨σ.W,0,none⟩)] none (σ.turn i (some (.wk .rel)) σ.cnt σ.wtr σ.sem 1):=by
 have hi0:=xJ h hi;refine wR h hi0 (h.turn_wk (p:=some .rel) hi J J J (Nat.le_refl _) (zJz h hi J J fun _=>Nat.le_refl _)) fun B hB=>?_
 refine⟨_,.cons (.last (by rw[yH hi0 hi];rfl)) (by simp[MemAct.low,xP (wY h hi).1 hB]) .nil,fun q e=>?_,fun j _=>rfl,fun q _ _=>.inr J,fun j _ x=>.inl x,fun c x=>?_,fun e=>by cases e⟩
 ·cases e
  show σ.ts.D i=_;rw[yH hi0 hi]
  rfl
 ·refine .inl ⟨rfl,?_⟩
  rcases x with x|x
  ·exact zW2 (jD2 h hi) x
  ·exact x
theorem jDb (h:Cok low σ) (hi:σ.oth i=some (.wk .rel)):(Cp low tW msg).Moves i σ [.mark .disable] none (σ.turn i (some (.wk .off)) σ.cnt σ.wtr σ.sem σ.car):=by
 have hi0:=xJ h hi;refine wR h hi0 (h.turn_wk (p:=some .off) hi J J J (Nat.le_refl _) (zJz h hi J J id)) fun B hB=>?_;refine⟨_,.cons .off (by simp[MemAct.low]) .nil,fun q e=>?_,fun j e=>by simp[Ts.deaf,e],fun q _ _=>(zFq hi).2 J,fun j _ x=>x,fun c x=>by rw[yE];exact x,fun e=>by cases e⟩
 cases e
 simp[Ts.deaf,yH hi0 hi,Ph.deaf,Wkr.deaf]
theorem zYz (h:Cok low σ) (hi:σ.oth i=some (.wk .off)) (hl:σ.wtr=false∨2<=σ.cnt):(Cp low tW msg).Moves i σ [.access ⟨.cell ⟨σ.W,0,none⟩,false,true⟩,.access ⟨.cell ⟨σ.W,0,none⟩,true,true⟩] none (σ.turn i none (σ.cnt-1) σ.wtr σ.sem σ.car):=by
 have hi0:=xJ h hi
 have hpos:0<σ.cnt:=by
  have h1:=zA8 (o:=σ.oth) ((h.jin i).2 ⟨_,hi⟩);rw[hi] at h1;have h2:=h.cnt;have h3:(counts (some (.wk .off))).toNat=1:=rfl;omega
 refine wR h hi0 (h.turn_wk (p:=none) hi J J ?_ (Nat.sub_le ..) (zA0 (p:=none) h hi (Nat.sub_le ..) (fun x=>⟨x.1,x.2.1,zCs x.2.2.1 (by simp),x.2.2.2⟩) fun x=>⟨x.1,?_⟩)) fun B hB=>?_
 ·show σ.cnt-1+1=σ.cnt+0;omega
 ·rcases x.2 with ⟨x1,x2,x3,x4⟩|⟨_,_,j,x,x'⟩|⟨_,_,j,x,x'⟩|⟨_,_,x⟩
  ·refine .inl ⟨x1,x2,?_,zCs x4 (by simp)⟩
   rcases hl with e|e
   ·rw[e] at x1;cases x1
   ·show 0<σ.cnt-1;omega
  ·have:=x' i _ hi;subst this;rw[hi] at x;rcases x with x|x<;>cases x
  ·have:=x' i _ hi;subst this;rw[hi] at x
   cases x
  ·exact (x i _ hi).elim
 ·have hd:σ.ts.D i=1:=by rw[yH hi0 hi];rfl
  have hw:=wY h hi;refine⟨_,.cons (.atom hw.1 (xP hw.1 hB) (fun _=>by rw[hd];exact Nat.one_pos)) (by simp[MemAct.low,Loc.low,xP hw.1 hB]) (.cons (.atom hw.1 (xP hw.1 hB) (fun _=>by rw[hd];exact Nat.one_pos)) (by simp[MemAct.low,Loc.low,xP hw.1 hB]) .nil),fun q e=>(by cases e),fun j _=>rfl,fun q e=>(by cases e),fun j _ x=>x,fun c x=>(by rw[yE];exact x),fun _=>(zFq hi).2 J⟩
theorem jAn (h:Cok low σ) (hi:σ.oth i=some (.wk .off)) (hw:σ.wtr=true) (hc:σ.cnt=1):(Cp low tW msg).Moves i σ [.access ⟨.cell ⟨σ.W,0,none⟩,false,true⟩,.access ⟨.cell ⟨σ.W,0,none⟩,true,true⟩] none (σ.turn i (some (.wk .l1)) 0 true σ.sem σ.car):=by
 have hi0:=xJ h hi;have hij:=(h.jin i).2 ⟨_,hi⟩;have hcs:=zA8 (o:=σ.oth) hij;rw[hi] at hcs;have h3:(counts (some (.wk .off))).toNat=1:=rfl;have h2:=h.cnt;have hrest:(σ.js.erase i).countP (fun j=>counts (σ.oth j))=0:=by omega
 refine wR h hi0 (h.turn_wk (p:=some .l1) hi J J ?_ (Nat.zero_le _) (zA0 (p:=some .l1) h hi (Nat.zero_le _) (fun x=>by have:=x.1;rw[hw] at this;cases this) fun x=>⟨x.1,?_⟩)) fun B hB=>?_
 ·show 0+1=σ.cnt+0;omega
 ·rcases x.2 with ⟨x1,x2,x3,x4⟩|⟨_,_,j,x,x'⟩|⟨_,_,j,x,x'⟩|⟨_,_,x⟩
  ·refine .inr (.inl ⟨rfl,x2,i,.inl vI,fun j q hj=>?_⟩)
   by_cases e:j=i
   ·exact e
   ·rw[vK e] at hj;have hjj:j∈σ.js.erase i:=(List.mem_erase_of_ne e).2 ((h.jin j).2 ⟨q,hj⟩);have hz:=(List.countP_eq_zero.1 hrest) j hjj;obtain⟨y1,y2,y3⟩:=x4 j;rw[hj] at hz y1 y2 y3
    cases q<;>first|exact absurd J hz|exact absurd J y1|exact absurd J y2|exact absurd J y3
  ·have:=x' i _ hi;subst this;rw[hi] at x;rcases x with x|x<;>cases x
  ·have:=x' i _ hi;subst this;rw[hi] at x
   cases x
  ·exact (x i _ hi).elim
 ·have hd:σ.ts.D i=1:=by rw[yH hi0 hi];rfl
  have hw:=wY h hi;refine⟨_,.cons (.atom hw.1 (xP hw.1 hB) (fun _=>by rw[hd];exact Nat.one_pos)) (by simp[MemAct.low,Loc.low,xP hw.1 hB]) (.cons (.atom hw.1 (xP hw.1 hB) (fun _=>by rw[hd];exact Nat.one_pos)) (by simp[MemAct.low,Loc.low,xP hw.1 hB]) .nil),fun q e=>?_,fun j _=>rfl,fun q _ _=>(zFq hi).2 J,fun j _ x=>x,fun c x=>(by rw[yE];exact x),fun e=>(by cases e)⟩
  cases e
  exact hd
theorem zDm (h:Cok low σ) {q:Wkr} (hi:σ.oth i=some (.wk q)) (hq:counts (some (.wk q))=false):σ.mn=.hear∧σ.Only i∧σ.sem=false∧σ.cnt=0∧(q=.l1∨q=.l2->σ.wtr=true)∧(q=.l3->σ.wtr=false):=by
 have key:∀p,σ.at p->σ.mn=.hear->σ.Only i∧σ.sem=false∧(q=.l1∨q=.l2->σ.wtr=true)∧(q=.l3->σ.wtr=false):=by
  have hno:σ.NoLast->False:=fun x=>by
   obtain⟨y1,y2,y3⟩:=x i;rw[hi] at y1 y2 y3
   cases q<;>first|exact y1 J|exact y2 J|exact y3 J|cases hq
  have hwt:σ.wait->σ.Only i∧σ.sem=false∧(q=.l1∨q=.l2->σ.wtr=true)∧(q=.l3->σ.wtr=false):=fun x=>by
   rcases x.2 with ⟨_,_,_,x4⟩|⟨x1,x2,j,x,x'⟩|⟨x1,x2,j,x,x'⟩|⟨_,_,x⟩
   ·exact (hno x4).elim
   ·have:=x' i _ hi;subst this;refine⟨x',x2,fun _=>x1,fun e=>?_⟩;subst e;rw[hi] at x;rcases x with x|x<;>cases x
   ·have:=x' i _ hi;subst this;refine⟨x',x2,fun e=>?_,fun _=>x1⟩;rw[hi] at x
    cases x
    rcases e with e|e<;>cases e
   ·exact (x i _ hi).elim
  intro p hp hm
  cases p<;>simp only[Cst.at] at hp
  ·exact (hno hp.2.2.1).elim
  ·exact (hno hp.1.2.2.1).elim
  ·exact (hno hp.1.2.2.1).elim
  ·exact hwt hp
  ·exact hwt hp
  ·exact (hp.1.2.2 i q hi).elim
  ·exact (hp.1.2.2 i q hi).elim
  ·exact (hp.1.2.2 i q hi).elim
  ·exact (hp.1.2.2 i q hi).elim
 rcases zGd h hi with ⟨k,m,hm⟩|⟨hm,h1,r,h2,h3,h4⟩
 ·have hp:=h.phase;unfold Cst.phase at hp;rw[hm] at hp;obtain⟨y1,y2,y3⟩:=hp.1.2.2.1 i;rw[hi] at y1 y2 y3
  cases q<;>first|exact absurd J y1|exact absurd J y2|exact absurd J y3|cases hq
 ·obtain⟨k1,k2,k3,k4⟩:=key r h3 hm;refine⟨hm,k1,k2,?_,k3,k4⟩;have:=h.cnt
  rw[hm,zKh fun j=>?_] at this
  ·exact this
  ·cases hj:σ.oth j with
   | none=>rfl
   | some p =>
    cases p with
    | wt p=>rfl
    | wk p =>
     have:=k1 j p hj;subst this;rw[hi] at hj
     cases hj
     exact hq
theorem jGb (h:Cok low σ) (hi:σ.oth i=some (.wk .l1)):(Cp low tW msg).Moves i σ [.access ⟨.cell ⟨σ.W,0,none⟩,false,true⟩] none (σ.turn i (some (.wk .l2)) σ.cnt σ.wtr σ.sem σ.car):=by
 have hi0:=xJ h hi;obtain⟨k0,k1,k2,k3,k4,_⟩:=zDm h hi J;refine wR h hi0 (h.turn_wk (p:=some .l2) hi J J J (Nat.le_refl _) (zA0 (p:=some .l2) h hi (Nat.le_refl _) (fun x=>((x.2.2.1 i).1 hi).elim) fun x=>⟨x.1,.inr (.inl ⟨k4 (.inl J),k2,i,.inr vI,zM8 k1⟩)⟩)) fun B hB=>?_;have hd:σ.ts.D i=1:=by rw[yH hi0 hi];rfl
 have hw:=wY h hi;refine⟨_,.cons (.atom hw.1 (xP hw.1 hB) (fun _=>by rw[hd];exact Nat.one_pos)) (by simp[MemAct.low,Loc.low,xP hw.1 hB]) .nil,fun q e=>?_,fun j _=>rfl,fun q _ _=>(zFq hi).2 J,fun j _ x=>x,fun c x=>(by rw[yE];exact x),fun e=>(by cases e)⟩
 cases e
 exact hd
theorem jFy (h:Cok low σ) (hi:σ.oth i=some (.wk .l2)):(Cp low tW msg).Moves i σ [.access ⟨.cell ⟨σ.W,0,none⟩,true,true⟩] none (σ.turn i (some (.wk .l3)) σ.cnt false σ.sem σ.car):=by
 have hi0:=xJ h hi;obtain⟨k0,k1,k2,k3,k4,_⟩:=zDm h hi J;refine wR h hi0 (h.turn_wk (p:=some .l3) hi J J J (Nat.le_refl _) (zA0 (p:=some .l3) h hi (Nat.le_refl _) (fun x=>((x.2.2.1 i).2.1 hi).elim) fun x=>⟨x.1,.inr (.inr (.inl ⟨rfl,k2,i,vI,zM8 k1⟩))⟩)) fun B hB=>?_;have hd:σ.ts.D i=1:=by rw[yH hi0 hi];rfl
 have hw:=wY h hi;refine⟨_,.cons (.atom hw.1 (xP hw.1 hB) (fun _=>by rw[hd];exact Nat.one_pos)) (by simp[MemAct.low,Loc.low,xP hw.1 hB]) .nil,fun q e=>?_,fun j _=>rfl,fun q _ _=>(zFq hi).2 J,fun j _ x=>x,fun c x=>(by rw[yE];exact x),fun e=>(by cases e)⟩
 cases e
 exact hd
def semActs (W:Nat):List MemAct:=[.mark .disable,.access ⟨.cell ⟨W,1,none⟩,false,true⟩,.access ⟨.cell ⟨W,1,none⟩,true,true⟩,.mark .enable]
theorem zR8 {Sh:Nat->Prop} {Ow g W:Nat} {s:Ts} (hW:Sh W) (hB:W<B):∃s1,Tqs Sh Ow B g s (semActs W) s1∧s1.Dn=s.Dn∧s1.Ca=s.Ca∧∀j,s1.D j=s.D j:=by
 refine⟨_,.cons .off (by simp[MemAct.low]) (.cons (.atom hW hB fun _=>by simp[Ts.deaf]) (by simp[MemAct.low,Loc.low,hB]) (.cons (.atom hW hB fun _=>by simp[Ts.deaf]) (by simp[MemAct.low,Loc.low,hB]) (.cons .on (by simp[MemAct.low]) .nil))),rfl,rfl,fun j=>?_⟩
 by_cases e:j=g
 ·subst e;simp[Ts.deaf]
 ·simp[Ts.deaf,e]
theorem jFz (h:Cok low σ) (hi:σ.oth i=some (.wk .l3)):(Cp low tW msg).Moves i σ (semActs σ.W) none (σ.turn i none σ.cnt σ.wtr true σ.car):=by
 have hi0:=xJ h hi;obtain⟨k0,k1,k2,k3,_,k4⟩:=zDm h hi J
 refine wR h hi0 (h.turn_wk (p:=none) hi J J J (Nat.le_refl _) (zA0 (p:=none) h hi (Nat.le_refl _) (fun x=>((x.2.2.1 i).2.2 hi).elim) fun x=>⟨x.1,.inr (.inr (.inr ⟨k4 J,rfl,fun j q hj=>?_⟩))⟩)) fun B hB=>?_
 ·by_cases e:j=i
  ·subst e;rw[vI] at hj;cases hj
  ·rw[vK e] at hj;exact e (k1 j q hj)
 have hw:=wY h hi;obtain⟨s1,h1,h2,h3,h4⟩:=zR8 (Ow:=σ.ow) (g:=i) (s:=σ.ts) (Sh:=(·∈σ.pubs)) hw.1 (xP hw.1 hB);exact⟨s1,h1,fun q e=>(by cases e),fun j _=>h4 j,fun q e=>(by cases e),fun j _ x=>(by rw[h2];exact x),fun c x=>(by rw[h3] at x;rw[yE];exact x),fun _=>by rw[h2];exact (zFq hi).2 J⟩
end
end
section
open Go.Conc
set_option linter.unusedVariables false
set_option linter.unusedSimpArgs false
section
variable {low:Nat} {tW:TypeId} {msg:Nat->Value} {σ σ':Cst} {i:Nat}
theorem vO (h:Cok low σ) {q:Wt} (hi:σ.oth i=some (.wt q)):i=σ.ow∧σ.mn=.hear∧σ.shut=false∧σ.at q:=by
 have e:=h.one i q hi;subst e;have hp:=h.phase;unfold Cst.phase at hp
 cases hm:σ.mn<;>rw[hm] at hp<;>dsimp only at hp
 ·have:=hp.1 σ.ow;rw[hi] at this;cases this
 ·have:=hp.1 σ.ow;rw[hi] at this;cases this
 ·have:=hp.1 σ.ow;rw[hi] at this;cases this
 ·exact (hp.2.1 _ _ hi).elim
 ·rcases hp with ⟨h1,p,h2,h3⟩|⟨_,x,_⟩
  ·rw[hi] at h2
   cases h2
   exact⟨rfl,rfl,h1,h3⟩
  ·rw[x σ.ow] at hi;cases hi
 ·rw[hp.1 σ.ow] at hi;cases hi
section
variable {q p:Wt} {cnt car:Nat} {wtr sem:Bool}
theorem zD8 (hi:σ.oth i=some (.wt q)) {j:Nat} {r:Wkr}:(σ.turn i (some (.wt p)) cnt wtr sem car).oth j=some (.wk r)↔σ.oth j=some (.wk r):=by
 by_cases e:j=i
 ·subst e;rw[vI,hi];simp
 ·rw[vK e]
theorem zGy (hi:σ.oth i=some (.wt q)) (h:σ.NoLast):(σ.turn i (some (.wt p)) cnt wtr sem car).NoLast:=fun j=>⟨fun e=>(h j).1 ((zD8 hi).1 e),fun e=>(h j).2.1 ((zD8 hi).1 e),fun e=>(h j).2.2 ((zD8 hi).1 e)⟩
theorem zDn (hi:σ.oth i=some (.wt q)) (h:σ.NoWk):(σ.turn i (some (.wt p)) cnt wtr sem car).NoWk:=fun j r e=>h j r ((zD8 hi).1 e)
theorem zR2 (hi:σ.oth i=some (.wt q)) {k:Nat} (h:σ.Only k):(σ.turn i (some (.wt p)) cnt wtr sem car).Only k:=fun j r e=>h j r ((zD8 hi).1 e)
theorem zI4 (hi:σ.oth i=some (.wt q)) (h:σ.early):(σ.turn i (some (.wt p)) cnt σ.wtr σ.sem σ.car).early:=⟨h.1,h.2.1,zGy hi h.2.2.1,h.2.2.2⟩
theorem jAw (hi:σ.oth i=some (.wt q)) (h:σ.wait):(σ.turn i (some (.wt p)) σ.cnt σ.wtr σ.sem σ.car).wait:=by
 refine⟨h.1,?_⟩
 rcases h.2 with ⟨x1,x2,x3,x4⟩|⟨x1,x2,j,x,x'⟩|⟨x1,x2,j,x,x'⟩|⟨x1,x2,x⟩
 ·exact .inl ⟨x1,x2,x3,zGy hi x4⟩
 ·exact .inr (.inl ⟨x1,x2,j,x.imp (zD8 hi).2 (zD8 hi).2,zR2 hi x'⟩)
 ·exact .inr (.inr (.inl ⟨x1,x2,j,(zD8 hi).2 x,zR2 hi x'⟩))
 ·exact .inr (.inr (.inr ⟨x1,x2,zDn hi x⟩))
theorem zX2 (h:Cok low σ) (hi:σ.oth i=some (.wt q)) (ha:(σ.turn i (some (.wt p)) cnt wtr sem car).at p):(σ.turn i (some (.wt p)) cnt wtr sem car).phase:=by
 obtain⟨h1,h2,h3,_⟩:=vO h hi;unfold Cst.phase;have hmn:(σ.turn i (some (.wt p)) cnt wtr sem car).mn=.hear:=h2;rw[hmn];refine .inl ⟨h3,p,?_,ha⟩;show (σ.turn i (some (.wt p)) cnt wtr sem car).oth σ.ow=_;rw[<-h1];exact vI
end
theorem zA5 (h:Cok low σ) {q:Wt} (hi:σ.oth i=some (.wt q)):σ.W∈σ.pubs∧σ.mn.hasW=true∧σ.d∈σ.pubs:=by
 obtain⟨_,h2,_,_⟩:=vO h hi;exact⟨h.hasW (by rw[h2];rfl),by rw[h2];rfl,(h.hasD (by rw[h2];rfl)).1⟩
theorem zCp (h:Cok low σ) {q p:Wt} {wtr sem:Bool} {car:Nat} {acts:List MemAct} (hi:σ.oth i=some (.wt q)) (ha:(σ.turn i (some (.wt p)) σ.cnt wtr sem car).at p)
  (hq:∀B,(∀b,b∈σ.pubs->b<B)->∃s1,Tqs (·∈σ.pubs) σ.ow B i σ.ts acts s1∧s1.D i=p.deaf∧(∀j,j≠i->s1.D j=σ.ts.D j)∧s1.Dn=σ.ts.Dn∧∀c,s1.Ca c->(σ.turn i (some (.wt p)) σ.cnt wtr sem car).ts.Ca c) :
  (Cp low tW msg).Moves i σ acts none (σ.turn i (some (.wt p)) σ.cnt wtr sem car):=by
 refine wR h (xJ h hi) (h.turn_wt (p:=some p) hi (zX2 h hi ha)) fun B hB=>?_;obtain⟨s1,h1,h2,h3,h4,h5⟩:=hq B hB;exact⟨s1,h1,fun q e=>(by cases e;exact h2),h3,fun q e=>(by cases e),fun j _ x=>(by rw[h4];exact x),h5,fun e=>(by cases e)⟩
theorem jCa (h:Cok low σ) (hi:σ.oth i=some (.wt .new)):(Cp low tW msg).Moves i σ [.mark .disable] none (σ.turn i (some (.wt (.load σ.cnt))) σ.cnt σ.wtr σ.sem σ.car):=by
 obtain⟨_,_,_,ha⟩:=vO h hi;refine zCp h hi ⟨zI4 hi ha,Nat.le_refl _⟩ fun B hB=>⟨_,.cons .off (by simp[MemAct.low]) .nil,?_,fun j e=>by simp[Ts.deaf,e],rfl,fun c x=>by rw[yE];exact x⟩;simp[Ts.deaf,yH (xJ h hi) hi,Ph.deaf,Wt.deaf]
theorem wL (h:Cok low σ) {q:Wt} (hi:σ.oth i=some (.wt q)) {o:Nat} (wr:Bool):∀B,(∀b,b∈σ.pubs->b<B)->Tq (·∈σ.pubs) σ.ow B i σ.ts (.access ⟨.cell ⟨σ.W,o,none⟩,wr,true⟩) σ.ts∧MemAct.low B (.access ⟨.cell ⟨σ.W,o,none⟩,wr,true⟩):=fun B hB =>
 ⟨.atom (zA5 h hi).1 (xP (zA5 h hi).1 hB) fun x=>(zK0 hi x).elim,by simp[MemAct.low,Loc.low,xP (zA5 h hi).1 hB]⟩
theorem zXl (h:Cok low σ) {n:Nat} (hi:σ.oth i=some (.wt (.load n))) (hc:σ.cnt=0):(Cp low tW msg).Moves i σ [.access ⟨.cell ⟨σ.W,0,none⟩,false,true⟩] none (σ.turn i (some (.wt .on)) σ.cnt σ.wtr σ.sem σ.car):=by
 obtain⟨_,hm,_,ha⟩:=vO h hi
 have hno:σ.NoWk:=fun j r hj=>by
  have h1:=h.cnt;have h2:σ.js.countP (fun j=>counts (σ.oth j))=0:=by omega
  have h3:=List.countP_eq_zero.1 h2 j ((h.jin j).2 ⟨r,hj⟩);obtain⟨y1,y2,y3⟩:=ha.1.2.2.1 j;rw[hj] at y1 y2 y3 h3
  cases r<;>first|exact y1 J|exact y2 J|exact y3 J|exact h3 J
 refine zCp h hi ⟨⟨ha.1.1,ha.1.2.1,zDn hi hno⟩,ha.1.2.2.2⟩ fun B hB=>⟨_,.cons (wL h hi false B hB).1 (wL h hi false B hB).2 .nil,?_,fun j _=>rfl,rfl,fun c x=>by rw[yE];exact x⟩;rw[yH (xJ h hi) hi]
 rfl
theorem zYx (h:Cok low σ) {n:Nat} (hi:σ.oth i=some (.wt (.load n))) (hc:0<σ.cnt):(Cp low tW msg).Moves i σ [.access ⟨.cell ⟨σ.W,0,none⟩,false,true⟩] none (σ.turn i (some (.wt (.cas σ.cnt))) σ.cnt σ.wtr σ.sem σ.car):=by
 obtain⟨_,hm,_,ha⟩:=vO h hi;refine zCp h hi ⟨zI4 hi ha.1,Nat.le_refl _,hc⟩ fun B hB=>⟨_,.cons (wL h hi false B hB).1 (wL h hi false B hB).2 .nil,?_,fun j _=>rfl,rfl,fun c x=>by rw[yE];exact x⟩;rw[yH (xJ h hi) hi]
 rfl
theorem jCk (h:Cok low σ) {n:Nat} (hi:σ.oth i=some (.wt (.cas n))) (hc:σ.cnt=n):(Cp low tW msg).Moves i σ [.access ⟨.cell ⟨σ.W,0,none⟩,false,true⟩,.access ⟨.cell ⟨σ.W,0,none⟩,true,true⟩] none (σ.turn i (some (.wt .writ)) σ.cnt true σ.sem σ.car):=by
 obtain⟨_,hm,_,ha⟩:=vO h hi
 refine zCp h hi ⟨ha.1.2.2.2,.inl ⟨rfl,ha.1.2.1,?_,zGy hi ha.1.2.2.1⟩⟩ fun B hB=>⟨_,.cons (wL h hi false B hB).1 (wL h hi false B hB).2 (.cons (wL h hi true B hB).1 (wL h hi true B hB).2 .nil),?_,fun j _=>rfl,rfl,fun c x=>by rw[yE];exact x⟩
 ·show 0<σ.cnt;rw[hc];exact ha.2.2
 ·rw[yH (xJ h hi) hi]
  rfl
theorem zXw (h:Cok low σ) {n:Nat} (hi:σ.oth i=some (.wt (.cas n))) (hc:σ.cnt≠n):(Cp low tW msg).Moves i σ [.access ⟨.cell ⟨σ.W,0,none⟩,false,true⟩] none (σ.turn i (some (.wt (.load (n-1)))) σ.cnt σ.wtr σ.sem σ.car):=by
 obtain⟨_,hm,_,ha⟩:=vO h hi
 refine zCp h hi ⟨zI4 hi ha.1,?_⟩ fun B hB=>⟨_,.cons (wL h hi false B hB).1 (wL h hi false B hB).2 .nil,?_,fun j _=>rfl,rfl,fun c x=>by rw[yE];exact x⟩
 ·have:=ha.2.1;show σ.cnt<=n-1;omega
 ·rw[yH (xJ h hi) hi]
  rfl
theorem zX4 (h:Cok low σ) (hi:σ.oth i=some (.wt .writ)):(Cp low tW msg).Moves i σ [.mark (.write ⟨σ.W,1,none⟩)] none (σ.turn i (some (.wt .sleep)) σ.cnt σ.wtr σ.sem σ.car):=by
 obtain⟨ho,hm,_,ha⟩:=vO h hi;refine zCp h hi (jAw hi ha) fun B hB=>⟨_,.cons (.writes (zA5 h hi).1 (xP (zA5 h hi).1 hB) ho (zK0 hi)) (by simp[MemAct.low,xP (zA5 h hi).1 hB]) .nil,?_,fun j _=>rfl,rfl,fun c x=>by rw[yE];exact x⟩;rw[yH (xJ h hi) hi]
 rfl
theorem jAh (h:Cok low σ) (hi:σ.oth i=some (.wt .sleep)) (hs:σ.sem=true):(Cp low tW msg).Moves i σ (semActs σ.W) none (σ.turn i (some (.wt .again)) σ.cnt σ.wtr false σ.car):=by
 obtain⟨ho,hm,_,ha⟩:=vO h hi
 refine zCp h hi ⟨⟨?_,rfl,?_⟩,ha.1⟩ fun B hB=>?_
 ·rcases ha.2 with ⟨_,x,_⟩|⟨_,x,_⟩|⟨x,_⟩|⟨x,_⟩
  ·rw[hs] at x;cases x
  ·rw[hs] at x;cases x
  ·exact x
  ·exact x
 ·rcases ha.2 with ⟨_,x,_⟩|⟨_,x,_⟩|⟨_,x,_⟩|⟨_,_,x⟩
  ·rw[hs] at x;cases x
  ·rw[hs] at x;cases x
  ·rw[hs] at x;cases x
  ·exact zDn hi x
 ·obtain⟨s1,h1,h2,h3,h4⟩:=zR8 (Ow:=σ.ow) (g:=i) (s:=σ.ts) (Sh:=(·∈σ.pubs)) (zA5 h hi).1 (xP (zA5 h hi).1 hB);exact⟨s1,h1,by rw[h4,yH (xJ h hi) hi];rfl,fun j _=>h4 j,h2,fun c x=>by rw[h3] at x;rw[yE];exact x⟩
theorem zVw (h:Cok low σ) (hi:σ.oth i=some (.wt .again)):(Cp low tW msg).Moves i σ [.access ⟨.cell ⟨σ.W,0,none⟩,false,true⟩] none (σ.turn i (some (.wt .on)) σ.cnt σ.wtr σ.sem σ.car):=by
 obtain⟨ho,hm,_,ha⟩:=vO h hi;refine zCp h hi ⟨⟨ha.1.1,ha.1.2.1,zDn hi ha.1.2.2⟩,ha.2⟩ fun B hB=>⟨_,.cons (wL h hi false B hB).1 (wL h hi false B hB).2 .nil,?_,fun j _=>rfl,rfl,fun c x=>by rw[yE];exact x⟩;rw[yH (xJ h hi) hi]
 rfl
theorem zWq (h:Cok low σ) (hi:σ.oth i=some (.wt .on)):(Cp low tW msg).Moves i σ [.mark .enable] none (σ.turn i (some (.wt .acq)) σ.cnt σ.wtr σ.sem σ.car):=by
 obtain⟨ho,hm,_,ha⟩:=vO h hi;refine zCp h hi ⟨⟨ha.1.1,ha.1.2.1,zDn hi ha.1.2.2⟩,ha.2⟩ fun B hB=>⟨_,.cons .on (by simp[MemAct.low]) .nil,?_,fun j e=>by simp[Ts.deaf,e],rfl,fun c x=>by rw[yE];exact x⟩;simp[Ts.deaf,yH (xJ h hi) hi,Ph.deaf,Wt.deaf]
theorem zR0 (h:Cok low σ) (hi:σ.oth i=some (.wt .acq)):(Cp low tW msg).Moves i σ [.mark (.acquire ⟨σ.W,0,none⟩)] none (σ.turn i (some (.wt .cls)) σ.cnt σ.wtr σ.sem 0):=by
 obtain⟨ho,hm,_,ha⟩:=vO h hi;have hd:σ.ts.D i=0:=by rw[yH (xJ h hi) hi];rfl
 refine zCp h hi ⟨⟨ha.1.1,ha.1.2.1,zDn hi ha.1.2.2⟩,rfl⟩ fun B hB=>⟨_,.cons (.acquire hd (zK0 hi)) (by simp[MemAct.low,xP (zA5 h hi).1 hB]) .nil,hd,fun j _=>rfl,rfl,fun c x=>absurd (zW2 ha.2 x.1) x.2⟩
theorem zPj (h:Cok low σ) (hm:σ.mn=.hear) (hl:σ.NoWk):σ.cnt=0:=by
 have:=h.cnt
 rw[hm,zKh fun j=>?_] at this
 ·exact this
 ·cases hj:σ.oth j with
  | none=>rfl
  | some p =>
   cases p with
   | wt p=>rfl
   | wk p=>exact (hl j p hj).elim
theorem zJ9 (hm:σ.mn=.hear) (h:(σ.shut=false∧∃p,σ.oth σ.ow=some (.wt p)∧σ.at p)∨(σ.shut=true∧(∀j,σ.oth j=none)∧σ.car=2∧σ.wtr=false∧σ.sem=false)):σ.phase:=by
 unfold Cst.phase;rw[hm];exact h
theorem jCc (h:Cok low σ) (hi:σ.oth i=some (.wt .cls)):(Cp low tW msg).Moves i σ [.access ⟨.obj σ.d,false,true⟩,.close σ.d] (some σ.d) {σ.turn i none σ.cnt σ.wtr σ.sem 2 with shut:=true}:=by
 obtain⟨ho,hm,_,ha⟩:=vO h hi;have hi0:=xJ h hi;have hd:σ.ts.D i=0:=by rw[yH hi0 hi];rfl
 have hij:i∉σ.js:=fun e=>by obtain⟨q',x⟩:=(h.jin i).1 e;rw[hi] at x;cases x
 have hnone:∀j,(if j=i then none else σ.oth j)=none:=fun j=>by
  by_cases e:j=i
  ·rw[if_pos e]
  ·rw[if_neg e]
   cases hj:σ.oth j with
   | none=>rfl
   | some p =>
    cases p with
    | wk r=>exact (ha.1.2.2 j r hj).elim
    | wt r=>exact (e ((h.one j r hj).trans ho.symm)).elim
 have hjs:σ.js=[]:=by
  cases hjs:σ.js with
  | nil=>rfl
  | cons a l =>
   obtain⟨r,hr⟩:=(h.jin a).1 (by rw[hjs];simp);exact (ha.1.2.2 a r hr).elim
 have hjs':(σ.turn i none σ.cnt σ.wtr σ.sem 2).js=[]:=by simp[Cst.turn,isWk,hjs]
 have hD:=h.hasD (by rw[hm];rfl);have hF:=h.hasF (by rw[hm];rfl)
 refine⟨⟨?_,hnone 0,fun j=>?_,fun j p hj=>?_,h.lows,h.hasW,h.hasF,h.hasD,h.small,?_,?_,?_⟩,fun j hj=>?_,rfl,rfl,fun c=>?_,fun c hc=>⟨?_,fun j hj=>?_⟩,rfl,fun j hj=>?_,fun B hB=>?_⟩
 ·show (σ.turn i none σ.cnt σ.wtr σ.sem 2).js.Nodup;rw[hjs'];exact List.nodup_nil
 ·show j∈(σ.turn i none σ.cnt σ.wtr σ.sem 2).js↔_;rw[hjs']
  constructor
  ·intro x;cases x
  ·rintro⟨p,hp⟩;have:=(hnone j).symm.trans hp
   cases this
 ·have:=(hnone j).symm.trans hj
  cases this
 ·show σ.cnt=(σ.turn i none σ.cnt σ.wtr σ.sem 2).js.countP _+σ.mn.more;rw[hjs',hm,zPj h hm ha.1.2.2]
  rfl
 ·show σ.owed.Perm ((σ.turn i none σ.cnt σ.wtr σ.sem 2).js.flatMap _);rw[hjs'];have:=h.owed;rw[hjs] at this;exact this
 ·exact zJ9 hm (.inr ⟨rfl,hnone,rfl,ha.1.1,ha.1.2.1⟩)
 ·show Cst.gh _ j=Cst.gh σ j;unfold Cst.gh;have e:({σ.turn i none σ.cnt σ.wtr σ.sem 2 with shut:=true}:Cst).oth j=σ.oth j:=if_neg hj;rw[e]
  rfl
 ·simp only[Cp];have e1:({σ.turn i none σ.cnt σ.wtr σ.sem 2 with shut:=true}:Cst).mn=.hear:=hm;have e2:({σ.turn i none σ.cnt σ.wtr σ.sem 2 with shut:=true}:Cst).f=σ.f:=rfl;have e3:({σ.turn i none σ.cnt σ.wtr σ.sem 2 with shut:=true}:Cst).d=σ.d:=rfl;rw[e1,e2,e3,hm]
  by_cases x1:c=σ.d
  ·subst x1;have x2:σ.d≠σ.f:=hD.2.2;simp[Mn.hasF,Mn.hasD,x2]
  ·have x3:σ.d≠c:=Ne.symm x1;simp[Mn.hasF,Mn.hasD,x1,x3]
 ·cases hc
  have x2:σ.d≠σ.f:=hD.2.2;simp[Cp,hm,Mn.hasF,Mn.hasD,x2]
 ·exact zBq hj hnone
 ·show (∃p':Wkr,_∧_)↔∃p':Wkr,_∧_;have e:({σ.turn i none σ.cnt σ.wtr σ.sem 2 with shut:=true}:Cst).oth j=σ.oth j:=if_neg hj;rw[e]
 ·refine⟨_,.cons (.objr hD.1 (hB _ hD.1) fun x=>(zK0 hi x).elim) (by simp[MemAct.low,Loc.low,hB _ hD.1]) (.cons (.close hd (hB _ hD.1)) (by simp[MemAct.low,hB _ hD.1]) .nil),fun j hj=>?_,fun j hj=>?_,fun c x=>?_,fun _=>.inr J⟩
  ·obtain rfl:=zBq hj hnone;simp[Cp,Cst.ts,Ts.gives,Ts.done,Cst.turn]
  ·obtain⟨r,hr,_⟩:=hj;have:=(hnone j).symm.trans hr
   cases this
  ·rcases x with x|x
   ·rcases x with ⟨x,_⟩|⟨x,_⟩
    ·rw[ha.2] at x;cases x
    ·rw[ha.2] at x;cases x
   ·exact .inr ⟨rfl,x⟩
end
variable {d e f k m:Nat}
section
variable {low:Nat} {tW:TypeId} {msg:Nat->Value} {σ σ':Cst} {i:Nat}
theorem jB6 (h:σ.gh 0=some [0]):σ.mn=.rest:=by
 rw[zBi] at h
 cases hm:σ.mn<;>rw[hm] at h<;>simp[Mn.enc] at h
theorem jFb {W:Nat} (h:σ.gh 0=some [1,W]):σ.mn=.sh1∧W=σ.W:=by
 rw[zBi] at h
 cases hm:σ.mn<;>rw[hm] at h<;>simp[Mn.enc] at h
 exact⟨rfl,h.symm⟩
theorem jEh {W:Nat} (h:σ.gh 0=some [2,W,f]):σ.mn=.sh2∧W=σ.W∧f=σ.f:=by
 rw[zBi] at h
 cases hm:σ.mn<;>rw[hm] at h<;>simp[Mn.enc] at h
 exact⟨rfl,h.1.symm,h.2.symm⟩
theorem zH4 {W:Nat} {o:List Nat} (h:σ.gh 0=some (3::W::f::d::k::m::e::o)):σ.mn=.hire k m∧W=σ.W∧f=σ.f∧d=σ.d∧o=σ.owed∧e=cde σ.lent:=by
 rw[zBi] at h
 cases hm:σ.mn<;>rw[hm] at h<;>simp[Mn.enc] at h
 obtain⟨rfl,rfl,rfl,rfl,rfl,rfl,rfl⟩:=h;exact⟨rfl,rfl,rfl,rfl,rfl,rfl⟩
theorem jA6 {W:Nat} (h:σ.gh 0=some [5,W,f,d,e]):σ.mn=.over∧W=σ.W∧f=σ.f∧d=σ.d∧e=cde σ.lent:=by
 rw[zBi] at h
 cases hm:σ.mn<;>rw[hm] at h<;>simp[Mn.enc] at h
 exact⟨rfl,h.1.symm,h.2.1.symm,h.2.2.1.symm,h.2.2.2.symm⟩
theorem zB9 (h:Cok low σ) (hm:σ.mn=.rest∨σ.mn=.sh1∨σ.mn=.sh2):σ.blank:=by
 have hp:=h.phase;unfold Cst.phase at hp;rcases hm with hm|hm|hm<;>rw[hm] at hp<;>exact hp
theorem zDh (h:Cok low σ) {k m:Nat} (hm:σ.mn=.hire k m):σ.early∧(∀j p,σ.oth j≠some (.wt p))∧σ.shut=false∧σ.ow=0∧σ.js.length<=m:=by
 have hp:=h.phase;unfold Cst.phase at hp;rw[hm] at hp;exact hp
theorem zGc (hm:σ.mn=.hire k m) (h:σ.early∧(∀j p,σ.oth j≠some (.wt p))∧σ.shut=false∧σ.ow=0∧σ.js.length<=m):σ.phase:=by
 unfold Cst.phase;rw[hm];exact h
def Cst.step (σ:Cst) (k m cnt:Nat):Cst:={σ with mn:=.hire k m,cnt:=cnt}
theorem zIe (h:Cok low σ) {k k' m cnt:Nat} {acts:List MemAct} (hm:σ.mn=.hire k m) (hc:cnt+(Mn.hire k m).more=σ.cnt+(Mn.hire k' m).more) (hs:cnt<1000000)
  (hq:∀B,(∀b,b∈σ.pubs->b<B)->∃s1,Tqs (·∈σ.pubs) σ.ow B 0 σ.ts acts s1∧s1.D 0=(Mn.hire k' m).deaf∧(∀j,j≠0->s1.D j=σ.ts.D j)∧s1.Dn=σ.ts.Dn∧∀c,s1.Ca c->σ.ts.Ca c) :
  (Cp low tW msg).Moves 0 σ acts none (σ.step k' m cnt):=by
 have hp:=zDh h hm
 refine⟨⟨h.nodup,h.zero,h.jin,h.one,h.lows,fun _=>h.hasW (by rw[hm];rfl),fun _=>h.hasF (by rw[hm];rfl),fun _=>h.hasD (by rw[hm];rfl),hs,?_,h.owed,zGc (σ:=σ.step k' m cnt) J hp⟩,fun j hj=>?_,rfl,rfl,fun c=>?_,fun c hc=>(by cases hc),rfl,fun j _=>Iff.rfl,fun B hB=>?_⟩
 ·have:=h.cnt;rw[hm] at this;show cnt=σ.js.countP (fun j=>counts (σ.oth j))+(Mn.hire k' m).more;omega
 ·show Cst.gh _ j=Cst.gh σ j;unfold Cst.gh;rw[if_neg hj,if_neg hj]
  rfl
 ·rw[if_neg (by simp)];simp[Cp,Cst.step,hm,Mn.hasF,Mn.hasD]
 ·obtain⟨s1,h1,h2,h3,h4,h5⟩:=hq B hB;refine⟨s1,h1,fun j hj=>?_,fun j hj=>by rw[h4];exact hj,h5,fun e=>by cases e⟩
  by_cases e:j=0
  ·subst e;rw[h2]
   rfl
  ·rw[h3 j e];simp[Cp,Cst.ts,e,Cst.step]
theorem zE7 (hm:σ.mn=.hire k m):σ.ts.D 0=(Mn.hire k m).deaf:=by simp[Cst.ts,hm]
theorem jCf (h:Cok low σ) {m:Nat} (hm:σ.mn=.hire 0 m):(Cp low tW msg).Moves 0 σ [.mark .disable] none (σ.step 1 m σ.cnt):=by
 refine zIe h hm J h.small fun B hB=>⟨_,.cons .off (by simp[MemAct.low]) .nil,?_,fun j e=>by simp[Ts.deaf,e],rfl,fun c x=>x⟩;simp[Ts.deaf,zE7 hm,Mn.deaf]
theorem zR9 (h:Cok low σ) {m k:Nat} (hm:σ.mn=.hire 1 m) (hk:k=2∨k=3) (hs:m+1<1000000):(Cp low tW msg).Moves 0 σ [.access ⟨.cell ⟨σ.W,0,none⟩,false,true⟩,.access ⟨.cell ⟨σ.W,0,none⟩,true,true⟩] none (σ.step k m (σ.cnt+1)):=by
 have hw:=h.hasW (by rw[hm];rfl);have hp:=zDh h hm
 have hle:σ.cnt<=m:=by
  have:=h.cnt;rw[hm] at this;have h2:σ.js.countP (fun j=>counts (σ.oth j))<=σ.js.length:=List.countP_le_length;have h3:(Mn.hire 1 m).more=0:=rfl;omega
 have hd:σ.ts.D 0=1:=by rw[zE7 hm];rfl
 refine zIe h hm ?_ (by omega) fun B hB=>⟨_,.cons (.atom hw (xP hw hB) fun _=>by rw[hd];exact Nat.one_pos) (by simp[MemAct.low,Loc.low,xP hw hB]) (.cons (.atom hw (xP hw hB) fun _=>by rw[hd];exact Nat.one_pos) (by simp[MemAct.low,Loc.low,xP hw hB]) .nil),?_,fun j _=>rfl,rfl,fun c x=>x⟩
 ·rcases hk with rfl|rfl<;>simp[Mn.more]
 ·rw[hd];rcases hk with rfl|rfl<;>rfl
theorem zZf (h:Cok low σ) {m:Nat} (hm:σ.mn=.hire 2 m):(Cp low tW msg).Moves 0 σ [.mark (.read ⟨σ.W,1,none⟩)] none (σ.step 3 m σ.cnt):=by
 have hw:=h.hasW (by rw[hm];rfl);have hp:=zDh h hm
 refine zIe h hm J h.small fun B hB=>⟨_,.cons (.reads hw (xP hw hB) hp.2.2.2.1.symm ?_) (by simp[MemAct.low,xP hw hB]) .nil,?_,fun j _=>rfl,rfl,fun c x=>x⟩
 ·rintro⟨p,x,_⟩;rw[h.zero] at x
  cases x
 ·rw[zE7 hm]
  rfl
theorem jE7 (h:Cok low σ) {m:Nat} (hm:σ.mn=.hire 3 m):(Cp low tW msg).Moves 0 σ [.mark .enable] none (σ.step 4 m σ.cnt):=by
 refine zIe h hm J h.small fun B hB=>⟨_,.cons .on (by simp[MemAct.low]) .nil,?_,fun j e=>by simp[Ts.deaf,e],rfl,fun c x=>x⟩;simp[Ts.deaf,zE7 hm,Mn.deaf]
def Cst.hired (σ:Cst) (n m:Nat) (l sl:List Nat):Cst:={σ with mn:=.hire 0 (m+1),owed:=σ.owed++l,js:=n::σ.js,oth:=fun j=>if j=n then some (.wk (.send l)) else σ.oth j,lent:=σ.lent++sl}
theorem zM2 (h:Cok low σ) {n:Nat} (hn:n≠0) (hg:σ.gh n=none):σ.oth n=none:=by
 unfold Cst.gh at hg;rw[if_neg hn] at hg
 cases ho:σ.oth n with
 | none=>rfl
 | some p=>rw[ho] at hg;cases hg
theorem jCd (h:Cok low σ) {m n:Nat} {l sl:List Nat} (hm:σ.mn=.hire 4 m) (hn:n≠0) (hg:σ.oth n=none) :
  Hires (Cp low tW msg) n σ sl (3::σ.W::σ.f::σ.d::0::(m+1)::cde (σ.lent++sl)::(σ.owed++l)) (10::σ.W::σ.f::l) (σ.hired n m l sl):=by
 have hp:=zDh h hm;have hnj:n∉σ.js:=fun x=>by obtain⟨p,hp⟩:=(h.jin n).1 x;rw[hg] at hp;cases hp
 have hoff:∀j∈σ.js,(if j=n then some (Ph.wk (.send l)) else σ.oth j)=σ.oth j:=fun j hj=>by
  have:j≠n:=fun e=>hnj (e▸hj);rw[if_neg this]
 refine⟨⟨List.nodup_cons.2 ⟨hnj,h.nodup⟩,by rw[show (σ.hired n m l sl).oth 0=_ from if_neg (Ne.symm hn)];exact h.zero,fun j=>?_,fun j p hj=>?_,h.lows,fun _=>h.hasW (by rw[hm];rfl),fun _=>h.hasF (by rw[hm];rfl),fun _=>h.hasD (by rw[hm];rfl),h.small,?_,?_,zGc (σ:=σ.hired n m l sl) J ⟨⟨hp.1.1,hp.1.2.1,fun j=>?_,hp.1.2.2.2⟩,fun j p=>?_,hp.2.2.1,hp.2.2.2.1,?_⟩⟩,rfl,?_,fun j hj0 hjn=>?_,fun j hj=>?_,?_,?_,?_,rfl,.inl J,rfl,?_,?_,rfl⟩
 ·by_cases e:j=n
  ·subst e;simp[Cst.hired]
  ·simp[Cst.hired,e,h.jin j]
 ·by_cases e:j=n
  ·subst e;simp[Cst.hired] at hj
  ·simp only[Cst.hired,e,if_false] at hj;exact h.one j p hj
 ·have:=h.cnt;rw[hm] at this;have h3:(Mn.hire 4 m).more=1:=rfl;have h4:(Mn.hire 0 (m+1)).more=0:=rfl;have h5:σ.js.countP (fun j=>counts (if j=n then some (Ph.wk (.send l)) else σ.oth j))=σ.js.countP fun j=>counts (σ.oth j):=List.countP_congr fun j hj=>by rw[hoff j hj]
  simp only[Cst.hired,List.countP_cons,if_true,h4,h5];rw[if_pos (show counts (some (Ph.wk (.send l)))=true from rfl)];omega
 ·have h5:σ.js.flatMap (fun j=>leftOf (if j=n then some (Ph.wk (.send l)) else σ.oth j))=σ.js.flatMap fun j=>leftOf (σ.oth j):=by
   simp only[List.flatMap];rw[List.map_congr_left fun j hj=>by rw[hoff j hj]]
  simp only[Cst.hired,List.flatMap_cons,if_true,h5];simp only[leftOf];exact (h.owed.append_right l).trans List.perm_append_comm
 ·by_cases e:j=n
  ·subst e;simp[Cst.hired]
  ·simp only[Cst.hired,e,if_false];exact hp.1.2.2.1 j
 ·by_cases e:j=n
  ·subst e;simp[Cst.hired]
  ·simp only[Cst.hired,e,if_false];exact hp.2.1 j p
 ·simp only[Cst.hired,List.length_cons];have:=hp.2.2.2.2;omega
 ·exact zB7 (σ:=σ.hired n m l sl) (p:=.wk (.send l)) hn (by simp[Cst.hired])
 ·show Cst.gh _ j=Cst.gh σ j;simp[Cst.gh,hj0,Cst.hired,hjn]
 ·simp only[Cp,Cst.ts,Cst.hired]
  by_cases e0:j=0
  ·subst e0;have:(0:Nat)≠n:=Ne.symm hn;simp[this,hm,Mn.deaf]
  ·by_cases e:j=n
   ·subst e;simp[e0,Ph.deaf,Wkr.deaf]
   ·simp[e0,e]
 ·show σ.ts.D 0=0;rw[zE7 hm]
  rfl
 ·simp only[Cp,Cst.ts,Cst.hired]
  funext j
  by_cases e:j=n
  ·subst e;simp[hg,Wkr.quiet]
  ·simp[e]
 ·rintro⟨p,x,_⟩;rw[hg] at x
  cases x
 ·funext b
  simp[Cp,Cst.hired,hm,Mn.hasW,Cst.cells,Cst.state]
 ·funext b
  simp[Cp,Cst.hired,hm,Mn.hasF,Mn.hasD]
def Cst.manned (σ:Cst) (n:Nat) (sl:List Nat):Cst:={σ with mn:=.hear,ow:=n,oth:=fun j=>if j=n then some (.wt .new) else σ.oth j,lent:=σ.lent++sl}
theorem jE9 (h:Cok low σ) {m n:Nat} {sl:List Nat} (hm:σ.mn=.hire 0 m) (hn:n≠0) (hg:σ.oth n=none) :
  Hires (Cp low tW msg) n σ sl (4::σ.W::σ.f::σ.d::cde (σ.lent++sl)::σ.owed) [20,σ.W,σ.d] (σ.manned n sl):=by
 have hp:=zDh h hm;have hnj:n∉σ.js:=fun x=>by obtain⟨p,hp⟩:=(h.jin n).1 x;rw[hg] at hp;cases hp
 have hoff:∀j∈σ.js,(if j=n then some (Ph.wt .new) else σ.oth j)=σ.oth j:=fun j hj=>by
  have:j≠n:=fun e=>hnj (e▸hj);rw[if_neg this]
 have hwk:∀j (r:Wkr),(σ.manned n sl).oth j=some (.wk r)↔σ.oth j=some (.wk r):=fun j r=>by
  by_cases e:j=n
  ·subst e;simp[Cst.manned,hg]
  ·simp[Cst.manned,e]
 refine⟨⟨h.nodup,by rw[show (σ.manned n sl).oth 0=_ from if_neg (Ne.symm hn)];exact h.zero,fun j=>?_,fun j p hj=>?_,h.lows,fun _=>h.hasW (by rw[hm];rfl),fun _=>h.hasF (by rw[hm];rfl),fun _=>h.hasD (by rw[hm];rfl),h.small,?_,?_,zJ9 (σ:=σ.manned n sl) J (.inl ⟨hp.2.2.1,.new,by simp[Cst.manned],hp.1.1,hp.1.2.1,fun j=>?_,hp.1.2.2.2⟩)⟩,rfl,?_,fun j hj0 hjn=>?_,fun j hj=>?_,?_,?_,?_,rfl,.inr ⟨hp.2.2.2.1,rfl⟩,rfl,?_,?_,rfl⟩
 ·rw[show (σ.manned n sl).js=σ.js from rfl,h.jin j];exact⟨fun⟨p,hp⟩=>⟨p,(hwk j p).2 hp⟩,fun⟨p,hp⟩=>⟨p,(hwk j p).1 hp⟩⟩
 ·by_cases e:j=n
  ·exact e
  ·simp only[Cst.manned,e,if_false] at hj;exact (hp.2.1 j p hj).elim
 ·have:=h.cnt;rw[hm] at this;have h5:σ.js.countP (fun j=>counts (if j=n then some (Ph.wt .new) else σ.oth j))=σ.js.countP fun j=>counts (σ.oth j):=List.countP_congr fun j hj=>by rw[hoff j hj]
  simp only[Cst.manned,h5];exact this
 ·have h5:σ.js.flatMap (fun j=>leftOf (if j=n then some (Ph.wt .new) else σ.oth j))=σ.js.flatMap fun j=>leftOf (σ.oth j):=by
   simp only[List.flatMap];rw[List.map_congr_left fun j hj=>by rw[hoff j hj]]
  simp only[Cst.manned,h5];exact h.owed
 ·exact⟨fun e=>(hp.1.2.2.1 j).1 ((hwk j _).1 e),fun e=>(hp.1.2.2.1 j).2.1 ((hwk j _).1 e),fun e=>(hp.1.2.2.1 j).2.2 ((hwk j _).1 e)⟩
 ·exact zB7 (σ:=σ.manned n sl) (p:=.wt .new) hn (by simp[Cst.manned])
 ·show Cst.gh _ j=Cst.gh σ j;simp[Cst.gh,hj0,Cst.manned,hjn]
 ·simp only[Cp,Cst.ts,Cst.manned]
  by_cases e0:j=0
  ·subst e0;have:(0:Nat)≠n:=Ne.symm hn;simp[this,hm,Mn.deaf]
  ·by_cases e:j=n
   ·subst e;simp[e0,Ph.deaf,Wt.deaf]
   ·simp[e0,e]
 ·show σ.ts.D 0=0;rw[zE7 hm]
  rfl
 ·simp only[Cp,Cst.ts,Cst.manned]
  funext j
  by_cases e:j=n
  ·subst e;simp[hg]
  ·simp[e]
 ·rintro⟨p,x,_⟩;rw[hg] at x
  cases x
 ·funext b
  simp[Cp,Cst.manned,hm,Mn.hasW,Cst.cells,Cst.state]
 ·funext b
  simp[Cp,Cst.manned,hm,Mn.hasF,Mn.hasD]
theorem zCj (h:Cok low σ) (hb:∀j,σ.oth j=none) (hd:σ.ts.D 0=0):Alone (Cp low tW msg) σ:=⟨fun j hj=>zBq hj hb,hd⟩
theorem jC5 (h:Cok low σ) (hm:σ.mn=.rest) {b:Nat} (hb:low<=b):Shares (Cp low tW msg) σ b (.cells #[.int .u64 0,.int .u32 0] tW (0,0)) [1,b] {σ with mn:=.sh1,W:=b,pubs:=b::σ.pubs}:=by
 have hp:=zB9 h (.inl hm)
 have hc:σ.cnt=0:=by
  have:=h.cnt;rw[hp.2.1,hm] at this;exact this
 refine⟨⟨h.nodup,h.zero,h.jin,h.one,fun k hk=>?_,fun _=>by simp,fun x=>(by cases x),fun x=>(by cases x),h.small,?_,h.owed,hp⟩,rfl,fun j hj=>zBr (σ:={σ with mn:=.sh1,W:=b,pubs:=b::σ.pubs}) hj (hp.1 j),?_,hp.2.2.2.2.2.2.2.1,hp.2.2.2.2.2.2.2.1,?_,fun k=>?_,fun k x hk=>?_,fun c x hk=>?_,rfl⟩
 ·rcases List.mem_cons.1 hk with rfl|hk
  ·exact hb
  ·exact h.lows k hk
 ·have:=h.cnt;rw[hm] at this;exact this
 ·simp[Cp,Cst.ts,hp.2.2.2.2.2.2.1,hm,Mn.deaf]
 ·show b∉σ.lent;rw[hp.2.2.2.2.2.2.2.2];simp
 ·show k∈b::σ.pubs↔_;rw[List.mem_cons];exact Or.comm
 ·simp only[Cp,Mn.hasW,true_and] at hk
  split at hk
  ·rename_i e;refine .inr ⟨e,?_⟩
   cases hk
   simp[Cst.cells,Cst.state,hc,hp.2.2.2.1,hp.2.2.2.2.1]
  ·cases hk
 ·simp[Cp,Mn.hasF,Mn.hasD] at hk
theorem jEk (h:Cok low σ) (hm:σ.mn=.sh1) {b:Nat} (hb:low<=b) (hW:b≠σ.W):Shares (Cp low tW msg) σ b (.chan 0 #[] false 0 0 false) [2,σ.W,b] {σ with mn:=.sh2,f:=b,pubs:=b::σ.pubs}:=by
 have hp:=zB9 h (.inr (.inl hm))
 refine⟨⟨h.nodup,h.zero,h.jin,h.one,fun k hk=>?_,fun _=>List.mem_cons_of_mem _ (h.hasW (by rw[hm];rfl)),fun _=>⟨by simp,hW⟩,fun x=>(by cases x),h.small,?_,h.owed,hp⟩,rfl,fun j hj=>zBr (σ:={σ with mn:=.sh2,f:=b,pubs:=b::σ.pubs}) hj (hp.1 j),?_,hp.2.2.2.2.2.2.2.1,hp.2.2.2.2.2.2.2.1,?_,fun k=>?_,fun k x hk=>?_,fun c x hk=>?_,rfl⟩
 ·rcases List.mem_cons.1 hk with rfl|hk
  ·exact hb
  ·exact h.lows k hk
 ·have:=h.cnt;rw[hm] at this;exact this
 ·simp[Cp,Cst.ts,hp.2.2.2.2.2.2.1,hm,Mn.deaf]
 ·show b∉σ.lent;rw[hp.2.2.2.2.2.2.2.2];simp
 ·show k∈b::σ.pubs↔_;rw[List.mem_cons];exact Or.comm
 ·refine .inl ?_;simp only[Cp,Mn.hasW,true_and,hm,Cst.cells,Cst.state] at hk ⊢;exact hk
 ·simp only[Cp,Mn.hasF,Mn.hasD,true_and,Bool.false_eq_true,false_and,if_false] at hk
  split at hk
  ·rename_i e
   cases hk
   exact .inr ⟨e,0,rfl⟩
  ·cases hk
theorem jDo (h:Cok low σ) (hm:σ.mn=.sh2) {b:Nat} (hb:low<=b) (hW:b≠σ.W) (hf:b≠σ.f):Shares (Cp low tW msg) σ b (.chan 0 #[] false 0 0 false) (3::σ.W::σ.f::b::0::0::0::[]) {σ with mn:=.hire 0 0,d:=b,pubs:=b::σ.pubs}:=by
 have hp:=zB9 h (.inr (.inr hm));have hF:=h.hasF (by rw[hm];rfl)
 refine⟨⟨h.nodup,h.zero,h.jin,h.one,fun k hk=>?_,fun _=>List.mem_cons_of_mem _ (h.hasW (by rw[hm];rfl)),fun _=>⟨List.mem_cons_of_mem _ hF.1,hF.2⟩,fun _=>⟨by simp,hW,hf⟩,h.small,?_,h.owed,?_⟩,?_,fun j hj=>zBr (σ:={σ with mn:=.hire 0 0,d:=b,pubs:=b::σ.pubs}) hj (hp.1 j),?_,hp.2.2.2.2.2.2.2.1,hp.2.2.2.2.2.2.2.1,?_,fun k=>?_,fun k x hk=>?_,fun c x hk=>?_,rfl⟩
 ·rcases List.mem_cons.1 hk with rfl|hk
  ·exact hb
  ·exact h.lows k hk
 ·have:=h.cnt;rw[hm] at this;exact this
 ·refine zGc (k:=0) (m:=0) J ⟨⟨hp.2.2.2.1,hp.2.2.2.2.1,fun j=>?_,?_⟩,fun j p=>?_,hp.2.2.2.2.2.1,hp.2.2.2.2.2.2.2.1,?_⟩
  ·show σ.oth j≠_∧_;rw[show ({σ with mn:=.hire 0 0,d:=b,pubs:=b::σ.pubs}:Cst).oth j=none from hp.1 j];simp
  ·show σ.car<=1;rw[hp.2.2.2.2.2.2.1];exact Nat.zero_le _
  ·show σ.oth j≠_;rw[hp.1 j];simp
  ·show σ.js.length<=0;rw[hp.2.1];exact Nat.le_refl _
 ·show some (Mn.enc _ _ _ _ _ _)=_;simp[Mn.enc,hp.2.2.1,hp.2.2.2.2.2.2.2.2,cde]
 ·simp[Cp,Cst.ts,hp.2.2.2.2.2.2.1,hm,Mn.deaf]
 ·show b∉σ.lent;rw[hp.2.2.2.2.2.2.2.2];simp
 ·show k∈b::σ.pubs↔_;rw[List.mem_cons];exact Or.comm
 ·refine .inl ?_;simp only[Cp,Mn.hasW,true_and,hm,Cst.cells,Cst.state] at hk ⊢;exact hk
 ·simp only[Cp,Mn.hasF,Mn.hasD,true_and] at hk
  split at hk
  ·rename_i e
   cases hk
   refine .inl ?_;simp[Cp,hm,Mn.hasF,e]
  ·split at hk
   ·rename_i _ e
    cases hk
    exact .inr ⟨e,0,by rw[show σ.shut=false from hp.2.2.2.2.2.1]⟩
   ·cases hk
theorem jAj (h:Cok low σ) {W f d e:Nat} {o:List Nat} (hg:σ.gh 0=some (4::W::f::d::e::o)) {c:Nat} (hc:(Cp low tW msg).ch σ c=some true):c=d∧o=[]∧Finds (Cp low tW msg) σ c [5,W,f,d,e] {σ with mn:=.over,car:=0}:=by
 obtain⟨hm,rfl,rfl,rfl,rfl,rfl⟩:=zIc hg
 have hcd:c=σ.d∧σ.shut=true:=by
  simp only[Cp] at hc
  split at hc
  ·cases hc
  ·split at hc
   ·rename_i e;exact⟨e.2,by simpa using hc⟩
   ·cases hc
 have hp:=h.phase;unfold Cst.phase at hp;rw[hm] at hp
 rcases hp with ⟨x,_⟩|⟨_,hno,hcar,hw,hs⟩
 ·rw[hcd.2] at x;cases x
 have ho:σ.owed=[]:=by
  have:=h.owed
  have e:σ.js.flatMap (fun j=>leftOf (σ.oth j))=[]:=by
   rw[List.flatMap_eq_nil_iff];intro j _;rw[hno j]
   rfl
  rw[e] at this;exact this.eq_nil
 refine⟨hcd.1,ho,⟨h.nodup,h.zero,h.jin,h.one,h.lows,fun _=>h.hasW (by rw[hm];rfl),fun _=>h.hasF (by rw[hm];rfl),fun _=>h.hasD (by rw[hm];rfl),h.small,?_,h.owed,hno,rfl⟩,rfl,fun j hj=>zBr (σ:={σ with mn:=.over,car:=0}) hj (hno j),⟨h.deaf_hear hm,rfl⟩,fun x hx hne=>?_,rfl,rfl,?_,?_,rfl⟩
 ·have:=h.cnt;rw[hm] at this;exact this
 ·rcases hx with ⟨x1,_⟩|⟨_,x1⟩
  ·rw[hcar] at x1;cases x1
  ·exact absurd (x1.trans (congrArg Car.cls hcd.1.symm)) hne
 ·funext b
  simp[Cp,hm,Mn.hasW,Cst.cells,Cst.state]
 ·funext b
  simp[Cp,hm,Mn.hasF,Mn.hasD]
theorem zVv (h:Cok low σ) (hm:σ.mn=.over):Alone (Cp low tW msg) σ∧Settles (Cp low tW msg) σ [0] {σ with mn:=.rest,owed:=[],js:=[],cnt:=0,wtr:=false,sem:=false,shut:=false,car:=0,ow:=0,lent:=[]}:=by
 have hp:=h.phase;unfold Cst.phase at hp;rw[hm] at hp;obtain⟨hno,hcar⟩:=hp;have hd:σ.ts.D 0=0:=by simp[Cst.ts,hm,Mn.deaf]
 refine⟨zCj h hno hd,⟨List.nodup_nil,h.zero,fun j=>?_,fun j p hj=>?_,h.lows,fun x=>(by cases x),fun x=>(by cases x),fun x=>(by cases x),by simp,rfl,.refl _,hno,rfl,rfl,rfl,rfl,rfl,rfl,rfl,rfl⟩,rfl,fun j hj=>?_,fun c x=>?_,?_,?_,rfl,rfl,fun k x hk=>?_,fun c x hk=>?_,rfl⟩
 ·constructor
  ·intro x;cases x
  ·rintro⟨p,hp⟩;have:=(hno j).symm.trans hp
   cases this
 ·have:=(hno j).symm.trans hj
  cases this
 ·show Cst.gh _ j=none;unfold Cst.gh;rw[if_neg hj,show _=none from hno j]
  rfl
 ·rcases x with ⟨x,_⟩|⟨x,_⟩<;>rw[hcar] at x<;>cases x
 ·show Mn.deaf .rest=σ.ts.D 0;rw[hd]
  rfl
 ·rintro⟨p,x,_⟩;have:=h.zero.symm.trans x
  cases this
 ·simp[Cp,Mn.hasW] at hk
 ·simp[Cp,Mn.hasF,Mn.hasD] at hk
end
end
end Go.Proofs.YteppiphdbondeaaGreat.N
