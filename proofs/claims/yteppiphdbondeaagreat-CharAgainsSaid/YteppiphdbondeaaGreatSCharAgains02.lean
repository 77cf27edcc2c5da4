/- Parts of the walk of the law CharAgains: N2, N3, N4, N5, M6, N6, N7, M9, N8, N9, N10, M14, N11, N12, N13, N14. -/
import Derived.Test.YteppiphdbondeaaGreatSCharAgains01
import Derived.Conc.CrowdSel
import Derived.Laws.NewFold
namespace Go.Proofs.YteppiphdbondeaaGreat.N
set_option linter.unusedSectionVars false
open Go.RowKit
section
open Go.Conc
variable {c:Car} {i:Nat} {y:MemOp}
structure Ts where
 D:Nat->Nat
 Dn:Nat->Prop
 Ca:Car->Prop
def Ts.deaf (s:Ts) (g n:Nat):Ts:={s with D:=fun j=>if j=g then n else s.D j}
def Ts.gives (s:Ts) (c:Car):Ts:={s with Ca:=fun x=>s.Ca x∨x=c}
def Ts.takes (s:Ts) (c:Car):Ts:={s with Ca:=fun x=>s.Ca x∧x≠c}
def Ts.done (s:Ts) (g:Nat):Ts:={s with Dn:=fun j=>s.Dn j∨j=g}
inductive Tq (Sh:Nat->Prop) (Ow B g:Nat):Ts->MemAct->Ts->Prop
 | off {s:Ts}:Tq Sh Ow B g s (.mark .disable) (s.deaf g (s.D g+1))
 | on {s:Ts}:Tq Sh Ow B g s (.mark .enable) (s.deaf g (s.D g-1))
 | atom {s:Ts} {a:Addr} {wr:Bool} (h1:Sh a.block) (h2:a.block<B) (h3:s.Dn g->0<s.D g):Tq Sh Ow B g s (.access ⟨.cell a,wr,true⟩) s
 | objr {s:Ts} {c:Nat} (h1:Sh c) (h2:c<B) (h3:s.Dn g->0<s.D g):Tq Sh Ow B g s (.access ⟨.obj c,false,true⟩) s
 | reads {s:Ts} {a:Addr} (h1:Sh a.block) (h2:a.block<B) (h3:g=Ow) (h4:¬s.Dn g):Tq Sh Ow B g s (.mark (.read a)) s
 | writes {s:Ts} {a:Addr} (h1:Sh a.block) (h2:a.block<B) (h3:g=Ow) (h4:¬s.Dn g):Tq Sh Ow B g s (.mark (.write a)) s
 | merge {s:Ts} {a:Addr} (h1:s.D g=0):Tq Sh Ow B g s (.mark (.releaseMerge a)) (s.gives (.rel a))
 | last {s:Ts} {a:Addr} (h1:s.D g=0):Tq Sh Ow B g s (.mark (.releaseMerge a)) ((s.gives (.rel a)).done g)
 | acquire {s:Ts} {a:Addr} (h1:s.D g=0) (h2:¬s.Dn g):Tq Sh Ow B g s (.mark (.acquire a)) (s.takes (.rel a))
 | close {s:Ts} {c:Nat} (h1:s.D g=0) (h2:c<B):Tq Sh Ow B g s (.close c) ((s.gives (.cls c)).done g)
 | closed {s:Ts} {c:Nat} (h1:s.D g=0) (h2:¬s.Dn g) (h3:c<B):Tq Sh Ow B g s (.recvClosed c) (s.takes (.cls c))
section
variable {Liv:Nat->Prop} {s s':Ts} {Sh:Nat->Prop} {Ow:Nat} {F S:Nat->Nat->Prop} {B g:Nat} {t u:Trace}
theorem zFl (t:Trace) (y:MemOp):(t++#[y])[t.size]?=some y:=by simp
theorem zAv {x:MemOp} (h:x∈(#[y]:Array MemOp)):x=y:=by simpa using h
theorem zMg (hd:Deaf t y.g=0):(t++#[y]).heard t.size:=⟨y.g,g?_of (zFl t y),by rw[deaf_old (Nat.le_refl _)];exact hd⟩
theorem Has.new (hk:Knows t y.g i) (hc:c.at y.act) (hd:Deaf t y.g=0):Has (t++#[y]) c i :=
 ⟨t.size,y,zFl t y,hc,zMg hd,hk.hb_new (Nat.le_refl _) (zFl t y) J⟩
theorem Has.taken (h:Has t c i) (hr:∀op∈t,∀a,op.act≠.mark (.release a)) (hd:Deaf t y.g=0) (hc:(∃a,c=.rel a∧y.act=.mark (.acquire a))∨∃b,c=.cls b∧y.act=.recvClosed b):Knows (t++#[y]) y.g i:=by
 obtain⟨p,z,h1,h2,h3,h4⟩:=h;have hp:=lt_size_of_getElem? h1;have e1:(t++#[y])[p]?=some z:=by rw[getElem?_append_old hp];exact h1
 have e2:=zFl t y;refine⟨t.size,y,e2,rfl,.inr ((hb_app _ h4).trans (.single (.inr ⟨?_,(heard_old hp).2 h3,zMg hd⟩)))⟩
 rcases hc with ⟨a,rfl,hy⟩|⟨b,rfl,hy⟩
 ·refine .marked (a:=a) hp (.inr ?_) ?_ fun k h5 h6 h7=>?_
  ·rw[act?_of e1];exact congrArg some h2
  ·rw[act?_of e2];exact congrArg some hy
  ·rw[act?_old h6] at h7;obtain⟨op,ho,hoa⟩:=Option.map_eq_some_iff.1 h7;exact hr op (Array.mem_of_getElem? ho) a hoa
 ·refine .closed (c:=b) ?_ ?_
  ·rw[act?_of e1];exact congrArg some h2
  ·rw[act?_of e2];exact congrArg some hy
theorem Px.shared {Dn:Nat->Prop} {D:Nat->Nat} {Ca:Car->Prop} (h:Px Liv D Dn Sh Ow Ca F S B t) (hsh:∀g b,Liv g->Sh b->F g b) (hg:Liv g) {y:MemOp} (hy:y.g=g) {a:Touch} {b:Nat} (ha:y.act.touch?=some a) (hb:blkOf a.loc=some b) (hs:Sh b)
  (hk:(a.kind=.atomic∧(Dn g->0<D g))∨(a.kind=.said∧g=Ow∧¬Dn g)) (hD:∀j,Deaf (t++#[y]) j=Deaf t j) (hl:y.act.low B) (hr:∀a,y.act≠.mark (.release a)):Px Liv D Dn Sh Ow Ca F S B (t++#[y]):=by
 have uu:∀op∈(#[y]:Array MemOp),op.g=g:=fun op hop=>by rw[zAv hop];exact hy
 have split:∀{i:Nat} {a':Touch},touchAt (t++#[y]) i=some a'->touchAt t i=some a'∨(i=t.size∧a'=a):=by
  intro i a' hi;obtain⟨x,hx,hxa⟩:=touch_of hi
  rcases getElem?_append_cases hx with ⟨_,hx'⟩|⟨hge,hxu⟩
  ·exact .inl (by rw[touchAt_of hx'];exact hxa)
  ·have e:x=y:=zAv hxu;subst e;have hlt:=lt_size_of_getElem? hx;simp only[Array.size_append,List.size_toArray,List.length_cons,List.length_nil] at hlt;exact .inr ⟨by omega,by rw[ha] at hxa;exact (Option.some.inj hxa).symm⟩
 have own:Knows (t++#[y]) g t.size:=by have:=knows_own (zFl t y);rwa[hy] at this
 refine⟨fun said=>noRace_append (h.clean said) uu fun i a' hi op hop b' hb' hc=>?_,fun g' hg' i a' b' hi hb' hF hS=>?_,fun g' hg' i a' b' hi hw hb' hF=>?_,fun g' hg' i a' b' hi hb' hs' hk'=>?_,fun i a' b' hi hb' hs' hk'=>?_,h.known_app (fun i x=>zAp x) fun i x a' hge hx hxu hxa hm hc=>?_,fun g' hg'=>(hD g').trans (h.hears g' hg'),fun op hop=>?_,seen_app h.seen fun op hop=>by rw[zAv hop];exact hl⟩
 ·have e:=zAv hop;subst e;rw[ha] at hb'
  cases hb'
  obtain⟨hloc,_,_,hkd⟩:=hc
  rcases hkd with x|x|⟨_,x,x'⟩
  ·exact h.shr g hg i a' b hi (by rw[hloc];exact hb) hs x
  ·rcases hk with ⟨y,_⟩|⟨y,_⟩<;>rw[x] at y<;>cases y
  ·rcases hk with ⟨y,_⟩|⟨_,y,_⟩
   ·rw[x'] at y;cases y
   ·rw[y];exact h.said i a' b hi (by rw[hloc];exact hb) hs x
 ·rcases split hi with x|⟨_,rfl⟩
  ·exact (h.perm g' hg' i a' b' x hb' hF hS).app _
  ·rw[hb] at hb';cases hb';exact absurd (hsh g' b hg' hs) hF
 ·rcases split hi with x|⟨_,rfl⟩
  ·exact (h.wrote g' hg' i a' b' x hw hb' hF).app _
  ·rw[hb] at hb';cases hb';exact absurd (hsh g' b hg' hs) hF
 ·rcases split hi with x|⟨_,rfl⟩
  ·exact (h.shr g' hg' i a' b' x hb' hs' hk').app _
  ·rcases hk with ⟨y,_⟩|⟨y,_⟩<;>rw[hk'] at y<;>cases y
 ·rcases split hi with x|⟨rfl,rfl⟩
  ·exact (h.said i a' b' x hb' hs' hk').app _
  ·rcases hk with ⟨y,_⟩|⟨_,y,_⟩
   ·rw[hk'] at y;cases y
   ·rw[<-y];exact own
 ·have e:=zAv hxu;subst e;rw[ha] at hxa
  cases hxa
  have hi:i=t.size:=by
   have hlt2:=lt_size_of_getElem? hx;simp only[Array.size_append,List.size_toArray,List.length_cons,List.length_nil] at hlt2;omega
  subst hi
  rcases hk with ⟨y,hd⟩|⟨_,_,hd⟩
  ·by_cases hdn:Dn g
   ·rcases hc with z|⟨q,z1,z2⟩|z
    ·exact absurd y z
    ·have e1:q=g:=by rw[g?_of hx] at z1;rw[<-hy];exact (Option.some.inj z1).symm
     subst e1;rw[deaf_old (Nat.le_refl _)] at z2;have:=hd hdn;rw[<-h.hears q hg] at this;exact absurd z2 (by unfold Deaf at this;omega)
    ·exact absurd hs (z b hb)
   ·exact .inl ⟨g,hg,hdn,own⟩
  ·exact .inl ⟨g,hg,hd,own⟩
 ·rcases Array.mem_append.1 hop with x|x
  ·exact h.norel op x
  ·rw[zAv x];exact hr
theorem Px.one (h:Px Liv s.D s.Dn Sh Ow s.Ca F S B t) (hsh:∀g b,Liv g->Sh b->F g b) (hg:Liv g) {y:MemOp} (hy:y.g=g) (hq:Tq Sh Ow B g s y.act s') (hl:y.act.low B):Px Liv s'.D s'.Dn Sh Ow s'.Ca F S B (t++#[y]):=by
 subst hy;have hdf:Deaf t y.g=s.D y.g:=h.hears y.g hg;have hD:∀j,Deaf (t++#[y]) j=deafStep j (Deaf t j) y:=fun j=>Deaf_push t y j;have quiet:(∀j d,deafStep j d y=d)->∀j,Deaf (t++#[y]) j=Deaf t j:=fun hq j=>by rw[hD,hq]
 have one:∀{p:MemOp->Prop},p y->∀op∈(#[y]:Array MemOp),p op:=fun hp op hop=>by rw[zAv hop];exact hp
 obtain⟨g,fn,pos,act⟩:=y;simp only at hq hdf hl hg
 cases hq with
 | off =>
  refine h.mute (fun _ x=>x) (fun j hj=>?_) (fun i x=>zAp x) (one J) (one hl) (one fun a e=>by cases e);rw[hD,h.hears j hj];simp only[deafStep,Ts.deaf]
  by_cases e:j=g
  ·subst e;simp
  ·have e':g≠j:=fun x=>e x.symm
   simp[e,e']
 | on =>
  refine h.mute (fun _ x=>x) (fun j hj=>?_) (fun i x=>zAp x) (one J) (one hl) (one fun a e=>by cases e);rw[hD,h.hears j hj];simp only[deafStep,Ts.deaf]
  by_cases e:j=g
  ·subst e;simp
  ·have e':g≠j:=fun x=>e x.symm
   simp[e,e']
 | @atom a wr h1 h2 h3=>exact h.shared hsh hg rfl (a:=⟨.cell a,wr,.atomic⟩) (b:=a.block) rfl rfl h1 (.inl ⟨rfl,h3⟩) (quiet fun _ _=>rfl) hl fun a e=>by cases e
 | @objr c h1 h2 h3=>exact h.shared hsh hg rfl (a:=⟨.obj c,false,.atomic⟩) (b:=c) rfl rfl h1 (.inl ⟨rfl,h3⟩) (quiet fun _ _=>rfl) hl fun a e=>by cases e
 | @reads a h1 h2 h3 h4=>exact h.shared hsh hg rfl (a:=⟨.cell a,false,.said⟩) (b:=a.block) rfl rfl h1 (.inr ⟨rfl,h3,h4⟩) (quiet fun _ _=>rfl) hl fun a e=>by cases e
 | @writes a h1 h2 h3 h4=>exact h.shared hsh hg rfl (a:=⟨.cell a,true,.said⟩) (b:=a.block) rfl rfl h1 (.inr ⟨rfl,h3,h4⟩) (quiet fun _ _=>rfl) hl fun a e=>by cases e
 | @merge a h1 =>
  exact h.mute (fun _ x=>x) (fun j hj=>by rw[hD,h.hears j hj];rfl) (fun i x=>(zAp x).imp id fun⟨c,h2,h3⟩=>⟨c,.inl h2,h3⟩) (one J) (one hl) (one fun a e=>by cases e)
 | @last a h1 =>
  refine h.mute (fun _ x=>x) (fun j hj=>by rw[hD,h.hears j hj];rfl) (fun i x=>?_) (one J) (one hl) (one fun a e=>by cases e)
  rcases x with ⟨j,h2,h3,h4⟩|⟨c,h2,h3⟩
  ·by_cases e:j=g
   ·subst e;exact .inr ⟨.rel a,.inr J,Has.new h4 J (hdf.trans h1)⟩
   ·exact .inl ⟨j,h2,fun z=>z.elim h3 e,h4.app _⟩
  ·exact .inr ⟨c,.inl h2,h3.app _⟩
 | @acquire a h1 h2 =>
  refine h.mute (fun _ x=>x) (fun j hj=>by rw[hD,h.hears j hj];rfl) (fun i x=>?_) (one J) (one hl) (one fun a e=>by cases e)
  rcases x with ⟨j,h3,h4,h5⟩|⟨c,h3,h4⟩
  ·exact .inl ⟨j,h3,h4,h5.app _⟩
  ·by_cases e:c=.rel a
   ·exact .inl ⟨g,hg,h2,h4.taken h.norel (hdf.trans h1) (.inl ⟨a,e,rfl⟩)⟩
   ·exact .inr ⟨c,⟨h3,e⟩,h4.app _⟩
 | @close c h1 h2 =>
  refine h.mute (fun _ x=>x) (fun j hj=>by rw[hD,h.hears j hj];rfl) (fun i x=>?_) (one J) (one hl) (one fun a e=>by cases e)
  rcases x with ⟨j,h2,h3,h4⟩|⟨c',h2,h3⟩
  ·by_cases e:j=g
   ·subst e;exact .inr ⟨.cls c,.inr J,Has.new h4 J (hdf.trans h1)⟩
   ·exact .inl ⟨j,h2,fun z=>z.elim h3 e,h4.app _⟩
  ·exact .inr ⟨c',.inl h2,h3.app _⟩
 | @closed c h1 h2 h3 =>
  refine h.mute (fun _ x=>x) (fun j hj=>by rw[hD,h.hears j hj];rfl) (fun i x=>?_) (one J) (one hl) (one fun a e=>by cases e)
  rcases x with ⟨j,h3,h4,h5⟩|⟨c',h3,h4⟩
  ·exact .inl ⟨j,h3,h4,h5.app _⟩
  ·by_cases e:c'=.cls c
   ·exact .inl ⟨g,hg,h2,h4.taken h.norel (hdf.trans h1) (.inr ⟨c,e,rfl⟩)⟩
   ·exact .inr ⟨c',⟨h3,e⟩,h4.app _⟩
inductive Tqs (Sh:Nat->Prop) (Ow B g:Nat):Ts->List MemAct->Ts->Prop
 | nil {s:Ts}:Tqs Sh Ow B g s [] s
 | cons {s s1 s2:Ts} {m:MemAct} {l:List MemAct} (h1:Tq Sh Ow B g s m s1) (h2:m.low B) (h3:Tqs Sh Ow B g s1 l s2):Tqs Sh Ow B g s (m::l) s2
theorem Px.many {l:List MemAct} (hq:Tqs Sh Ow B g s l s') (hsh:∀g b,Liv g->Sh b->F g b) (hg:Liv g):∀{t:Trace} {us:List MemOp},Px Liv s.D s.Dn Sh Ow s.Ca F S B t->us.map (·.act)=l->(∀op∈us,op.g=g)->Px Liv s'.D s'.Dn Sh Ow s'.Ca F S B (t++us.toArray):=by
 induction hq with
 | nil =>
  intro t us h hu _;rw[List.map_eq_nil_iff] at hu;subst hu
  simpa using h
 | cons h1 h2 _ ih =>
  intro t us h hu hug
  cases us with
  | nil=>cases hu
  | cons y us =>
   simp only[List.map_cons,List.cons.injEq] at hu;obtain⟨rfl,hu⟩:=hu;have e:t++(y::us).toArray=(t++#[y])++us.toArray:=by simp
   rw[e];exact ih (h.one hsh hg (hug y (by simp)) h1 h2) hu fun op hop=>hug op (List.mem_cons_of_mem _ hop)
end
end
section
open Go.Conc
section
variable {Liv:Nat->Prop} {D:Nat->Nat} {Dn Sh:Nat->Prop} {Ow:Nat} {Ca:Car->Prop} {F S F' S':Nat->Nat->Prop} {B B':Nat} {t u:Trace}
theorem Px.low (h:Px Liv D Dn Sh Ow Ca F S B t) {i:Nat} {a:Touch} {b:Nat} (hi:touchAt t i=some a) (hb:blkOf a.loc=some b):b<B:=by
 obtain⟨x,hx,hxa⟩:=touch_of hi;exact zHf (h.seen x (Array.mem_of_getElem? hx)) hxa hb
theorem Px.says (h:Px Liv D Dn Sh Ow Ca F S B t) (hn:∀op∈u,op.act.touch?=none) (hq:∀g,∀op∈u,∀d,deafStep g d op=d) (hl:∀op∈u,op.act.low B) (hr:∀op∈u,∀a,op.act≠.mark (.release a)):Px Liv D Dn Sh Ow Ca F S B (t++u) :=
 h.mute (fun _ x=>x) (fun g hg=>(Deaf_quiet (hq g)).trans (h.hears g hg)) (fun _i x=>zAp x) hn hl hr
theorem Px.fewer {Liv':Nat->Prop} (h:Px Liv D Dn Sh Ow Ca F S B t) (hL:∀g,Liv' g->Liv g) (hk:∀g,Liv g->¬Dn g->Liv' g):Px Liv' D Dn Sh Ow Ca F S B t :=
 ⟨h.clean,fun g hg=>h.perm g (hL g hg),fun g hg=>h.wrote g (hL g hg),fun g hg=>h.shr g (hL g hg),h.said,fun i a h1 h2 h3=>(h.known i a h1 h2 h3).imp (fun⟨g,h4,h5,h6⟩=>⟨g,hk g h4 h5,h5,h6⟩) id,fun g hg=>h.hears g (hL g hg),h.norel,h.seen⟩
theorem Px.left {g:Nat} (h:Px Liv D Dn Sh Ow Ca F S B t) (hg:¬Liv g) (hu:∀op∈u,op.g=g) (hn:∀op∈u,op.act.touch?=none) (hl:∀op∈u,op.act.low B) (hr:∀op∈u,∀a,op.act≠.mark (.release a)):Px Liv D Dn Sh Ow Ca F S B (t++u) :=
 h.mute (fun _ x=>x) (fun j hj=>by
  have hne:g≠j:=fun x=>hg (by rw[x];exact hj)
  exact (Deaf_other t hne u hu).trans (h.hears j hj)) (fun i x=>zAp x) hn hl hr
theorem Px.share {b0:Nat} (h:Px Liv D Dn Sh Ow Ca F S B t) (hL:∀g,Liv g->g=0) (h0:Liv 0) (hF:¬F 0 b0) (hS:¬S 0 b0) (hO:Ow=0):Px Liv D Dn (fun b=>Sh b∨b=b0) Ow Ca (fun g b=>F g b∨b=b0) S B t:=by
 refine⟨h.clean,fun g hg i a b h1 h2 h3 h4=>h.perm g hg i a b h1 h2 (fun x=>h3 (.inl x)) h4,fun g hg i a b h1 h2 h3 h4=>h.wrote g hg i a b h1 h2 h3 (fun x=>h4 (.inl x)),fun g hg i a b h1 h2 h3 h4=>?_,fun i a b h1 h2 h3 h4=>?_,fun i a h1 h2 h3=>h.known i a h1 h2 (h3.imp id fun x=>x.imp id fun y b hb hs=>y b hb (.inl hs)),h.hears,h.norel,h.seen⟩
 ·rcases h3 with x|rfl
  ·exact h.shr g hg i a b h1 h2 x h4
  ·rw[hL g hg];exact h.perm 0 h0 i a b h1 h2 hF hS
 ·rcases h3 with x|rfl
  ·exact h.said i a b h1 h2 x h4
  ·rw[hO];exact h.perm 0 h0 i a b h1 h2 hF hS
theorem Px.settle (h:Px Liv D Dn Sh Ow Ca F S B t) (hL:∀g,Liv g->g=0) (_h0:Liv 0) (hC:∀c,¬Ca c) (hFS:∀b,Sh b->F 0 b):Px Liv D Dn Sh 0 Ca F (fun _ _=>False) B t:=by
 have all:∀i a,touchAt t i=some a->a.loc.isMemory=true->Counts Sh t i a->Knows t 0 i:=fun i a h1 h2 h3=>by
  rcases h.known i a h1 h2 h3 with ⟨g,h4,_,h5⟩|⟨c,h4,_⟩
  ·rwa[hL g h4] at h5
  ·exact absurd h4 (hC c)
 refine⟨h.clean,fun g hg i a b h1 h2 h3 _=>?_,h.wrote,h.shr,fun i a b h1 h2 h3 h4=>all i a h1 (zHd h2) (.inl (by rw[h4];simp)),h.known,h.hears,h.norel,h.seen⟩;obtain rfl:=hL g hg;exact all i a h1 (zHd h2) (.inr (.inr fun b' hb' hs=>by rw[h2] at hb';cases hb';exact h3 (hFS b hs)))
theorem Px.hire {c Ow':Nat} {Fc Sc:Nat->Prop} (h:Px Liv D Dn Sh Ow Ca F S B t) (h0:Liv 0) (hd0:D 0=0) (hc:¬Liv c) (hc0:Deaf t c=0) (hdc:¬Dn c) (hsee:∀b,b<B->¬Fc b->Sc b∧¬F 0 b) (hO:Ow'=Ow∨(Ow=0∧Ow'=c)) (fh:FuncId) (ph:String) (fc:FuncId) :
  Px (fun g=>Liv g∨g=c) (fun g=>if g=c then 0 else D g) Dn Sh Ow' Ca (fun g b=>if g=c then Fc b else F g b) (fun g b=>if g=c then Sc b else S g b) B (t++#[{g:=0,fn:=fh,pos:=ph,act:=.go c},{g:=c,fn:=fc,pos:=ph,act:=.start}]):=by
 generalize hu:(#[{g:=0,fn:=fh,pos:=ph,act:=.go c},{g:=c,fn:=fc,pos:=ph,act:=.start}]:Trace)=u
 have hn:∀op∈u,op.act.touch?=none:=by
  intro op hop;subst hu;simp only[List.mem_toArray,List.mem_cons,List.not_mem_nil,or_false] at hop;rcases hop with rfl|rfl<;>rfl
 have hq:∀g,∀op∈u,∀d,deafStep g d op=d:=by
  intro g op hop d;subst hu;simp only[List.mem_toArray,List.mem_cons,List.not_mem_nil,or_false] at hop;rcases hop with rfl|rfl<;>rfl
 have hl:∀op∈u,op.act.low B:=by
  intro op hop;subst hu;simp only[List.mem_toArray,List.mem_cons,List.not_mem_nil,or_false] at hop;rcases hop with rfl|rfl<;>trivial
 have hr:∀op∈u,∀a,op.act≠.mark (.release a):=by
  intro op hop a e;subst hu;simp only[List.mem_toArray,List.mem_cons,List.not_mem_nil,or_false] at hop;rcases hop with rfl|rfl<;>cases e
 have e0:(t++u)[t.size]?=some {g:=0,fn:=fh,pos:=ph,act:=.go c}:=by subst hu;simp
 have e1:(t++u)[t.size+1]?=some {g:=c,fn:=fc,pos:=ph,act:=.start}:=by subst hu;simp
 have edge:HappensBefore (t++u) t.size (t.size+1) :=
  Relation.TransGen.single (.inr ⟨.spawn (act?_of e0) (act?_of e1) (g?_of e1),⟨0,g?_of e0,by rw[deaf_old (Nat.le_refl _)];exact (h.hears 0 h0).trans hd0⟩,⟨c,g?_of e1,by rw[deaf_quiet (hq c) 1 (by subst hu;simp)];exact hc0⟩⟩)
 have pass:∀i,Knows t 0 i->Knows (t++u) c i:=fun i hk=>⟨t.size+1,_,e1,rfl,.inr ((hk.hb_new (Nat.le_refl _) e0 J).trans edge)⟩;have p:=h.says hn hq hl hr
 have old:∀{i:Nat} {a:Touch},touchAt (t++u) i=some a->touchAt t i=some a:=by
  intro i a hi;obtain⟨x,hx,hxa⟩:=touch_of hi
  rcases getElem?_append_cases hx with ⟨_,hx'⟩|⟨_,hxu⟩
  ·rw[touchAt_of hx'];exact hxa
  ·rw[hn x hxu] at hxa;cases hxa
 refine⟨p.clean,fun g hg i a b hi hb hF hS=>?_,fun g hg i a b hi hw hb hF=>?_,fun g hg i a b hi hb hs hk=>?_,fun i a b hi hb hs hk=>?_,fun i a h1 h2 h3=>(p.known i a h1 h2 h3).imp (fun⟨g,h4,h5,h6⟩=>⟨g,.inl h4,h5,h6⟩) id,fun g hg=>?_,p.norel,p.seen⟩
 ·by_cases e:g=c
  ·subst e;simp only[if_true] at hF hS;exact absurd (hsee b (h.low (old hi) hb) hF).1 hS
  ·simp only[e,if_false] at hF hS;exact p.perm g (hg.resolve_right e) i a b hi hb hF hS
 ·by_cases e:g=c
  ·subst e;simp only[if_true] at hF;exact pass i (h.wrote 0 h0 i a b (old hi) hw hb (hsee b (h.low (old hi) hb) hF).2)
  ·simp only[e,if_false] at hF;exact p.wrote g (hg.resolve_right e) i a b hi hw hb hF
 ·by_cases e:g=c
  ·subst e;exact pass i (h.shr 0 h0 i a b (old hi) hb hs hk)
  ·exact p.shr g (hg.resolve_right e) i a b hi hb hs hk
 ·rcases hO with rfl|⟨rfl,rfl⟩
  ·exact p.said i a b hi hb hs hk
  ·exact pass i (h.said i a b (old hi) hb hs hk)
 ·by_cases e:g=c
  ·subst e;simp only[if_true];rw[Deaf_quiet (hq g)];exact hc0
  ·simp only[e,if_false];exact p.hears g (hg.resolve_right e)
theorem Px.handed (h:Px Liv D Dn Sh Ow Ca F S B t) (hL:∀g,Liv g->g=0) (hC:∀c,¬Ca c):t.HandedOver:=by
 intro i g hg hne hc;obtain⟨a,ha,hm,hk⟩:=hc
 rcases h.known i a ha hm (hk.imp id .inl) with ⟨g',h1,_,q,z,h2,h3,h4⟩|⟨c,h1,_⟩
 ·rw[hL g' h1] at h3;refine⟨q,by rw[g?_of h2,h3],?_⟩
  rcases h4 with rfl|h4
  ·rw[g?_of h2,h3] at hg;exact absurd (Option.some.inj hg).symm hne
  ·exact h4
 ·exact absurd h1 (hC c)
end
end
end Go.Proofs.YteppiphdbondeaaGreat.N
namespace Go.Proofs.YteppiphdbondeaaGreat.N
open Go Go.RowKit Go.Conc
set_option linter.unusedSectionVars false

variable {P:Program} {g:Goroutine} {i:Nat} {α:Type}
abbrev Gh:=List Nat
def gout (γ:Gh):Array (Nat×ByteArray):=(γ.map encN).toArray
theorem zJe {x y:Gh} (h:gout x=gout y):x=y:=zSl (fun _ _=>zZa) (by simpa[gout] using h)
structure Pro where
 St:Type
 ok:St->Prop
 gh:St->Nat->Option Gh
 ts:St->Ts
 ow:St->Nat
 pub:St->Nat->Prop
 sh:St->Nat->Option Obj
 ch:St->Nat->Option Bool
 lent:St->List Nat
 idle:(Nat->Option Obj)->Gh->Prop
 ear:Gh->Option (List Nat)
 says:Gh->Nat->Value->Gh->Prop
 heard:Gh->Nat->Value->Gh->Prop
 low:Nat
def dact (d:Nat):MemAct->Nat
 | .mark .disable=>d+1
 | .mark .enable=>d-1
 | _=>d
def dacts (d:Nat) (l:List MemAct):Nat:=l.foldl dact d
namespace Pro
variable (K:Pro)
def shows (σ:K.St) (w:World):Prop:=(∀b o,K.sh σ b=some o->w.heap[b]?=some o)∧∀c x,K.ch σ c=some x->∃r,w.heap[c]?=some (.chan 0 #[] x r r false)
structure turns (σ σ':K.St) (w w':World):Prop where
 shows:K.shows σ' w'
 size:w'.heap.size=w.heap.size
 os:w'.os=w.os
 tape:w'.tape=w.tape
 drawn:w'.drawn=w.drawn
 output:w'.output=w.output
 block:∀b,¬K.pub σ b->w'.heap[b]?=w.heap[b]?
structure same (σ σ':K.St):Prop where
 ts:K.ts σ'=K.ts σ
 ow:K.ow σ'=K.ow σ
 pub:K.pub σ'=K.pub σ
 sh:K.sh σ'=K.sh σ
 ch:K.ch σ'=K.ch σ
 lent:K.lent σ'=K.lent σ
structure Moves (i:Nat) (σ:K.St) (acts:List MemAct) (cl:Option Nat) (σ':K.St):Prop where
 ok:K.ok σ'
 oth:∀j,j≠i->K.gh σ' j=K.gh σ j
 ow:K.ow σ'=K.ow σ
 pub:K.pub σ'=K.pub σ
 ch:∀c,K.ch σ' c=if cl=some c then some true else K.ch σ c
 shut:∀c,cl=some c->(K.ch σ c).isSome=true∧∀j,(K.gh σ' j).isSome->j=0
 lent:K.lent σ'=K.lent σ
 dn:∀j,j≠i->((K.ts σ').Dn j↔(K.ts σ).Dn j)
 tq:∀B,(∀b,K.pub σ b->b<B)->∃s1,Tqs (K.pub σ) (K.ow σ) B i (K.ts σ) acts s1∧(∀j,(K.gh σ' j).isSome->(K.ts σ').D j=s1.D j)∧(∀j,(K.ts σ').Dn j->s1.Dn j)∧(∀c,s1.Ca c->(K.ts σ').Ca c)∧(K.gh σ' i=none->s1.Dn i)
structure Laws:Prop where
 inner:∀σ,K.ok σ->(∀b o,K.sh σ b=some o->K.pub σ b)∧(∀c x,K.ch σ c=some x->K.pub σ c)∧∀b,K.pub σ b->K.low<=b
 part:∀σ b o,K.ok σ->K.sh σ b=some o->K.ch σ b=none
 zero:∀σ,K.ok σ->(∃γ,K.gh σ 0=some γ)∧¬(K.ts σ).Dn 0
 once:∀σ c c',K.ok σ->K.ch σ c=some true->K.ch σ c'=some true->c=c'
 hush:∀σ c,K.ok σ->K.ch σ c=some true->∀j,(K.gh σ j).isSome->j=0
 ears:∀σ γ cs,K.ok σ->K.gh σ 0=some γ->K.ear γ=some cs->cs.Nodup∧∀c∈cs,(K.ch σ c).isSome
 spk:∀σ j γ c x γ',K.ok σ->K.gh σ j=some γ->K.says γ c x γ'->K.ch σ c=some false∧j≠0
 meet:∀σ γ0 cs j γ c x γ',K.ok σ->K.gh σ 0=some γ0->K.ear γ0=some cs->K.gh σ j=some γ->K.says γ c x γ'->c∈cs∧(K.ts σ).D 0=0 ∧
  ∃σ' γ0',K.ok σ'∧K.heard γ0 c x γ0'∧K.same σ σ'∧K.gh σ' 0=some γ0'∧K.gh σ' j=some γ'∧∀k,k≠0->k≠j->K.gh σ' k=K.gh σ k
 live:∀σ γ0,K.ok σ->K.gh σ 0=some γ0->(K.idle (K.sh σ) γ0∨∃cs,K.ear γ0=some cs∧∀c∈cs,K.ch σ c=some false)->∃j γ,j≠0∧K.gh σ j=some γ∧¬K.idle (K.sh σ) γ∧∀c x γ',K.says γ c x γ'->(K.ear γ0).isSome∧¬K.idle (K.sh σ) γ0
end Pro
inductive Quiet (P:Program) (K:Pro) (i:Nat):Gh->Goroutine->Prop
 | still {γ:Gh} {g:Goroutine} (g':Goroutine) (hr:g.status=.running) (h:∀w,stepG P false g w=.go g' w) (k:Quiet P K i γ g'):Quiet P K i γ g
 | act {γ:Gh} {g:Goroutine} (nx:K.St->Gh->Goroutine->Prop) (hr:g.status=.running) (hm:mayWake P g=true)
   (h:∀σ,K.ok σ->K.gh σ i=some γ->∃acts σ' g',K.Moves i σ acts none σ'∧(∀w,K.shows σ w->∃w' es,stepG P false g w=.go g' w' es∧es.toList.map MemAct.ofEvent=acts∧K.turns σ σ' w w') ∧
    ((∃γ',K.gh σ' i=some γ'∧(K.ts σ').Dn i∧nx σ γ' g')∨∃n,K.gh σ' i=none∧QuitsD P n (dacts ((K.ts σ).D i) acts) g'))
   (k:∀σ γ' g',nx σ γ' g'->Quiet P K i γ' g'):Quiet P K i γ g
def Fate (P:Program) (K:Pro) (i:Nat) (v:World) (Nx:Goroutine->World->Prop) (σ:K.St) (acts:List MemAct) (σ':K.St) (g':Goroutine):Prop :=
 (∃γ',K.gh σ' i=some γ'∧¬(K.ts σ').Dn i∧Nx g' (saying v (gout γ')))∨(i≠0∧∃γ',K.gh σ' i=some γ'∧(K.ts σ').Dn i∧Quiet P K i γ' g')∨(i≠0∧∃n,K.gh σ' i=none∧QuitsD P n (dacts ((K.ts σ).D i) acts) g')
def Acts (P:Program) (K:Pro) (main:Bool) (i:Nat) (σ:K.St) (γ:Gh) (g:Goroutine) (v:World) (Nx:Goroutine->World->Prop):Prop :=
 (K.idle (K.sh σ) γ∧g.offers=none∧∀F S w,Hid F S w v->K.shows σ w->stepG P main g w=.go {g with status:=.blocked} w) ∨
 ∃acts cl σ' g',K.Moves i σ acts cl σ'∧(∀F S w,Hid F S w v->K.shows σ w->∃w' es,stepG P main g w=.go g' w' es∧es.toList.map MemAct.ofEvent=acts∧K.turns σ σ' w w')∧Fate P K i v Nx σ acts σ' g'
inductive Syn (P:Program) (K:Pro) (main:Bool) (i:Nat) (γ:Gh) (g:Goroutine) (v:World) (Nx:Goroutine->World->Prop):Prop
 | act (hm:mayWake P g=true) (h:∀σ,K.ok σ->K.gh σ i=some γ->Acts P K main i σ γ g v Nx)
 | look (g':Goroutine) (h:∀σ,K.ok σ->K.gh σ i=some γ->∀w,K.shows σ w->stepG P main g w=.go g' w) (k:Nx g' v)
 | send (c:Nat) (x z:Value) (γ':Gh) (h1:∀F S w,Hid F S w v->∃es,stepG P main g w=.comm g #[scase c x z] true .send w es∧∀e∈es,EvOk F S w.heap.size e) (h2:K.says γ c x γ') (h3:Nx (Go.Conc.served g undef) (saying v (gout γ')))
abbrev nSys (P:Program) (K:Pro) (i:Nat):Sys where
 main:=false
 sy g v Nx:=g.status=.running∧∃γ,v.output=gout γ∧Syn P K false i γ g v Nx
def NoStop (_g:Goroutine) (_v:World):Prop:=False
def Worker (P:Program) (K:Pro) (i:Nat) (g:Goroutine) (v:World):Prop:=@Gs P (nSys P K i) NoStop g v
structure Hires (K:Pro) (n:Nat) (σ:K.St) (sl:List Nat) (γ0 γc:Gh) (σ':K.St):Prop where
 ok:K.ok σ'
 main:K.gh σ' 0=some γ0
 new:K.gh σ' n=some γc
 oth:∀j,j≠0->j≠n->K.gh σ' j=K.gh σ j
 D:∀j,(K.gh σ' j).isSome->(K.ts σ').D j=if j=n then 0 else (K.ts σ).D j
 D0:(K.ts σ).D 0=0
 Dn:(K.ts σ').Dn=(K.ts σ).Dn
 notn:¬(K.ts σ).Dn n
 Ca:(K.ts σ').Ca=(K.ts σ).Ca
 ow:K.ow σ'=K.ow σ∨(K.ow σ=0∧K.ow σ'=n)
 pub:K.pub σ'=K.pub σ
 sh:K.sh σ'=K.sh σ
 ch:K.ch σ'=K.ch σ
 lent:K.lent σ'=K.lent σ++sl
def Alone (K:Pro) (σ:K.St):Prop:=(∀j,(K.gh σ j).isSome->j=0)∧(K.ts σ).D 0=0
structure Shares (K:Pro) (σ:K.St) (b:Nat) (o:Obj) (γ':Gh) (σ':K.St):Prop where
 ok:K.ok σ'
 main:K.gh σ' 0=some γ'
 oth:∀j,j≠0->K.gh σ' j=none
 ts:K.ts σ'=K.ts σ
 own:K.ow σ=0
 ow:K.ow σ'=0
 fresh:b∉K.lent σ
 pub:∀k,K.pub σ' k↔K.pub σ k∨k=b
 sh:∀k x,K.sh σ' k=some x->K.sh σ k=some x∨(k=b∧x=o)
 ch:∀c x,K.ch σ' c=some x->K.ch σ c=some x∨(c=b∧∃r,o=.chan 0 #[] x r r false)
 lent:K.lent σ'=K.lent σ
structure Settles (K:Pro) (σ:K.St) (γ':Gh) (σ':K.St):Prop where
 ok:K.ok σ'
 main:K.gh σ' 0=some γ'
 oth:∀j,j≠0->K.gh σ' j=none
 none:∀c,¬(K.ts σ).Ca c
 D:(K.ts σ').D 0=(K.ts σ).D 0
 Dn:¬(K.ts σ').Dn 0
 ow:K.ow σ'=0
 pub:K.pub σ'=K.pub σ
 sh:∀k x,K.sh σ' k=some x->K.sh σ k=some x
 ch:∀c x,K.ch σ' c=some x->K.ch σ c=some x
 lent:K.lent σ'=[]
structure Finds (K:Pro) (σ:K.St) (c:Nat) (γ':Gh) (σ':K.St):Prop where
 ok:K.ok σ'
 main:K.gh σ' 0=some γ'
 oth:∀j,j≠0->K.gh σ' j=none
 D:(K.ts σ).D 0=0∧(K.ts σ').D 0=0
 Ca:∀x,(K.ts σ).Ca x->x≠.cls c->(K.ts σ').Ca x
 ow:K.ow σ'=K.ow σ
 pub:K.pub σ'=K.pub σ
 sh:K.sh σ'=K.sh σ
 ch:K.ch σ'=K.ch σ
 lent:K.lent σ'=K.lent σ
def kase (x:Nat×Value):CommCase:=rcase x.1 x.2
inductive Syn0 (P:Program) (K:Pro) (γ:Gh) (g:Goroutine) (v:World) (Nx:Goroutine->World->Prop):Prop
 | common (h:Syn P K true 0 γ g v Nx)
 | hear (cs:LV) (shape:CommShape) (h1:∀v₁,Rl v v₁->∀F S w,Hid F S w v₁->∃es,stepG P true g w=.comm g (cs.map kase).toArray true shape w es∧∀e∈es,EvOk F S w.heap.size e) (h2:K.ear γ=some (cs.map (·.1)))
   (k1:∀(k c:Nat) (z x:Value) (γ':Gh),cs[k]?=some (c,z)->K.heard γ c x γ'->Nx (g.finishComm P (cs.map kase).toArray shape k x true) (saying v (gout γ')))
   (k2:∀(k c:Nat) (z:Value) (σ:K.St),cs[k]?=some (c,z)->K.ok σ->K.gh σ 0=some γ->K.ch σ c=some true->∃γ' σ',Finds K σ c γ' σ'∧Nx (g.finishComm P (cs.map kase).toArray shape k z false) (saying v (gout γ')))
 | hire (sl:List Nat) (γ' γc:Gh) (g' ch:Goroutine) (h1:∀F S w,Hid F S w v->∃es,stepG P true g w=.spawn g' ch w es∧∀e∈es,EvOk F S w.heap.size e) (hr:g'.status=.running)
   (hgv:Givable sl v) (hun:∀σ,K.ok σ->K.gh σ 0=some γ->∀b∈sl,b∈K.lent σ∨∃cs t,v.heap[b]?=some (.cells cs t (0,0)))
   (hs:∀σ n,K.ok σ->K.gh σ 0=some γ->n≠0->K.gh σ n=none->∃σ',Hires K n σ sl γ' γc σ')
   (hw:∀n,n≠0->Worker P K n ch (saying (onlyV sl v) (gout γc))) (k:Nx g' (saying (chill sl v) (gout γ')))
 | share (b:Nat) (o:Obj) (γ':Gh) (h1:v.heap[b]?=some o) (h2:(∃c t,o=.cells c t (0,0)∧0<c.size)∨∃x r,o=.chan 0 #[] x r r false) (hlo:K.low<=b) (hs:∀σ,K.ok σ->K.gh σ 0=some γ->Alone K σ∧∃σ',Shares K σ b o γ' σ') (k:Nx g (saying (hideB b v) (gout γ')))
 | settle (L:List Nat) (γ':Gh) (hs:∀σ,K.ok σ->K.gh σ 0=some γ->Alone K σ∧K.lent σ=L∧∃σ',Settles K σ γ' σ') (k:Nx g (saying (thaw L v) (gout γ')))
abbrev zSys (P:Program) (K:Pro):Sys where
 main:=true
 sy g v Nx:=g.status=.running∧∃γ,v.output=gout γ∧Syn0 P K γ g v Nx
inductive QTr (α:Type):Type
 | leaf
 | node (f:α->QTr α)
def QTr.Lt {α:Type} (s:QTr α):QTr α->Prop
 | .leaf=>False
 | .node f=>∃i,s=f i
theorem QTr.acc:∀t:QTr α,Acc QTr.Lt t
 | .leaf=>⟨_,fun _ h=>h.elim⟩
 | .node f=>⟨_,fun s h=>by obtain⟨i,rfl⟩:=h;exact QTr.acc (f i)⟩
inductive QuietT (P:Program) (K:Pro) (i:Nat):QTr (K.St×Gh×Goroutine)->Gh->Goroutine->Prop
 | still {f:K.St×Gh×Goroutine->QTr (K.St×Gh×Goroutine)} {γ:Gh} {g:Goroutine} (g':Goroutine) (hr:g.status=.running) (h:∀w,stepG P false g w=.go g' w) (x:K.St×Gh×Goroutine) (k:QuietT P K i (f x) γ g'):QuietT P K i (.node f) γ g
 | act {f:K.St×Gh×Goroutine->QTr (K.St×Gh×Goroutine)} {γ:Gh} {g:Goroutine} (nx:K.St->Gh->Goroutine->Prop) (hr:g.status=.running) (hm:mayWake P g=true)
   (h:∀σ,K.ok σ->K.gh σ i=some γ->∃acts σ' g',K.Moves i σ acts none σ'∧(∀w,K.shows σ w->∃w' es,stepG P false g w=.go g' w' es∧es.toList.map MemAct.ofEvent=acts∧K.turns σ σ' w w') ∧
    ((∃γ',K.gh σ' i=some γ'∧(K.ts σ').Dn i∧nx σ γ' g')∨∃n,K.gh σ' i=none∧QuitsD P n (dacts ((K.ts σ).D i) acts) g'))
   (k:∀σ γ' g',nx σ γ' g'->QuietT P K i (f (σ,γ',g')) γ' g'):QuietT P K i (.node f) γ g
theorem zUk {K:Pro} {γ:Gh} [Nonempty K.St] (h:Quiet P K i γ g):∃t,QuietT P K i t γ g:=by
 classical
 induction h with
 | still g' hr h _ ih =>
  obtain⟨t,ht⟩:=ih
  exact⟨.node fun _=>t,.still g' hr h (Classical.choice inferInstance,[],g') ht⟩
 | act nx hr hm h _ ih =>
  refine⟨.node fun x=>if hv:nx x.1 x.2.1 x.2.2 then (ih x.1 x.2.1 x.2.2 hv).choose else .leaf,.act nx hr hm h fun σ γ' g' hn=>?_⟩;have:=(ih σ γ' g' hn).choose_spec;simpa[hn] using this
theorem QuietT.run {K:Pro} {γ:Gh} {t:QTr (K.St×Gh×Goroutine)} (h:QuietT P K i t γ g):g.status=.running:=by cases h<;>assumption
inductive Nt (α:Type):Type
 | live (t:Tr)
 | quiet (t:QTr α)
 | quits (n:Nat)
inductive Nt.Lt {α:Type}:Nt α->Nt α->Prop
 | live {s t:Tr} (h:Tr.Lt s t):Nt.Lt (.live s) (.live t)
 | hush {s:QTr α} {t:Tr}:Nt.Lt (.quiet s) (.live t)
 | quiet {s t:QTr α} (h:QTr.Lt s t):Nt.Lt (.quiet s) (.quiet t)
 | done {n:Nat} {t:Tr}:Nt.Lt (.quits n) (.live t)
 | gone {n:Nat} {t:QTr α}:Nt.Lt (.quits n) (.quiet t)
 | quits {m n:Nat} (h:m<n):Nt.Lt (.quits m) (.quits n)
theorem Nt.acc_quits (n:Nat):Acc (Nt.Lt (α:=α)) (.quits n):=by
 induction n using Nat.strongRecOn with
 | _ n ih=>exact⟨_,fun y h=>by cases h with|quits h=>exact ih _ h⟩
theorem Nt.acc_quiet (t:QTr α):Acc (Nt.Lt (α:=α)) (.quiet t):=by
 induction QTr.acc t with
 | intro t _ ih =>
  exact⟨_,fun y h=>by
   cases h with
   | quiet h=>exact ih _ h
   | gone=>exact Nt.acc_quits _⟩
theorem Nt.acc:∀m:Nt α,Acc (Nt.Lt (α:=α)) m
 | .quits n=>Nt.acc_quits n
 | .quiet t=>Nt.acc_quiet t
 | .live t=>by
  induction Tr.acc t with
  | intro t _ ih =>
   exact⟨_,fun y h=>by
    cases h with
    | live h=>exact ih _ h
    | hush=>exact Nt.acc_quiet _
    | done=>exact Nt.acc_quits _⟩
inductive Ns {α:Type}:List (Nt α)->List (Nt α)->Prop
 | head {a b:Nt α} (l:List (Nt α)) (h:Nt.Lt a b):Ns (a::l) (b::l)
 | tail (a:Nt α) {l m:List (Nt α)} (h:Ns l m):Ns (a::l) (a::m)
theorem Ns.acc_cons {a:Nt α} (h1:Acc Nt.Lt a):∀{l:List (Nt α)},Acc Ns l->Acc Ns (a::l):=by
 induction h1 with
 | intro a _ iha =>
  intro l h2
  induction h2 with
  | intro l hl ihl =>
   refine⟨_,fun y h=>?_⟩
   cases h with
   | head _ h=>exact iha _ h ⟨l,hl⟩
   | tail _ h=>exact ihl _ h
theorem Ns.acc:∀l:List (Nt α),Acc Ns l
 | []=>⟨_,fun _ h=>by cases h⟩
 | a::l=>Ns.acc_cons (Nt.acc a) (Ns.acc l)
theorem Ns.set:∀{l:List (Nt α)} {i:Nat} {a b:Nt α},l[i]?=some b->Nt.Lt a b->Ns (l.set i a) l
 | [],_,_,_,h,_=>by simp at h
 | c::l,0,a,b,h,hl=>by
  simp at h;subst h
  exact .head l hl
 | c::l,i+1,a,b,h,hl=>.tail c (Ns.set (by simpa using h) hl)
end Go.Proofs.YteppiphdbondeaaGreat.N
namespace Go.Proofs.YteppiphdbondeaaGreat.N
set_option linter.unusedSectionVars false
open Go.RowKit
section
open Go.Conc
variable {a a' x:Goroutine} {shape:CommShape}
abbrev Nm (K:Pro):=Nt (K.St×Gh×Goroutine)
def Lv (K:Pro) (σ:K.St) (i:Nat):Prop:=(K.gh σ i).isSome=true
section
variable (P:Program) (K:Pro) (Stop:Goroutine->World->Prop)
def Asleep (sh:Nat->Option Obj) (γ:Gh) (g g2:Goroutine):Prop:=g={g2 with status:=.blocked}∧g2.status=.running∧g2.offers=none∧K.idle sh γ
structure Listens (γ:Gh) (tr:Tr) (g g2:Goroutine) (cs:LV) (shape:CommShape) (v:World):Prop where
 ear:K.ear γ=some (cs.map (·.1))
 step:∀v₁,Rl v v₁->∀F S w,Hid F S w v₁->∃es,stepG P true g w=.comm g2 (cs.map kase).toArray true shape w es∧∀e∈es,EvOk F S w.heap.size e
 k1:∀v₁,Rl v v₁->∀(k c:Nat) (z x:Value) (γ':Gh),cs[k]?=some (c,z)->K.heard γ c x γ'->∃tr',Tr.Lt tr' tr∧GsT P (zSys P K) Stop tr' (g2.finishComm P (cs.map kase).toArray shape k x true) (saying v₁ (gout γ'))
 k2:∀v₁,Rl v v₁->∀(k c:Nat) (z:Value) (σ:K.St),cs[k]?=some (c,z)->K.ok σ->K.gh σ 0=some γ->K.ch σ c=some true->∃γ' σ' tr',Finds K σ c γ' σ'∧Tr.Lt tr' tr∧GsT P (zSys P K) Stop tr' (g2.finishComm P (cs.map kase).toArray shape k z false) (saying v₁ (gout γ'))
 still:∀w,stepG P true g w=stepG P true g2 w
def MainN (sh:Nat->Option Obj) (γ:Gh) (tr:Tr) (g:Goroutine) (v:World):Prop :=
 v.output=gout γ∧(GsT P (zSys P K) Stop tr g v∨(∃g2,Asleep K sh γ g g2∧GsT P (zSys P K) Stop tr g2 v) ∨
  ∃g2 st cs shape,g={g2 with status:=st,offers:=some ((cs.map kase).toArray,shape)}∧(st=.running∨st=.blocked)∧Listens P K Stop γ tr g g2 cs shape v)
def WorkN (sh:Nat->Option Obj) (i:Nat) (γ:Gh) (tr:Tr) (g:Goroutine) (v:World):Prop :=
 v.output=gout γ∧(GsT P (nSys P K i) NoStop tr g v∨(∃g2,Asleep K sh γ g g2∧GsT P (nSys P K i) NoStop tr g2 v) ∨
  ∃g2 c x z γ',g=parked g2 #[scase c x z] .send∧K.says γ c x γ'∧∀v₁,Rl v v₁->∃tr',Tr.Lt tr' tr∧GsT P (nSys P K i) NoStop tr' (Go.Conc.served g2 undef) (saying v₁ (gout γ')))
def Opens (K:Pro) (gs:Array Goroutine) (σ:K.St):Prop:=∀(g2:Goroutine) (cs:LV) (shape:CommShape),gs[0]?=some (parked g2 (cs.map kase).toArray shape)->∀(k c:Nat) (z:Value),cs[k]?=some (c,z)->K.ch σ c≠some true
structure NInv (W:World) (H:Nat->Prop) (gs:Array Goroutine) (w:World) (σ:K.St) (F S:Nat->Nat->Prop) (vs:Nat->World) (m0:Tr) (ms:List (Nm K)) (t:Trace):Prop where
 len:ms.length=gs.size
 ok:K.ok σ
 inside:∀i,Lv K σ i->i<gs.size
 hid:∀i,Lv K σ i->¬(K.ts σ).Dn i->Hid (F i) (S i) w (vs i)
 main:∃γ a,K.gh σ 0=some γ∧gs[0]?=some a∧MainN P K Stop (K.sh σ) γ m0 a (vs 0)
 work:∀i γ,i≠0->K.gh σ i=some γ->∃g m,gs[i]?=some g∧ms[i]?=some m∧((K.ts σ).Dn i->∃tr,m=.quiet tr∧QuietT P K i tr γ g)∧(¬(K.ts σ).Dn i->∃tr,m=.live tr∧WorkN P K (K.sh σ) i γ tr g (vs i))
 old:∀(i:Nat) (g:Goroutine),i≠0->¬Lv K σ i->gs[i]?=some g->∃n,ms[i]?=some (.quits n)∧QuitsD P n (Deaf t i) g
 above:∀j,gs.size<=j->Deaf t j=0
 apt:Apt (Lv K σ) F S w.heap.size
 law:Px (Lv K σ) (K.ts σ).D (K.ts σ).Dn (K.pub σ) (K.ow σ) (K.ts σ).Ca F S w.heap.size t
 shows:K.shows σ w
 pubF:∀b,K.pub σ b->b<w.heap.size∧∀i,Lv K σ i->F i b
 hush:∀i,Lv K σ i->(K.ts σ).Dn i->∀b,b<w.heap.size->F i b
 lent:∀b,S 0 b↔b∈K.lent σ
 soft:∀b∈K.lent σ,¬F 0 b∧∃c t,w.heap[b]?=some (.cells c t (0,0))
 apart:∀(g2:Goroutine) (cs:Array CommCase) (shape:CommShape),gs[0]?=some (parked g2 cs shape)->∀(j:Nat) (g3:Goroutine) (c:Nat) (x z:Value),gs[j]?=some (parked g3 #[scase c x z] .send)->∀(k:Nat) (z':Value),cs[k]?≠some (rcase c z')
 based:Bas W H (Lv K σ) F w
 open0:Opens K gs σ
end
section
variable {P:Program} {K:Pro} {Stop:Goroutine->World->Prop} {sh:Nat->Option Obj} {γ:Gh} {tr:Tr} {g g' g2:Goroutine} {v v' w w':World} {i:Nat}
theorem zrun (hS:∀g v,Stop g v->g.status=.running) (h:GsT P (zSys P K) Stop tr g v):g.status=.running:=by
 cases h with
 | stop h=>exact hS _ _ (h v (Rl.refl v))
 | step hr _ _ _=>exact hr
 | sync nx h k=>exact (h v (Rl.refl v)).1
theorem nrun (h:GsT P (nSys P K i) NoStop tr g v):g.status=.running:=by
 cases h with
 | stop h=>exact (h v (Rl.refl v)).elim
 | step hr _ _ _=>exact hr
 | sync nx h k=>exact (h v (Rl.refl v)).1
theorem Listens.rely {cs:LV} (h:Listens P K Stop γ tr g g2 cs shape v) (hr:Rl v v'):Listens P K Stop γ tr g g2 cs shape v' :=
 ⟨h.ear,fun v₁ h1=>h.step v₁ (hr.trans h1),fun v₁ h1=>h.k1 v₁ (hr.trans h1),fun v₁ h1=>h.k2 v₁ (hr.trans h1),h.still⟩
theorem MainN.rely (h:MainN P K Stop sh γ tr g v) (hr:Rl v v'):MainN P K Stop sh γ tr g v':=by
 obtain⟨h0,h1|⟨g2,h1,h2⟩|⟨g2,st,cs,shape,h1,h2,h3⟩⟩:=h
 ·exact⟨hr.output.trans h0,.inl (h1.rely hr)⟩
 ·exact⟨hr.output.trans h0,.inr (.inl ⟨g2,h1,h2.rely hr⟩)⟩
 ·exact⟨hr.output.trans h0,.inr (.inr ⟨g2,st,cs,shape,h1,h2,h3.rely hr⟩)⟩
theorem WorkN.rely (h:WorkN P K sh i γ tr g v) (hr:Rl v v'):WorkN P K sh i γ tr g v':=by
 obtain⟨h0,h1|⟨g2,h1,h2⟩|⟨g2,c,x,z,γ',h1,h2,h3⟩⟩:=h
 ·exact⟨hr.output.trans h0,.inl (h1.rely hr)⟩
 ·exact⟨hr.output.trans h0,.inr (.inl ⟨g2,h1,h2.rely hr⟩)⟩
 ·exact⟨hr.output.trans h0,.inr (.inr ⟨g2,c,x,z,γ',h1,h2,fun v₁ h4=>h3 v₁ (hr.trans h4)⟩)⟩
theorem zBl (h:g.status=.running):g.again w=g:=by simp[Goroutine.again,h]
theorem zGz (h:Asleep K sh γ g g2):g.again w=g2:=by
 obtain⟨rfl,h1,h2,_⟩:=h;obtain⟨f,cl,st,dy,of⟩:=g2;simp only at h1 h2;subst h1;subst h2
 rfl
theorem MainN.again (hS:∀g v,Stop g v->g.status=.running) (h:MainN P K Stop sh γ tr g v) (sh':Nat->Option Obj):MainN P K Stop sh' γ tr (g.again w) v:=by
 obtain⟨h0,h1|⟨g2,h1,h2⟩|⟨g2,st,cs,shape,rfl,h2,h3⟩⟩:=h
 ·rw[zBl (zrun hS h1)];exact⟨h0,.inl h1⟩
 ·rw[zGz h1];exact⟨h0,.inl h2⟩
 ·refine⟨h0,.inr (.inr ?_)⟩;have hl:∀st',Listens P K Stop γ tr {g2 with status:=st',offers:=some ((cs.map kase).toArray,shape)} g2 cs shape v:=fun st'=>⟨h3.ear,h3.step,h3.k1,h3.k2,h3.still⟩
  rcases h2 with rfl|rfl
  ·exact⟨g2,.running,cs,shape,zBl J,.inl J,by rw[zBl J];exact hl _⟩
  ·unfold Goroutine.again;simp only
   split
   ·exact⟨g2,.running,cs,shape,rfl,.inl J,hl _⟩
   ·exact⟨g2,.blocked,cs,shape,rfl,.inr J,hl _⟩
theorem WorkN.again (h:WorkN P K sh i γ tr g v) (hc:∀c x γ',K.says γ c x γ'->∃r,w.heap[c]?=some (.chan 0 #[] false r r false)) (sh':Nat->Option Obj):WorkN P K sh' i γ tr (g.again w) v:=by
 obtain⟨h0,h1|⟨g2,h1,h2⟩|⟨g2,c,x,z,γ',rfl,h2,h3⟩⟩:=h
 ·rw[zBl (nrun h1)];exact⟨h0,.inl h1⟩
 ·rw[zGz h1];exact⟨h0,.inl h2⟩
 ·obtain⟨r,hr⟩:=hc c x γ' h2;refine⟨h0,.inr (.inr ⟨g2,c,x,z,γ',?_,h2,h3⟩)⟩;simp[Goroutine.again,parked,scase,hr]
theorem zGb (a a':Goroutine) (w':World) (x:Goroutine):woken P a a' w' x=x∨woken P a a' w' x=x.again w':=by
 unfold woken
 split
 ·exact .inr J
 ·exact .inl J
theorem MainN.woken (hS:∀g v,Stop g v->g.status=.running) (h:MainN P K Stop sh γ tr g v):MainN P K Stop sh γ tr (Go.Conc.woken P a a' w' g) v:=by
 rcases zGb (P:=P) a a' w' g with e|e<;>rw[e]
 ·exact h
 ·exact h.again hS sh
theorem WorkN.woken (h:WorkN P K sh i γ tr g v) (hc:∀c x γ',K.says γ c x γ'->∃r,w'.heap[c]?=some (.chan 0 #[] false r r false)):WorkN P K sh i γ tr (Go.Conc.woken P a a' w' g) v:=by
 rcases zGb (P:=P) a a' w' g with e|e<;>rw[e]
 ·exact h
 ·exact h.again hc sh
theorem zV3 (hm:mayWake P a=true) (hr:a'.status=.running∨a'.status=.finished):Go.Conc.woken P a a' w' x=x.again w':=by
 unfold Go.Conc.woken;rw[if_pos];rcases hr with h|h<;>rw[hm,h]<;>rfl
theorem QuietT.woken {t:QTr (K.St×Gh×Goroutine)} (h:QuietT P K i t γ g):Go.Conc.woken P a a' w' g=g:=by
 rcases zGb (P:=P) a a' w' g with e|e<;>rw[e];exact zBl h.run
theorem zDx {g2:Goroutine} {cs:Array CommCase} (h:Go.Conc.woken P a a' w' x=parked g2 cs shape):∃g3,x=parked g3 cs shape:=by
 rcases zGb (P:=P) a a' w' x with e|e
 ·exact⟨g2,by rw[<-e];exact h⟩
 ·rw[e] at h;unfold Goroutine.again at h
  split at h
  ·dsimp only at h
   split at h
   ·exact absurd (congrArg Goroutine.status h) (by simp[parked])
   ·exact⟨g2,h⟩
  ·exact absurd (congrArg Goroutine.status h) (by simp[parked])
  ·exact absurd (congrArg Goroutine.status h) (by simp[parked])
  ·exact⟨g2,h⟩
end
end
section
open Go.Conc
section
variable {P:Program} {K:Prot} {W:World} {H:Nat->Prop} {Stop:Goroutine->World->Prop} {s:Gst} {m m0:Mt} {ms:List Mt} {g:Goroutine} {v v' w:World} {c:Nat} {l:List UInt8} {gs:Array Goroutine} {ids:List Nat} {F S:Nat->Nat->Prop} {vs:Nat->World} {t:Trace}
theorem Apt.step {Liv:Nat->Prop} {w w':World} {i:Nat} (h:Apt Liv F S w.heap.size):Apt Liv (fun j b=>if j=i then F i b else more (F j) w w' b) S w'.heap.size:=by
 intro a b ha hb hne k hk hF hS
 by_cases e1:a=i
 ·subst e1;have e2:b≠a:=fun e=>hne e.symm;simp only[if_true] at hF;simp only[e2,if_false]
  rcases Nat.lt_or_ge k w.heap.size with hl|hl
  ·exact .inl (h a b ha hb hne k hl hF hS)
  ·exact .inr ⟨hl,hk⟩
 ·simp only[e1,if_false] at hF
  have hl:k<w.heap.size:=by
   rcases Nat.lt_or_ge k w.heap.size with hl|hl
   ·exact hl
   ·exact absurd (.inr ⟨hl,hk⟩) hF
  have hF':=h a b ha hb hne k hl (fun x=>hF (.inl x)) hS
  by_cases e2:b=i
  ·subst e2;simpa using hF'
  ·simp only[e2,if_false];exact .inl hF'
end
variable {B:Nat} {a a':Goroutine}
section
variable {P:Program} {K:Pro} {W:World} {H:Nat->Prop} {Stop:Goroutine->World->Prop} {σ:K.St} {m0 tr:Tr} {ms:List (Nm K)} {g g':Goroutine} {v v' w w':World} {i:Nat} {gs:Array Goroutine} {F S:Nat->Nat->Prop} {vs:Nat->World} {t:Trace} {es:Array Event}
theorem zUr {F S:Nat->Prop} {e:Event} (h:EvOk F S B e) (a:Addr):MemAct.ofEvent e≠.mark (.release a):=by
 obtain⟨loc,wr,sy⟩:=e;intro x
 cases loc with
 | mark m =>
  have h':softMark m:=h;have e1:MemAct.ofEvent ⟨.mark m,wr,sy⟩=.mark m:=by cases wr<;>cases sy<;>rfl
  rw[e1] at x;simp only[MemAct.mark.injEq] at x;subst x
  exact h'.elim
 | cell a'=>cases wr<;>cases sy<;>cases x
 | obj r=>cases wr<;>cases sy<;>cases x
 | output=>exact h.elim
 | goroutines=>exact h.elim
theorem zMl {F S:Nat->Prop} {g:Nat} {fn:FuncId} {pos:String} {es:Array Event} (h:∀e∈es,EvOk F S B e):∀op∈MemOp.ofEvents g fn pos es,∀a,op.act≠.mark (.release a):=by
 intro op hop a;obtain⟨e,he,rfl⟩:=Go.Conc.mem_ofEvents hop;exact zUr (h e he) a
theorem zJ4 {Fi Si:Nat->Prop} {w w':World} (hk:Kept Fi Si w w') {b:Nat} (hb:b<w.heap.size) (hF:Fi b):w'.heap[b]?=w.heap[b]?:=hk.block b hb (.inl hF)
theorem NInv.zero (h:NInv P K Stop W H gs w σ F S vs m0 ms t):Lv K σ 0:=by
 obtain⟨γ,_,h1,_⟩:=h.main;simp[Lv,h1]
theorem NInv.shown (h:NInv P K Stop W H gs w σ F S vs m0 ms t) (L:K.Laws) (hi:Lv K σ i) (hk:Kept (F i) (S i) w w'):K.shows σ w':=by
 obtain⟨l1,l2,_⟩:=L.inner σ h.ok
 refine⟨fun b o ho=>?_,fun c x hx=>?_⟩
 ·have:=h.pubF b (l1 b o ho);rw[zJ4 hk this.1 (this.2 i hi)];exact h.shows.1 b o ho
 ·have:=h.pubF c (l2 c x hx);obtain⟨r,hr⟩:=h.shows.2 c x hx;exact⟨r,by rw[zJ4 hk this.1 (this.2 i hi)];exact hr⟩
theorem zC2 (L:K.Laws) (ok:K.ok σ) (hs:K.shows σ w) {j:Nat} {γ:Gh} (hj:K.gh σ j=some γ):∀c x γ',K.says γ c x γ'->∃r,w.heap[c]?=some (.chan 0 #[] false r r false) :=
 fun c _ _ h=>hs.2 c false (L.spk σ j γ c _ _ ok hj h).1
theorem zCk {gs:Array Goroutine} {w':World} {i:Nat} (hi:i<gs.size) (hr:a'.status≠.blocked)
  (h:∀(g2:Goroutine) (cs:Array CommCase) (shape:CommShape),gs[0]?=some (parked g2 cs shape)->∀(j:Nat) (g3:Goroutine) (c:Nat) (x z:Value),gs[j]?=some (parked g3 #[scase c x z] .send)->∀(k:Nat) (z':Value),cs[k]?≠some (rcase c z')) :
  ∀(g2:Goroutine) (cs:Array CommCase) (shape:CommShape),((gs.map (Go.Conc.woken P a a' w')).setIfInBounds i a')[0]?=some (parked g2 cs shape)->∀(j:Nat) (g3:Goroutine) (c:Nat) (x z:Value),((gs.map (Go.Conc.woken P a a' w')).setIfInBounds i a')[j]?=some (parked g3 #[scase c x z] .send)->∀(k:Nat) (z':Value),cs[k]?≠some (rcase c z'):=by
 have back:∀(j:Nat) (g2:Goroutine) (cs:Array CommCase) (shape:CommShape),((gs.map (Go.Conc.woken P a a' w')).setIfInBounds i a')[j]?=some (parked g2 cs shape)->∃g3,gs[j]?=some (parked g3 cs shape):=by
  intro j g2 cs shape hj
  by_cases e:i=j
  ·subst e;rw[Array.getElem?_setIfInBounds_self_of_lt (by simpa using hi)] at hj;have e2:=congrArg Goroutine.status (Option.some.inj hj);exact absurd e2 hr
  ·rw[Array.getElem?_setIfInBounds_ne e,Array.getElem?_map] at hj;obtain⟨y,hy,h1⟩:=Option.map_eq_some_iff.1 hj;obtain⟨g3,rfl⟩:=zDx h1;exact⟨g3,hy⟩
 intro g2 cs shape h0 j g3 c x z hj;obtain⟨g4,h1⟩:=back 0 g2 cs shape h0;obtain⟨g5,h2⟩:=back j g3 _ _ hj;exact h g4 cs shape h1 j g5 c x z h2
theorem zBk {K:Pro} {σ:K.St} {gs:Array Goroutine} {g:Goroutine} (h:gs[0]?=some g) (hr:g.status≠.blocked):Opens K gs σ:=by
 intro g2 cs shape h0;rw[h] at h0;exact absurd (congrArg Goroutine.status (Option.some.inj h0)) hr
theorem zEs {gs:Array Goroutine} {w':World} {i:Nat} (hi:i<gs.size) (hr:a'.status≠.blocked) (h:Opens K gs σ):Opens K ((gs.map (Go.Conc.woken P a a' w')).setIfInBounds i a') σ:=by
 intro g2 cs shape h0
 by_cases e:i=0
 ·subst e;rw[Array.getElem?_setIfInBounds_self_of_lt (by simpa using hi)] at h0;exact absurd (congrArg Goroutine.status (Option.some.inj h0)) hr
 ·rw[Array.getElem?_setIfInBounds_ne e,Array.getElem?_map] at h0;obtain⟨y,hy,h1⟩:=Option.map_eq_some_iff.1 h0;obtain⟨g3,rfl⟩:=zDx h1;exact h g3 cs shape hy
theorem NInv.own (h:NInv P K Stop W H gs w σ F S vs m0 ms t) (L:K.Laws) (hS:∀g v,Stop g v->g.status=.running) (hi:Lv K σ i) (hnd:¬(K.ts σ).Dn i) (hg:gs[i]?=some g) (hk:Kept (F i) (S i) w w') (hv:Hid (F i) (S i) w' v') (he:∀e∈es,EvOk (F i) (S i) w'.heap.size e) (hr:g'.status=.running)
  (hm:i=0->∀γ,K.gh σ 0=some γ->MainN P K Stop (K.sh σ) γ tr g' v') (hw:i≠0->∀γ,K.gh σ i=some γ->WorkN P K (K.sh σ) i γ tr g' v') :
  NInv P K Stop W H ((gs.map (Go.Conc.woken P g g' w')).setIfInBounds i g') w' σ (fun j b=>if j=i then F i b else more (F j) w w' b) S (fun j=>if j=i then v' else grown (vs j) w')
   (if i=0 then tr else m0) (if i=0 then ms else ms.set i (.live tr)) (t++MemOp.ofEvents i g.frame.fn g.frame.place es):=by
 have hlt:i<gs.size:=(Array.getElem?_eq_some_iff.1 hg).1
 have hne:∀j,i≠j->((gs.map (Go.Conc.woken P g g' w')).setIfInBounds i g')[j]?=(gs[j]?).map (Go.Conc.woken P g g' w'):=fun j hj=>by
  rw[Array.getElem?_setIfInBounds_ne hj,Array.getElem?_map]
 have hself:((gs.map (Go.Conc.woken P g g' w')).setIfInBounds i g')[i]?=some g':=Array.getElem?_setIfInBounds_self_of_lt (by simpa using hlt);have hfair:=zQk (g:=i) (fn:=g.frame.fn) (pos:=g.frame.place) he;have hdeaf:∀j,Deaf (t++MemOp.ofEvents i g.frame.fn g.frame.place es) j=Deaf t j:=fun j=>Deaf_quiet fun op hop d=>(hfair op hop).2.2.2 j d;have hshow:=h.shown L hi hk
 have hpub:∀b,K.pub σ b->b<w'.heap.size∧∀j,Lv K σ j->(if j=i then F i b else more (F j) w w' b):=fun b hb=>by
  obtain⟨h1,h2⟩:=h.pubF b hb;refine⟨Nat.lt_of_lt_of_le h1 hk.size,fun j hj=>?_⟩
  by_cases e:j=i
  ·subst e;simpa using h2 j hj
  ·simp only[e,if_false];exact .inl (h2 j hj)
 refine⟨?_,h.ok,fun j hj=>by simpa using h.inside j hj,fun j hj hd=>?_,?_,fun j γ hj0 hj=>?_,fun j x hj hn hx=>?_,fun j hj=>?_,h.apt.step,?_,hshow,hpub,fun j hj hd b hb=>?_,h.lent,fun b hb=>?_,zCk hlt (by rw[hr];simp) h.apart,h.based.step hi hk,zEs hlt (by rw[hr];simp) h.open0⟩
 ·by_cases e:i=0<;>simp[e,h.len]
 ·by_cases e:j=i
  ·subst e;simpa using hv
  ·simp only[e,if_false];exact (h.hid j hj hd).beside hk fun b hb h1 h2=>h.apt i j hi hj (Ne.symm e) b hb h1 h2
 ·obtain⟨γ,a,h1,h2,h3⟩:=h.main
  by_cases e:i=0
  ·subst e;exact⟨γ,g',h1,hself,by simpa using hm J γ h1⟩
  ·refine⟨γ,Go.Conc.woken P g g' w' a,h1,by rw[hne 0 e,h2];rfl,?_⟩;have e':(0:Nat)≠i:=fun x=>e x.symm;simp only[e',e,if_false];exact (h3.woken hS).rely .grown
 ·obtain⟨x,m1,h2,h3,h4,h5⟩:=h.work j γ hj0 hj
  by_cases e:i=j
  ·subst e;refine⟨g',.live tr,hself,?_,fun x=>absurd x hnd,fun _=>⟨tr,rfl,by simpa using hw hj0 γ hj⟩⟩;simp only[hj0,if_false];rw[List.getElem?_set_self (by rw[h.len];exact hlt)]
  ·refine⟨Go.Conc.woken P g g' w' x,m1,by rw[hne j e,h2];rfl,?_,fun hd=>?_,fun hd=>?_⟩
   ·by_cases e0:i=0
    ·simp only[e0,if_true];exact h3
    ·simp only[e0,if_false];rw[List.getElem?_set_ne e];exact h3
   ·obtain⟨q,h6,h7⟩:=h4 hd;exact⟨q,h6,by rw[h7.woken];exact h7⟩
   ·obtain⟨q,h6,h7⟩:=h5 hd;have e':j≠i:=fun x=>e x.symm;simp only[e',if_false];exact⟨q,h6,(h7.woken (zC2 L h.ok hshow hj)).rely .grown⟩
 ·have e:i≠j:=fun e=>by subst e;exact hn hi
  rw[hne j e] at hx;obtain⟨y,hy,rfl⟩:=Option.map_eq_some_iff.1 hx;obtain⟨n,h1,h2⟩:=h.old j y hj hn hy
  refine⟨n,?_,?_⟩
  ·by_cases e0:i=0
   ·simp only[e0,if_true];exact h1
   ·simp only[e0,if_false];rw[List.getElem?_set_ne e];exact h1
  ·rw[woken_quitsD h2,hdeaf];exact h2
 ·rw[hdeaf];exact h.above j (by simpa using hj)
 ·refine Px.own (g:=i) (h.law.mono (fun j b _ hF=>?_) (fun _ _ _ _ h=>h) hk.size) h.apt.step (fun j b hj hb=>(hpub b hb).2 j hj) hi hnd (fun op hop=>(hfair op hop).1) (fun op hop=>by simpa using (hfair op hop).2.1) hdeaf (fun op hop=>(hfair op hop).2.2.1) (zMl he)
  by_cases e:j=i
  ·subst e;simpa using hF
  ·simp only[e,if_false];exact .inl hF
 ·by_cases e:j=i
  ·subst e;exact absurd hd hnd
  ·simp only[e,if_false]
   rcases Nat.lt_or_ge b w.heap.size with x|x
   ·exact .inl (h.hush j hj hd b x)
   ·exact .inr ⟨x,hb⟩
 ·obtain⟨h1,cs,tt,h2⟩:=h.soft b hb;have hbl:=(Array.getElem?_eq_some_iff.1 h2).1
  have h3:w'.heap[b]?=w.heap[b]?:=hk.block b hbl (by
   by_cases e:i=0
   ·subst e;exact .inr ((h.lent b).2 hb)
   ·by_cases x:F i b
    ·exact .inl x
    ·by_cases y:S i b
     ·exact .inr y
     ·exact absurd (h.apt i 0 hi h.zero e b hbl x y) h1)
  refine⟨?_,cs,tt,by rw[h3];exact h2⟩
  by_cases e:0=i
  ·subst e;simpa using h1
  ·simp only[e,if_false]
   rintro (x|x)
   ·exact h1 x
   ·exact absurd x.1 (by omega)
theorem NInv.left (h:NInv P K Stop W H gs w σ F S vs m0 ms t) (L:K.Laws) (hS:∀g v,Stop g v->g.status=.running) (hi0:i≠0) (hi:¬Lv K σ i) (hg:gs[i]?=some g) (hm:∀e∈es,Event.mute e=true) {n:Nat} (hq:QuitsD P n (deafBehind (Deaf t i) es) g') :
  NInv P K Stop W H ((gs.map (Go.Conc.woken P g g' w)).setIfInBounds i g') w σ F S vs m0 (ms.set i (.quits n)) (t++MemOp.ofEvents i g.frame.fn g.frame.place es):=by
 have hlt:i<gs.size:=(Array.getElem?_eq_some_iff.1 hg).1
 have hne:∀j,i≠j->((gs.map (Go.Conc.woken P g g' w)).setIfInBounds i g')[j]?=(gs[j]?).map (Go.Conc.woken P g g' w):=fun j hj=>by
  rw[Array.getElem?_setIfInBounds_ne hj,Array.getElem?_map]
 have hself:((gs.map (Go.Conc.woken P g g' w)).setIfInBounds i g')[i]?=some g':=Array.getElem?_setIfInBounds_self_of_lt (by simpa using hlt);have hdeaf:∀j,i≠j->Deaf (t++MemOp.ofEvents i g.frame.fn g.frame.place es) j=Deaf t j:=fun j hj=>Deaf_other t hj _ (fun op hop=>by obtain⟨e,_,rfl⟩:=Go.Conc.mem_ofEvents hop;rfl)
 have hmut:∀e∈es,∀a,MemAct.ofEvent e≠.mark (.release a):=fun e he a x=>by
  have:=hm e he;obtain⟨loc,wr,sy⟩:=e
  cases loc with
  | mark m=>cases m<;>simp_all[Event.mute,MemAct.ofEvent]
  | _=>simp[Event.mute] at this
 refine⟨by simp[h.len],h.ok,fun j hj=>by simpa using h.inside j hj,h.hid,?_,fun j γ hj0 hj=>?_,fun j x hj hn hx=>?_,fun j hj=>?_,h.apt,
  h.law.left hi (fun op hop=>by obtain⟨e,_,rfl⟩:=Go.Conc.mem_ofEvents hop;rfl) (fun op hop=>by obtain⟨e,he,rfl⟩:=Go.Conc.mem_ofEvents hop;exact touch_mute (hm e he)) (fun op hop=>by obtain⟨e,he,rfl⟩:=Go.Conc.mem_ofEvents hop;exact low_mute (hm e he) _) (fun op hop=>by obtain⟨e,he,rfl⟩:=Go.Conc.mem_ofEvents hop;exact hmut e he),
  h.shows,h.pubF,h.hush,h.lent,h.soft,zCk hlt (by rcases hq.status with e|e<;>rw[e]<;>simp) h.apart,h.based,zEs hlt (by rcases hq.status with e|e<;>rw[e]<;>simp) h.open0⟩
 ·obtain⟨γ,a,h1,h2,h3⟩:=h.main;exact⟨γ,Go.Conc.woken P g g' w a,h1,by rw[hne 0 hi0,h2];rfl,h3.woken hS⟩
 ·have e:i≠j:=fun e=>by subst e;exact hi (by simp[Lv,hj])
  obtain⟨x,m1,h2,h3,h4,h5⟩:=h.work j γ hj0 hj
  refine⟨Go.Conc.woken P g g' w x,m1,by rw[hne j e,h2];rfl,by rw[List.getElem?_set_ne e];exact h3,fun hd=>?_,fun hd=>?_⟩
  ·obtain⟨q,h6,h7⟩:=h4 hd;exact⟨q,h6,by rw[h7.woken];exact h7⟩
  ·obtain⟨q,h6,h7⟩:=h5 hd;exact⟨q,h6,h7.woken (zC2 L h.ok h.shows hj)⟩
 ·by_cases e:i=j
  ·subst e;rw[hself] at hx
   cases hx
   exact⟨n,List.getElem?_set_self (by rw[h.len];exact hlt),by rw[Deaf_own];exact hq⟩
  ·rw[hne j e] at hx;obtain⟨y,hy,rfl⟩:=Option.map_eq_some_iff.1 hx;obtain⟨n',h1,h2⟩:=h.old j y hj hn hy;exact⟨n',by rw[List.getElem?_set_ne e];exact h1,by rw[woken_quitsD h2,hdeaf j e];exact h2⟩
 ·have hj':gs.size<=j:=by simpa using hj
  rw[hdeaf j (by omega)];exact h.above j hj'
end
end
section
open Go.Conc
section
variable {P:Program} {K:Pro} {W:World} {H:Nat->Prop} {Stop:Goroutine->World->Prop} {σ σ':K.St} {m0 tr:Tr} {ms:List (Nm K)} {mi:Nm K} {g g':Goroutine} {v v' w w':World} {i:Nat} {gs:Array Goroutine} {F S:Nat->Nat->Prop} {vs:Nat->World} {t:Trace} {es:Array Event} {acts:List MemAct} {cl:Option Nat}
theorem Px.relax {Liv:Nat->Prop} {D D':Nat->Nat} {Dn Dn' Sh:Nat->Prop} {Ow B:Nat} {Ca Ca':Car->Prop} (h:Px Liv D Dn Sh Ow Ca F S B t) (hD:∀g,Liv g->D' g=D g) (hDn:∀g,Liv g->Dn' g->Dn g) (hCa:∀c,Ca c->Ca' c):Px Liv D' Dn' Sh Ow Ca' F S B t :=
 ⟨h.clean,h.perm,h.wrote,h.shr,h.said,fun i a h1 h2 h3=>(h.known i a h1 h2 h3).imp (fun⟨g,h4,h5,h6⟩=>⟨g,h4,fun x=>h5 (hDn g h4 x),h6⟩) fun⟨c,h4,h5⟩=>⟨c,hCa c h4,h5⟩,fun g hg=>(h.hears g hg).trans (hD g hg).symm,h.norel,h.seen⟩
theorem Hid.turned {F S:Nat->Prop} {w w' v:World} (h:Hid F S w v) (hs:w'.heap.size=w.heap.size) (ho:w'.os=w.os) (ht:w'.tape=w.tape) (hd:w'.drawn=w.drawn) (hb:∀b,¬F b->w'.heap[b]?=w.heap[b]?):Hid F S w' v :=
 ⟨h.tape.trans ht.symm,h.drawn.trans hd.symm,h.os.trans ho.symm,h.size.trans hs.symm,fun b x=>by rw[hs];exact h.fitF b x,fun b x=>by rw[hs];exact h.fitS b x,h.away,fun b x y=>by
  obtain⟨c,tt,fz,h1,h2⟩:=h.still b x y
  exact⟨c,tt,fz,by rw[hb b y];exact h1,h2⟩,fun b x y=>by rw[hb b x];exact h.same b x y,h.plain⟩
theorem zTb {d:Nat} {es:Array Event}:dacts d (es.toList.map MemAct.ofEvent)=deafBehind d es:=by
 obtain⟨l⟩:=es;unfold dacts deafBehind;simp only[List.foldl_toArray',List.foldl_map]
 congr 1
 funext d e
 obtain⟨loc,wr,sy⟩:=e
 cases loc with
 | mark m=>cases m<;>cases wr<;>cases sy<;>rfl
 | obj c=>cases wr<;>cases sy<;>rfl
 | _=>cases wr<;>cases sy<;>rfl
def says (K:Pro) (σ':K.St) (i:Nat) (v:World):World:=saying v (gout ((K.gh σ' i).getD []))
theorem zS0 {γ:Gh} (h:K.gh σ' i=some γ) (v:World):says K σ' i v=saying v (gout γ):=by simp[says,h]
theorem NInv.turn (h:NInv P K Stop W H gs w σ F S vs m0 ms t) (L:K.Laws) (hKW:K.low=W.heap.size) (hS:∀g v,Stop g v->g.status=.running) (hi:Lv K σ i) (hg:gs[i]?=some g) (hmv:K.Moves i σ acts cl σ') (hT:K.turns σ σ' w w') (hes:es.toList.map MemAct.ofEvent=acts) (hmw:mayWake P g=true)
  (hst:g'.status=.running∨g'.status=.finished)
  (f0:i=0->∀γ',K.gh σ' 0=some γ'->MainN P K Stop (K.sh σ') γ' tr g' (saying (vs 0) (gout γ')))
  (f1:i≠0->∀γ',K.gh σ' i=some γ'->((K.ts σ').Dn i->∃q,mi=.quiet q∧QuietT P K i q γ' g')∧(¬(K.ts σ').Dn i->¬(K.ts σ).Dn i∧∃tr,mi=.live tr∧WorkN P K (K.sh σ') i γ' tr g' (saying (vs i) (gout γ'))))
  (f2:i≠0->K.gh σ' i=none->∃n,mi=.quits n∧QuitsD P n (dacts ((K.ts σ).D i) acts) g') :
  NInv P K Stop W H ((gs.map (Go.Conc.woken P g g' w')).setIfInBounds i g') w' σ' (fun j b=>F j b∨(j=i∧(K.ts σ').Dn i∧b<w.heap.size)) S (fun j=>if j=i then says K σ' i (vs i) else vs j)
   (if i=0 then tr else m0) (if i=0 then ms else ms.set i mi) (t++MemOp.ofEvents i g.frame.fn g.frame.place es):=by
 have hlt:i<gs.size:=(Array.getElem?_eq_some_iff.1 hg).1
 have hne:∀j,i≠j->((gs.map (Go.Conc.woken P g g' w')).setIfInBounds i g')[j]?=(gs[j]?).map (Go.Conc.woken P g g' w'):=fun j hj=>by
  rw[Array.getElem?_setIfInBounds_ne hj,Array.getElem?_map]
 have hself:((gs.map (Go.Conc.woken P g g' w')).setIfInBounds i g')[i]?=some g':=Array.getElem?_setIfInBounds_self_of_lt (by simpa using hlt);have hwk:∀x,Go.Conc.woken P g g' w' x=x.again w':=fun x=>zV3 hmw hst;obtain⟨l1,l2,l3⟩:=L.inner σ h.ok;have hz':=(L.zero σ' hmv.ok).2
 have hL:∀j,Lv K σ' j->Lv K σ j:=fun j hj=>by
  by_cases e:j=i
  ·subst e;exact hi
  ·unfold Lv at hj ⊢;rw[<-hmv.oth j e];exact hj
 have hnp:∀j b,Lv K σ j->¬F j b->w'.heap[b]?=w.heap[b]?:=fun j b hj hF=>hT.block b fun hp=>hF ((h.pubF b hp).2 j hj);have hdeaf:∀j,i≠j->Deaf (t++MemOp.ofEvents i g.frame.fn g.frame.place es) j=Deaf t j:=fun j hj=>Deaf_other t hj _ (fun op hop=>by obtain⟨e,_,rfl⟩:=Go.Conc.mem_ofEvents hop;rfl);obtain⟨s1,hq,q1,q2,q3,q4⟩:=hmv.tq w.heap.size fun b hb=>(h.pubF b hb).1;have hF0:∀b,(F 0 b∨(0=i∧(K.ts σ').Dn i∧b<w.heap.size))->F 0 b:=fun b x=>x.elim id fun⟨e,y,_⟩=>absurd (by rw[e];exact y) hz'
 have hlaw:Px (Lv K σ') (K.ts σ').D (K.ts σ').Dn (K.pub σ') (K.ow σ') (K.ts σ').Ca (fun j b=>F j b∨(j=i∧(K.ts σ').Dn i∧b<w.heap.size)) S w'.heap.size (t++MemOp.ofEvents i g.frame.fn g.frame.place es):=by
  have p1:Px (Lv K σ) s1.D s1.Dn (K.pub σ) (K.ow σ) s1.Ca F S w.heap.size (t++MemOp.ofEvents i g.frame.fn g.frame.place es):=by
   have:=Px.many hq (fun j b hj hb=>(h.pubF b hb).2 j hj) hi (t:=t) (us:=(MemOp.ofEvents i g.frame.fn g.frame.place es).toList) h.law (by rw[ofEvents_eq,Array.toList_map,List.map_map,<-hes];rfl) (fun op hop=>by
    obtain⟨e,_,rfl⟩:=Go.Conc.mem_ofEvents (Array.mem_toList_iff.1 hop);rfl)
   simpa using this
  have p2:=p1.fewer (Liv':=Lv K σ') hL fun j hj hd=>by
   by_cases e:j=i
   ·subst e
    cases hgj:K.gh σ' j with
    | none=>exact absurd (q4 hgj) hd
    | some x=>simp[Lv,hgj]
   ·unfold Lv at hj ⊢;rw[hmv.oth j e];exact hj
  have p3:=(p2.relax (D':=(K.ts σ').D) (Dn':=(K.ts σ').Dn) (Ca':=(K.ts σ').Ca) q1 (fun j _=>q2 j) q3).mono (F':=fun j b=>F j b∨(j=i∧(K.ts σ').Dn i∧b<w.heap.size)) (S':=S) (fun _ _ _ x=>.inl x) (fun _ _ _ _ x=>x) (Nat.le_of_eq hT.size.symm);rw[hmv.pub,hmv.ow];exact p3
 have hch:∀j γ,j≠0->K.gh σ' j=some γ->∀c x γ',K.says γ c x γ'->∃r,w'.heap[c]?=some (.chan 0 #[] false r r false):=fun j γ _ hj=>zC2 L hmv.ok hT.shows hj
 refine⟨?_,hmv.ok,fun j hj=>by simpa using h.inside j (hL j hj),fun j hj hd=>?_,?_,fun j γ hj0 hj=>?_,fun j x hj hn hx=>?_,fun j hj=>?_,?_,hlaw,hT.shows,fun b hb=>?_,fun j hj hd b hb=>?_,fun b=>by rw[hmv.lent];exact h.lent b,fun b hb=>?_,zCk hlt (by rcases hst with e|e<;>rw[e]<;>simp) h.apart,?_,?_⟩
 ·by_cases e:i=0<;>simp[e,h.len]
 ·by_cases e:j=i
  ·subst e
   have hd0:¬(K.ts σ).Dn j:=by
    by_cases e0:j=0
    ·subst e0;exact (L.zero σ h.ok).2
    ·obtain⟨γ,hγ⟩:=Option.isSome_iff_exists.1 hj;exact ((f1 e0 γ hγ).2 hd).1
   have hFe:(fun b=>F j b∨(j=j∧(K.ts σ').Dn j∧b<w.heap.size))=F j:=by
    funext b
    exact propext ⟨fun x=>x.elim id fun y=>absurd y.2.1 hd,.inl⟩
   rw[hFe];simp only[if_true];exact ((h.hid j hi hd0).turned hT.size hT.os hT.tape hT.drawn (fun b hb=>hnp j b hi hb)).saying _
  ·have hd0:¬(K.ts σ).Dn j:=fun x=>hd ((hmv.dn j e).2 x)
   have hFe:(fun b=>F j b∨(j=i∧(K.ts σ').Dn i∧b<w.heap.size))=F j:=by
    funext b
    exact propext ⟨fun x=>x.elim id fun y=>absurd y.1 e,.inl⟩
   rw[hFe];simp only[e,if_false];exact (h.hid j (hL j hj) hd0).turned hT.size hT.os hT.tape hT.drawn fun b hb=>hnp j b (hL j hj) hb
 ·by_cases e:i=0
  ·subst e;obtain⟨γ',hγ⟩:=(L.zero σ' hmv.ok).1;refine⟨γ',g',hγ,hself,?_⟩;simp only[if_true];rw[zS0 hγ];exact f0 J γ' hγ
  ·obtain⟨γ,a,h1,h2,h3⟩:=h.main;have e':(0:Nat)≠i:=fun x=>e x.symm;refine⟨γ,a.again w',by rw[hmv.oth 0 e'];exact h1,by rw[hne 0 e,h2];simp[hwk],?_⟩;simp only[e',e,if_false];exact h3.again hS _
 ·by_cases e:i=j
  ·subst e
   refine⟨g',mi,hself,?_,(f1 hj0 γ hj).1,fun hd=>?_⟩
   ·simp only[hj0,if_false];rw[List.getElem?_set_self (by rw[h.len];exact hlt)]
   ·obtain⟨_,q,h6,h7⟩:=(f1 hj0 γ hj).2 hd;refine⟨q,h6,?_⟩;simp only[if_true];rw[zS0 hj];exact h7
  ·have e':j≠i:=fun x=>e x.symm;rw[hmv.oth j e'] at hj;obtain⟨x,m1,h2,h3,h4,h5⟩:=h.work j γ hj0 hj
   refine⟨x.again w',m1,by rw[hne j e,h2];simp[hwk],?_,fun hd=>?_,fun hd=>?_⟩
   ·by_cases e0:i=0
    ·simp only[e0,if_true];exact h3
    ·simp only[e0,if_false];rw[List.getElem?_set_ne e];exact h3
   ·obtain⟨q,h6,h7⟩:=h4 ((hmv.dn j e').1 hd);exact⟨q,h6,by rw[zBl h7.run];exact h7⟩
   ·obtain⟨q,h6,h7⟩:=h5 fun x=>hd ((hmv.dn j e').2 x);simp only[e',if_false];exact⟨q,h6,h7.again (hch j γ hj0 (by rw[hmv.oth j e'];exact hj)) _⟩
 ·by_cases e:i=j
  ·subst e;rw[hself] at hx
   cases hx
   have hnone:K.gh σ' i=none:=by
    cases hgi:K.gh σ' i with
    | none=>rfl
    | some y=>exact absurd (by simp[Lv,hgi]) hn
   obtain⟨n,h1,h2⟩:=f2 hj hnone
   refine⟨n,?_,?_⟩
   ·simp only[hj,if_false];rw[List.getElem?_set_self (by rw[h.len];exact hlt),h1]
   ·rw[Deaf_own,h.law.hears i hi,<-zTb,hes];exact h2
  ·have e':j≠i:=fun x=>e x.symm;have hn':¬Lv K σ j:=fun y=>hn (by unfold Lv at y ⊢;rw[hmv.oth j e'];exact y);rw[hne j e] at hx;obtain⟨y,hy,rfl⟩:=Option.map_eq_some_iff.1 hx;obtain⟨n,h1,h2⟩:=h.old j y hj hn' hy;refine⟨n,?_,by rw[woken_quitsD h2,hdeaf j e];exact h2⟩
   by_cases e0:i=0
   ·simp only[e0,if_true];exact h1
   ·simp only[e0,if_false];rw[List.getElem?_set_ne e];exact h1
 ·have hj':gs.size<=j:=by simpa using hj
  rw[hdeaf j (by omega)];exact h.above j hj'
 ·rw[hT.size];intro a b ha hb hab k hk hF hS';exact .inl (h.apt a b (hL a ha) (hL b hb) hab k hk (fun x=>hF (.inl x)) hS')
 ·rw[hmv.pub] at hb;obtain⟨h1,h2⟩:=h.pubF b hb;exact⟨by rw[hT.size];exact h1,fun j hj=>.inl (h2 j (hL j hj))⟩
 ·rw[hT.size] at hb
  by_cases e:j=i
  ·subst e;exact .inr ⟨rfl,hd,hb⟩
  ·exact .inl (h.hush j (hL j hj) ((hmv.dn j e).1 hd) b hb)
 ·rw[hmv.lent] at hb;obtain⟨h1,cs,tt,h2⟩:=h.soft b hb;exact⟨fun x=>h1 (hF0 b x),cs,tt,by rw[hnp 0 b h.zero h1];exact h2⟩
 ·refine⟨hT.os.trans h.based.os,hT.tape.trans h.based.tape,hT.output.trans h.based.output,by rw[hT.size];exact h.based.size,fun b hb=>?_,fun b hb hF=>h.based.new b hb (hF0 b hF)⟩;obtain⟨h1,h2,h3⟩:=h.based.held b hb;refine⟨h1,?_,fun j hj=>.inl (h3 j (hL j hj))⟩
  rw[hT.block b fun hp=>?_]
  ·exact h2
  ·have:=l3 b hp;omega
 ·by_cases e:i=0
  ·subst e;exact zBk hself (by rcases hst with e|e<;>rw[e]<;>simp)
  ·intro g2 cs shape h0 k c z hk hc;rw[hne 0 e] at h0;obtain⟨y,hy,h1⟩:=Option.map_eq_some_iff.1 h0;obtain⟨g3,rfl⟩:=zDx h1;obtain⟨r,hr⟩:=hT.shows.2 c true hc;rw[hwk,again_some_closed (k:=k) (c:=c) (z:=z) (by simp[hk,kase]) hr] at h1;exact absurd (congrArg Goroutine.status h1) (by simp[parked])
end
variable {n:Nat}
section
variable {P:Program} {K:Prot} {W:World} {H:Nat->Prop} {Stop:Goroutine->World->Prop} {s:Gst} {m m0 m':Mt} {ms:List Mt} {g g' ch:Goroutine} {v v' w w':World} {c i:Nat} {l:List UInt8} {sl:List Nat} {gs:Array Goroutine} {ids:List Nat} {F S:Nat->Nat->Prop} {vs:Nat->World} {t:Trace} {es:Array Event}
def hireS (S:Nat->Nat->Prop) (n:Nat) (sl:List Nat) (j b:Nat):Prop:=if j=n then b∈sl else if j=0 then S 0 b∨b∈sl else S j b
theorem jB1:hireS S n sl n=fun b=>b∈sl:=by funext b;simp[hireS]
theorem jBm (h:(0:Nat)≠n):hireS S n sl 0=fun b=>S 0 b∨b∈sl:=by funext b;simp[hireS,h]
theorem jAl {j:Nat} (h:j≠n) (h0:j≠0):hireS S n sl j=S j:=by funext b;simp[hireS,h,h0]
end
end
section
open Go.Conc
section
variable {P:Program} {K:Pro} {W:World} {H:Nat->Prop} {Stop:Goroutine->World->Prop} {σ σ':K.St} {m0 tr trj:Tr} {ms:List (Nm K)} {mi:Nm K} {g g':Goroutine} {v v' w w':World} {i:Nat} {gs:Array Goroutine} {F S:Nat->Nat->Prop} {vs:Nat->World} {t:Trace} {es:Array Event}
theorem NInv.drew (h:NInv P K Stop W H gs w σ F S vs m0 ms t) (d:Nat):NInv P K Stop W H gs (w.at d) σ F S (fun i=>(vs i).at d) m0 ms t:=by
 refine⟨h.len,h.ok,h.inside,fun i hi hd=>(h.hid i hi hd).drew d,?_,fun i γ hi hg=>?_,h.old,h.above,h.apt,h.law,h.shows,h.pubF,h.hush,h.lent,h.soft,h.apart,h.based.drew d,h.open0⟩
 ·obtain⟨γ,a,h1,h2,h3⟩:=h.main;exact⟨γ,a,h1,h2,h3.rely (.drew ..)⟩
 ·obtain⟨g,m,h1,h2,h3,h4⟩:=h.work i γ hi hg;exact⟨g,m,h1,h2,h3,fun hd=>let ⟨q,h5,h6⟩:=h4 hd;⟨q,h5,h6.rely (.drew ..)⟩⟩
theorem NInv.told (h:NInv P K Stop W H gs w σ F S vs m0 ms t) (hi:Lv K σ i) (hnd:¬(K.ts σ).Dn i) {fn:FuncId} {pos:String} (he:∀e∈es,EvOk (F i) (S i) w.heap.size e):NInv P K Stop W H gs w σ F S vs m0 ms (t++MemOp.ofEvents i fn pos es):=by
 have hfair:=zQk (g:=i) (fn:=fn) (pos:=pos) he;have hdeaf:∀j,Deaf (t++MemOp.ofEvents i fn pos es) j=Deaf t j:=fun j=>Deaf_quiet fun op hop d=>(hfair op hop).2.2.2 j d
 exact⟨h.len,h.ok,h.inside,h.hid,h.main,h.work,fun j x hj hn hx=>by rw[hdeaf];exact h.old j x hj hn hx,fun j hj=>by rw[hdeaf];exact h.above j hj,h.apt,
  h.law.own h.apt (fun j b hj hb=>(h.pubF b hb).2 j hj) hi hnd (fun op hop=>(hfair op hop).1) (fun op hop=>(hfair op hop).2.1) hdeaf (fun op hop=>(hfair op hop).2.2.1) (zMl he),h.shows,h.pubF,h.hush,h.lent,h.soft,h.apart,h.based,h.open0⟩
theorem NInv.stay (h:NInv P K Stop W H gs w σ F S vs m0 ms t) (hg:gs[i]?=some g) (hl:Lv K σ i) (hnd:¬(K.ts σ).Dn i)
  (hm:i=0->∀γ,K.gh σ 0=some γ->MainN P K Stop (K.sh σ) γ m0 g' (vs 0)) (hw:i≠0->∀γ,K.gh σ i=some γ->∃tr,ms[i]?=some (.live tr)∧WorkN P K (K.sh σ) i γ tr g' (vs i))
  (hap:∀(g2:Goroutine) (cs:Array CommCase) (shape:CommShape),(gs.setIfInBounds i g')[0]?=some (parked g2 cs shape)->∀(j:Nat) (g3:Goroutine) (c:Nat) (x z:Value),(gs.setIfInBounds i g')[j]?=some (parked g3 #[scase c x z] .send)->∀(k:Nat) (z':Value),cs[k]?≠some (rcase c z')) (hop:i=0->∀(g2:Goroutine) (cs:LV) (shape:CommShape),g'=parked g2 (cs.map kase).toArray shape->∀(k c:Nat) (z:Value),cs[k]?=some (c,z)->K.ch σ c≠some true) :
  NInv P K Stop W H (gs.setIfInBounds i g') w σ F S vs m0 ms t:=by
 have hlt:i<gs.size:=(Array.getElem?_eq_some_iff.1 hg).1;have hne:∀j,i≠j->(gs.setIfInBounds i g')[j]?=gs[j]?:=fun j hj=>by rw[Array.getElem?_setIfInBounds_ne hj]
 have hself:(gs.setIfInBounds i g')[i]?=some g':=Array.getElem?_setIfInBounds_self_of_lt hlt
 refine⟨by simp[h.len],h.ok,fun j hj=>by simpa using h.inside j hj,h.hid,?_,fun j γ hj0 hj=>?_,fun j x hj hn hx=>?_,fun j hj=>h.above j (by simpa using hj),h.apt,h.law,h.shows,h.pubF,h.hush,h.lent,h.soft,hap,h.based,fun g2 cs shape h0=>?_⟩
 ·obtain⟨γ,a,h1,h2,h3⟩:=h.main
  by_cases e:i=0
  ·subst e;exact⟨γ,g',h1,hself,hm J γ h1⟩
  ·exact⟨γ,a,h1,by rw[hne 0 e];exact h2,h3⟩
 ·by_cases e:i=j
  ·subst e;obtain⟨tr,h1,h2⟩:=hw hj0 γ hj;exact⟨g',_,hself,h1,fun x=>absurd x hnd,fun _=>⟨tr,rfl,h2⟩⟩
  ·obtain⟨x,m1,h2,h3⟩:=h.work j γ hj0 hj;exact⟨x,m1,by rw[hne j e];exact h2,h3⟩
 ·have e:i≠j:=fun e=>by subst e;exact hn hl
  rw[hne j e] at hx;exact h.old j x hj hn hx
 ·by_cases e:i=0
  ·subst e;rw[hself] at h0;exact hop J g2 cs shape (Option.some.inj h0)
  ·rw[hne 0 e] at h0;exact h.open0 g2 cs shape h0
theorem NInv.meet (h:NInv P K Stop W H gs w σ F S vs m0 ms t) (L:K.Laws) (hKW:K.low=W.heap.size) {j c r:Nat} {x:Value} {γ γ' γ0':Gh} {gs':Array Goroutine} {g0' gj':Goroutine} (d:Nat) (hj0:j≠0) (hgj:K.gh σ j=some γ) (hnd:¬(K.ts σ).Dn j) (hs:K.says γ c x γ')
  (ok':K.ok σ') (hsame:K.same σ σ') (h0':K.gh σ' 0=some γ0') (hj':K.gh σ' j=some γ') (hoth:∀k,k≠0->k≠j->K.gh σ' k=K.gh σ k)
  (hsz:gs'.size=gs.size) (h0:gs'[0]?=some g0') (hj:gs'[j]?=some gj') (ho:∀n,n≠0->n≠j->gs'[n]?=gs[n]?) (hr0:g0'.status=.running) (_hrj:gj'.status=.running) (hch:w.heap[c]?=some (.chan 0 #[] false r r false))
  (hm:MainN P K Stop (K.sh σ') γ0' tr g0' (saying ((vs 0).at d) (gout γ0'))) (hw:WorkN P K (K.sh σ') j γ' trj gj' (saying ((vs j).at d) (gout γ'))) (fh:FuncId) (ph:String) (fj:FuncId) (pj:String) :
  NInv P K Stop W H gs' ((w.at d).setChan c 0 #[] false (r+1) (r+1) false) σ' F S
   (fun i=>if i=0 then saying ((vs 0).at d) (gout γ0') else if i=j then saying ((vs j).at d) (gout γ') else (vs i).at d) tr (ms.set j (.live trj))
   (t++Go.Conc.met j 0 fh ph fj pj c r 0):=by
 obtain⟨l1,l2,l3⟩:=L.inner σ h.ok;have hco:=(L.spk σ j γ c x γ' h.ok hgj hs).1;have hcp:=l2 c false hco;obtain⟨hcb,hcF⟩:=h.pubF c hcp;have hlj:Lv K σ j:=by simp[Lv,hgj]
 have hjs:=h.inside j hlj
 have hLv:∀i,Lv K σ' i↔Lv K σ i:=fun i=>by
  by_cases e0:i=0
  ·subst e0;exact⟨fun _=>h.zero,fun _=>by simp[Lv,h0']⟩
  ·by_cases e1:i=j
   ·subst e1;exact⟨fun _=>hlj,fun _=>by simp[Lv,hj']⟩
   ·unfold Lv;rw[hoth i e0 e1]
 have hLe:Lv K σ'=Lv K σ:=funext fun i=>propext (hLv i)
 have hsameb:∀b,b≠c->((w.at d).setChan c 0 #[] false (r+1) (r+1) false).heap[b]?=w.heap[b]?:=fun b hb=>by
  show (w.heap.setIfInBounds c _)[b]?=_;rw[Array.getElem?_setIfInBounds_ne (fun e=>hb e.symm)]
 have hwsz:((w.at d).setChan c 0 #[] false (r+1) (r+1) false).heap.size=w.heap.size:=by
  show (w.heap.setIfInBounds c _).size=_;simp
 have hself:((w.at d).setChan c 0 #[] false (r+1) (r+1) false).heap[c]?=some (.chan 0 #[] false (r+1) (r+1) false):=by
  show (w.heap.setIfInBounds c _)[c]?=_;rw[Array.getElem?_setIfInBounds_self_of_lt hcb]
 have hdeaf:∀i,Deaf (t++Go.Conc.met j 0 fh ph fj pj c r 0) i=Deaf t i:=fun i=>Deaf_quiet (met_quiet j 0 fh ph fj pj c r 0 i);have hview:∀i,Lv K σ i->¬(K.ts σ).Dn i->Hid (F i) (S i) ((w.at d).setChan c 0 #[] false (r+1) (r+1) false) ((vs i).at d):=fun i hi hd=>((h.hid i hi hd).drew d).chan (hcF i hi) _ _ _ _ _ _;have hz:=(L.zero σ h.ok).2
 refine⟨by simp[h.len,hsz],ok',fun i hi=>by rw[hsz];exact h.inside i ((hLv i).1 hi),fun i hi hd=>?_,⟨γ0',g0',h0',h0,by simpa using hm⟩,fun i γi hi0 hi=>?_,fun i y hi hn hy=>?_,fun i hi=>?_,?_,?_,?_,fun b hb=>?_,fun i hi hd b hb=>?_,fun b=>by rw[hsame.lent];exact h.lent b,fun b hb=>?_,?_,?_,zBk h0 (by rw[hr0];simp)⟩
 ·rw[hsame.ts] at hd
  by_cases e0:i=0
  ·subst e0;simpa using (hview 0 h.zero hz).saying _
  ·by_cases e1:i=j
   ·subst e1;simpa[e0] using (hview i hlj hnd).saying _
   ·simpa[e0,e1] using hview i ((hLv i).1 hi) hd
 ·rw[hsame.ts,hsame.sh]
  by_cases e1:i=j
  ·subst e1;rw[hj'] at hi
   cases hi
   refine⟨gj',.live trj,hj,List.getElem?_set_self (by rw[h.len];exact hjs),fun y=>absurd y hnd,fun _=>⟨trj,rfl,?_⟩⟩;rw[hsame.sh] at hw;simpa[hi0] using hw
  ·rw[hoth i hi0 e1] at hi;obtain⟨y,m1,h2,h3,h4,h5⟩:=h.work i γi hi0 hi;refine⟨y,m1,by rw[ho i hi0 e1];exact h2,by rw[List.getElem?_set_ne (fun e=>e1 e.symm)];exact h3,h4,fun hd=>?_⟩;obtain⟨q,h6,h7⟩:=h5 hd;refine⟨q,h6,?_⟩;simp only[hi0,e1,if_false];exact h7.rely (.drew ..)
 ·have hn':¬Lv K σ i:=fun z=>hn ((hLv i).2 z);have e1:i≠j:=fun e=>by subst e;exact hn' hlj
  rw[ho i hi e1] at hy;obtain⟨n',h1,h2⟩:=h.old i y hi hn' hy;exact⟨n',by rw[List.getElem?_set_ne (fun e=>e1 e.symm)];exact h1,by rw[hdeaf];exact h2⟩
 ·rw[hdeaf];exact h.above i (by rw[<-hsz];exact hi)
 ·rw[hwsz,hLe];exact h.apt
 ·rw[hwsz,hLe,hsame.ts,hsame.pub,hsame.ow]
  refine h.law.says (met_mute j 0 fh ph fj pj c r 0) (met_quiet j 0 fh ph fj pj c r 0) (fun op hop=>?_) fun op hop a e=>?_
  ·simp only[Go.Conc.met,List.mem_toArray,List.mem_cons,List.not_mem_nil,or_false] at hop;rcases hop with rfl|rfl|rfl|rfl<;>exact hcb
  ·simp only[Go.Conc.met,List.mem_toArray,List.mem_cons,List.not_mem_nil,or_false] at hop;rcases hop with rfl|rfl|rfl|rfl<;>cases e
 ·refine⟨fun b o hb=>?_,fun c' y hy=>?_⟩
  ·rw[hsame.sh] at hb
   have e:b≠c:=fun e=>by
    subst e;have:=L.part σ b o h.ok hb;rw[this] at hco
    cases hco
   rw[hsameb b e];exact h.shows.1 b o hb
  ·rw[hsame.ch] at hy
   by_cases e:c'=c
   ·subst e;rw[hco] at hy
    cases hy
    exact⟨r+1,hself⟩
   ·rw[hsameb c' e];exact h.shows.2 c' y hy
 ·rw[hsame.pub] at hb;rw[hwsz];exact⟨(h.pubF b hb).1,fun i hi=>(h.pubF b hb).2 i ((hLv i).1 hi)⟩
 ·rw[hsame.ts] at hd;rw[hwsz] at hb;exact h.hush i ((hLv i).1 hi) hd b hb
 ·rw[hsame.lent] at hb;obtain⟨h1,cs,tt,h2⟩:=h.soft b hb;exact⟨h1,cs,tt,by rw[hsameb b (fun e=>by subst e;exact h1 (hcF 0 h.zero))];exact h2⟩
 ·intro g2 cs' shape he;rw[h0] at he;have:=congrArg Goroutine.status (Option.some.inj he);rw[hr0] at this
  cases this
 ·rw[hLe];exact (h.based.drew d).chan (by have:=l3 c hcp;omega) _ _ _ _ _ _
end
section
variable {P:Program} {K:Pro} {W:World} {H:Nat->Prop} {Stop:Goroutine->World->Prop} {σ σ':K.St} {m0 tr trc:Tr} {ms:List (Nm K)} {g g' ch:Goroutine} {v v' w w':World} {i c:Nat} {γ γ' γc:Gh} {sl:List Nat} {gs:Array Goroutine} {F S:Nat->Nat->Prop} {vs:Nat->World} {t:Trace} {es:Array Event}
theorem zH0 (hm:K.gh σ 0=some γ) (ho:∀j,j≠0->K.gh σ j=none):Lv K σ=fun j=>j=0:=funext fun j=>propext ⟨fun x=>(by
 by_cases e:j=0
 ·exact e
 ·rw[Lv,ho j e] at x
  cases x),fun e=>by subst e;simp[Lv,hm]⟩
theorem NInv.finds (h:NInv P K Stop W H gs w σ F S vs m0 ms t) (L:K.Laws) (hg:gs[0]?=some g) (d:Nat) (hc:K.ch σ c=some true) (hf:Finds K σ c γ' σ') (hr:g'.status=.running) (hm:MainN P K Stop (K.sh σ') γ' tr g' (saying ((vs 0).at d) (gout γ'))) (fn:FuncId) (pos:String) :
  NInv P K Stop W H (gs.setIfInBounds 0 g') (w.at d) σ' F S (fun i=>if i=0 then saying ((vs 0).at d) (gout γ') else (vs i).at d) tr ms (t++#[{g:=0,fn,pos,act:=.recvClosed c}]):=by
 obtain⟨l1,l2,l3⟩:=L.inner σ h.ok;have hlt:0<gs.size:=(Array.getElem?_eq_some_iff.1 hg).1;have hL0:∀j,Lv K σ j->j=0:=L.hush σ c h.ok hc;have hL:Lv K σ=fun j=>j=0:=funext fun j=>propext ⟨hL0 j,fun e=>by subst e;exact h.zero⟩;have hL':Lv K σ'=fun j=>j=0:=zH0 hf.main hf.oth;have hcb:=(h.pubF c (l2 c true hc)).1;have hne:∀j,j≠0->(gs.setIfInBounds 0 g')[j]?=gs[j]?:=fun j hj=>by rw[Array.getElem?_setIfInBounds_ne (fun e=>hj e.symm)]
 have hz':=(L.zero σ' hf.ok).2
 refine⟨by simp[h.len],hf.ok,fun i hi=>by rw[hL'] at hi;subst hi;simpa using hlt,fun i hi _=>?_,⟨γ',g',hf.main,Array.getElem?_setIfInBounds_self_of_lt hlt,by simpa using hm⟩,fun i γi hi0 hi=>?_,fun i x hi hn hx=>?_,fun i hi=>?_,?_,?_,?_,fun b hb=>?_,fun i hi hd=>?_,fun b=>by rw[hf.lent];exact h.lent b,fun b hb=>?_,?_,?_,zBk (Array.getElem?_setIfInBounds_self_of_lt hlt) (by rw[hr];simp)⟩
 ·rw[hL'] at hi;subst hi;simpa using ((h.hid 0 h.zero (L.zero σ h.ok).2).drew d).saying _
 ·rw[hf.oth i hi0] at hi;cases hi
 ·rw[hne i hi] at hx;obtain⟨n,h1,h2⟩:=h.old i x hi (fun y=>hi (hL0 i y)) hx;refine⟨n,h1,?_⟩;rw[Deaf_other t (g:=i) (g':=0) (fun e=>hi e.symm) _ fun op hop=>by rw[zAv hop]];exact h2
 ·have hi':gs.size<=i:=by simpa using hi
  rw[Deaf_other t (g:=i) (g':=0) (by omega) _ fun op hop=>by rw[zAv hop]];exact h.above i hi'
 ·rw[hL'];intro a b ha hb hab;exact absurd (Eq.trans ha (Eq.symm hb)) hab
 ·have p1:=h.law.one (fun j b hj hb=>(h.pubF b hb).2 j hj) h.zero (y:={g:=0,fn,pos,act:=.recvClosed c}) J (.closed hf.D.1 (L.zero σ h.ok).2 hcb) hcb;rw[hL,<-hL'] at p1;have p2:=p1.relax (D':=(K.ts σ').D) (Dn':=(K.ts σ').Dn) (Ca':=(K.ts σ').Ca) (fun j hj=>by rw[hL'] at hj;subst hj;exact hf.D.2.trans hf.D.1.symm) (fun j hj hd=>by rw[hL'] at hj;subst hj;exact absurd hd hz') fun x hx=>hf.Ca x hx.1 hx.2;rw[hf.pub,hf.ow];exact p2
 ·exact⟨fun b o hb=>h.shows.1 b o (by rw[<-hf.sh];exact hb),fun b o hb=>h.shows.2 b o (by rw[<-hf.ch];exact hb)⟩
 ·rw[hf.pub] at hb;exact⟨(h.pubF b hb).1,fun i hi=>(h.pubF b hb).2 i (by rw[hL];rw[hL'] at hi;exact hi)⟩
 ·rw[hL'] at hi;subst hi;exact absurd hd hz'
 ·rw[hf.lent] at hb;exact h.soft b hb
 ·intro g2 cs shape he;rw[Array.getElem?_setIfInBounds_self_of_lt hlt] at he;have:=congrArg Goroutine.status (Option.some.inj he);rw[hr] at this
  cases this
 ·rw[hL',<-hL];exact h.based.drew d
theorem NInv.share (h:NInv P K Stop W H gs w σ F S vs m0 ms t) (L:K.Laws) (hKW:K.low=W.heap.size) (hg:gs[0]?=some g) {b0:Nat} {o:Obj} (hA:Alone K σ) (hb0:(vs 0).heap[b0]?=some o) (ho:(∃c t,o=.cells c t (0,0)∧0<c.size)∨∃x r,o=.chan 0 #[] x r r false) (hlo:K.low<=b0) (hs:Shares K σ b0 o γ' σ')
  (hr:g.status=.running) (hm:MainN P K Stop (K.sh σ') γ' tr g (saying (hideB b0 (vs 0)) (gout γ'))) :
  NInv P K Stop W H gs w σ' (fun j b=>F j b∨b=b0) S (fun i=>if i=0 then saying (hideB b0 (vs 0)) (gout γ') else vs i) tr ms t:=by
 have hL:Lv K σ=fun j=>j=0:=funext fun j=>propext ⟨hA.1 j,fun e=>by subst e;exact h.zero⟩;have hL':Lv K σ'=fun j=>j=0:=zH0 hs.main hs.oth;have hz:=(L.zero σ h.ok).2;have hv0:=h.hid 0 h.zero hz
 have hF:¬F 0 b0:=fun x=>by
  obtain⟨t',fz',h4⟩:=hv0.away b0 x;rw[hb0] at h4
  cases h4
  rcases ho with ⟨c,t,e,h5⟩|⟨x,r,e⟩
  ·cases e;simp at h5
  ·cases e
 have hSb:¬S 0 b0:=fun x=>hs.fresh ((h.lent b0).1 x);have hwb:w.heap[b0]?=some o:=by rw[<-hv0.same b0 hF hSb];exact hb0
 have hlb:b0<w.heap.size:=(Array.getElem?_eq_some_iff.1 hwb).1
 refine⟨h.len,hs.ok,fun i hi=>by rw[hL'] at hi;subst hi;exact h.inside 0 h.zero,fun i hi _=>?_,⟨γ',g,hs.main,hg,by simpa using hm⟩,fun i γi hi0 hi=>?_,fun i x hi hn hx=>h.old i x hi (fun y=>hi (hA.1 i y)) hx,h.above,?_,?_,?_,fun b hb=>?_,fun i hi hd=>?_,fun b=>by rw[hs.lent];exact h.lent b,fun b hb=>?_,h.apart,?_,zBk hg (by rw[hr];simp)⟩
 ·rw[hL'] at hi;subst hi;simpa using (hv0.hideB hlb hSb).saying _
 ·rw[hs.oth i hi0] at hi;cases hi
 ·rw[hL'];intro a b ha hb hab;exact absurd (Eq.trans ha (Eq.symm hb)) hab
 ·have p:=h.law.share (b0:=b0) hA.1 h.zero hF hSb hs.own;have hp:K.pub σ'=fun b=>K.pub σ b∨b=b0:=funext fun b=>propext (hs.pub b);rw[hs.ts,hp,hs.ow,hL',<-hL,<-hs.own];exact p
 ·refine⟨fun b x hb=>?_,fun c x hc=>?_⟩
  ·rcases hs.sh b x hb with y|⟨rfl,rfl⟩
   ·exact h.shows.1 b x y
   ·exact hwb
  ·rcases hs.ch c x hc with y|⟨rfl,r,e⟩
   ·exact h.shows.2 c x y
   ·exact⟨r,by rw[hwb,e]⟩
 ·rcases (hs.pub b).1 hb with y|rfl
  ·exact⟨(h.pubF b y).1,fun i hi=>.inl ((h.pubF b y).2 i (by rw[hL];rw[hL'] at hi;exact hi))⟩
  ·exact⟨hlb,fun _ _=>.inr J⟩
 ·rw[hL'] at hi;subst hi;rw[hs.ts] at hd;exact absurd hd hz
 ·rw[hs.lent] at hb;obtain⟨h1,cs,tt,h2⟩:=h.soft b hb;exact⟨fun x=>x.elim h1 fun e=>hs.fresh (by rw[<-e];exact hb),cs,tt,h2⟩
 ·rw[hL',<-hL]
  refine⟨h.based.os,h.based.tape,h.based.output,h.based.size,fun b hb=>?_,fun b hb hF=>?_⟩
  ·obtain⟨h1,h2,h3⟩:=h.based.held b hb;exact⟨h1,h2,fun i hi=>.inl (h3 i hi)⟩
  ·rcases hF with x|rfl
   ·exact h.based.new b hb x
   ·omega
theorem NInv.settle (h:NInv P K Stop W H gs w σ F S vs m0 ms t) (L:K.Laws) (hg:gs[0]?=some g) (hr:g.status=.running) (hA:Alone K σ) (hs:Settles K σ γ' σ')
  (hm:MainN P K Stop (K.sh σ') γ' tr g (saying (thaw (K.lent σ) (vs 0)) (gout γ'))) :
  NInv P K Stop W H gs w σ' F (fun _ _=>False) (fun i=>if i=0 then saying (thaw (K.lent σ) (vs 0)) (gout γ') else vs i) tr ms t:=by
 have hL:Lv K σ=fun j=>j=0:=funext fun j=>propext ⟨hA.1 j,fun e=>by subst e;exact h.zero⟩;have hL':Lv K σ'=fun j=>j=0:=zH0 hs.main hs.oth;have hz:=(L.zero σ h.ok).2;have hv0:=h.hid 0 h.zero hz;have hS0:S 0=fun b=>b∈K.lent σ:=funext fun b=>propext (h.lent b);rw[hS0] at hv0
 refine⟨h.len,hs.ok,fun i hi=>by rw[hL'] at hi;subst hi;exact h.inside 0 h.zero,fun i hi _=>?_,⟨γ',g,hs.main,hg,by simpa using hm⟩,fun i γi hi0 hi=>?_,fun i x hi hn hx=>h.old i x hi (fun y=>hi (hA.1 i y)) hx,h.above,?_,?_,⟨fun b x hb=>h.shows.1 b x (hs.sh b x hb),fun c x hc=>h.shows.2 c x (hs.ch c x hc)⟩,fun b hb=>?_,fun i hi hd=>?_,fun b=>by rw[hs.lent];simp,fun b hb=>(by rw[hs.lent] at hb;cases hb),h.apart,by rw[hL',<-hL];exact h.based,zBk hg (by rw[hr];simp)⟩
 ·rw[hL'] at hi;subst hi;simpa using (hv0.thaw h.soft).saying _
 ·rw[hs.oth i hi0] at hi;cases hi
 ·rw[hL'];intro a b ha hb hab;exact absurd (Eq.trans ha (Eq.symm hb)) hab
 ·have p:=(h.law.settle hA.1 h.zero hs.none fun b hb=>(h.pubF b hb).2 0 h.zero).relax (D':=(K.ts σ').D) (Dn':=(K.ts σ').Dn) (Ca':=(K.ts σ').Ca) (fun j hj=>by obtain rfl:=hA.1 j hj;exact hs.D) (fun j hj hd=>by obtain rfl:=hA.1 j hj;exact absurd hd hs.Dn) fun x hx=>absurd hx (hs.none x);rw[hs.pub,hs.ow,hL',<-hL];exact p
 ·rw[hs.pub] at hb;exact⟨(h.pubF b hb).1,fun i hi=>(h.pubF b hb).2 i (by rw[hL];rw[hL'] at hi;exact hi)⟩
 ·rw[hL'] at hi;subst hi;exact absurd hd hs.Dn
end
section
variable {P:Program} {K:Pro} {W:World} {H:Nat->Prop} {Stop:Goroutine->World->Prop} {σ σ':K.St} {m0 tr trc:Tr} {ms:List (Nm K)} {g g' ch:Goroutine} {v v' w w':World} {i c:Nat} {γ γ' γc:Gh} {sl:List Nat} {gs:Array Goroutine} {F S:Nat->Nat->Prop} {vs:Nat->World} {t:Trace} {es:Array Event}
def hF (F:Nat->Nat->Prop) (n B:Nat) (sl:List Nat) (j b:Nat):Prop:=if j=n then b<B∧b∉sl else F j b
theorem hF_n {n B:Nat}:hF F n B sl n=fun b=>b<B∧b∉sl:=by funext b;simp[hF]
theorem hF_j {n B j:Nat} (h:j≠n):hF F n B sl j=F j:=by funext b;simp[hF,h]
theorem NInv.hire (h:NInv P K Stop W H gs w σ F S vs m0 ms t) (L:K.Laws) (hg:gs[0]?=some g) (hgv:Givable sl (vs 0)) (hun:∀b∈sl,b∈K.lent σ∨∃cs t,(vs 0).heap[b]?=some (.cells cs t (0,0)))
  (hh:Hires K gs.size σ sl γ' γc σ') (hr:g'.status=.running) (_hrc:ch.status=.running)
  (hm:MainN P K Stop (K.sh σ') γ' tr g' (saying (chill sl (vs 0)) (gout γ'))) (hw:WorkN P K (K.sh σ') gs.size γc trc ch (saying (onlyV sl (vs 0)) (gout γc))) (fh:FuncId) (ph:String) (fc:FuncId) :
  NInv P K Stop W H ((gs.setIfInBounds 0 g').push ch) w σ' (hF F gs.size w.heap.size sl) (hireS S gs.size sl)
   (fun j=>if j=gs.size then saying (onlyV sl (vs 0)) (gout γc) else if j=0 then saying (chill sl (vs 0)) (gout γ') else vs j) tr (ms++[.live trc])
   (t++#[{g:=0,fn:=fh,pos:=ph,act:=.go gs.size},{g:=gs.size,fn:=fc,pos:=ph,act:=.start}]):=by
 have hlt:0<gs.size:=(Array.getElem?_eq_some_iff.1 hg).1;have hn0:gs.size≠0:=by omega
 have h0n:(0:Nat)≠gs.size:=fun e=>hn0 e.symm;have hz:=(L.zero σ h.ok).2;have hz':=(L.zero σ' hh.ok).2;have hv0:=h.hid 0 h.zero hz;have hgs:=zC8 hv0 hgv
 have hslb:∀b∈sl,b<w.heap.size:=fun b hb=>by
  obtain⟨_,cs,tt,fz,h1,_⟩:=hgs b hb;rw[<-hv0.size];exact (Array.getElem?_eq_some_iff.1 h1).1
 have hnl:¬Lv K σ gs.size:=fun x=>by have:=h.inside _ x;omega
 have hLv:∀j,Lv K σ' j↔Lv K σ j∨j=gs.size:=fun j=>by
  by_cases e:j=gs.size
  ·subst e;exact⟨fun _=>.inr J,fun _=>by simp[Lv,hh.new]⟩
  ·by_cases e0:j=0
   ·subst e0;exact⟨fun _=>.inl h.zero,fun _=>by simp[Lv,hh.main]⟩
   ·unfold Lv;rw[hh.oth j e0 e];exact⟨.inl,fun x=>x.resolve_right e⟩
 have hLe:Lv K σ'=fun j=>Lv K σ j∨j=gs.size:=funext fun j=>propext (hLv j)
 have old:∀j,j≠0->j<gs.size->((gs.setIfInBounds 0 g').push ch)[j]?=gs[j]?:=fun j h1 h2=>by
  rw[Array.getElem?_push_lt (by simpa using h2),<-Array.getElem?_eq_getElem,Array.getElem?_setIfInBounds_ne (fun e=>h1 e.symm)]
 have hnew:((gs.setIfInBounds 0 g').push ch)[gs.size]?=some ch:=by simpa using Array.getElem?_push_size (xs:=gs.setIfInBounds 0 g') (x:=ch)
 have h0':((gs.setIfInBounds 0 g').push ch)[0]?=some g':=by
  rw[Array.getElem?_push_lt (by simpa using hlt),<-Array.getElem?_eq_getElem,Array.getElem?_setIfInBounds_self_of_lt hlt]
 have hpf:∀b,K.pub σ b->b∉sl:=fun b hb x=>(hgs b x).1 ((h.pubF b hb).2 0 h.zero)
 have hdeaf:∀j,Deaf (t++#[{g:=0,fn:=fh,pos:=ph,act:=.go gs.size},{g:=gs.size,fn:=fc,pos:=ph,act:=.start}]) j=Deaf t j:=fun j=>Deaf_quiet fun op hop d=>by
  simp only[List.mem_toArray,List.mem_cons,List.not_mem_nil,or_false] at hop;rcases hop with rfl|rfl<;>rfl
 have hdn:∀j,(K.ts σ').Dn j↔(K.ts σ).Dn j:=fun j=>by rw[hh.Dn]
 have hlaw:Px (Lv K σ') (K.ts σ').D (K.ts σ').Dn (K.pub σ') (K.ow σ') (K.ts σ').Ca (hF F gs.size w.heap.size sl) (hireS S gs.size sl) w.heap.size (t++#[{g:=0,fn:=fh,pos:=ph,act:=.go gs.size},{g:=gs.size,fn:=fc,pos:=ph,act:=.start}]):=by
  have p2:=h.law.mono (F':=F) (S':=fun j b=>if j=0 then S 0 b∨b∈sl else S j b) (B':=w.heap.size) (fun _ _ _ x=>x) (fun j b _ _ hS=>by
   by_cases e:j=0
   ·subst e;exact .inl hS
   ·simpa[e] using hS) (Nat.le_refl _)
  have hp:=p2.hire (c:=gs.size) (Ow':=K.ow σ') (Fc:=fun b=>b<w.heap.size∧b∉sl) (Sc:=fun b=>b∈sl) h.zero hh.D0 hnl (h.above _ (Nat.le_refl _)) hh.notn (fun b hb hf=>by
   have hbs:b∈sl:=by
    by_cases x:b∈sl
    ·exact x
    ·exact absurd ⟨hb,x⟩ hf
   exact⟨hbs,(hgs b hbs).1⟩) hh.ow fh ph fc
  rw[<-hLe] at hp;have p3:=hp.relax (D':=(K.ts σ').D) (Dn':=(K.ts σ').Dn) (Ca':=(K.ts σ').Ca) (fun j hj=>hh.D j hj) (fun j _ x=>(hdn j).1 x) fun x hx=>by rw[hh.Ca];exact hx
  rw[hh.pub];exact p3
 refine⟨by simp[h.len],hh.ok,fun j hj=>?_,fun j hj hd=>?_,⟨γ',g',hh.main,h0',by simpa[h0n] using hm⟩,fun j γj hj0 hj=>?_,fun j x hj hn hx=>?_,fun j hj=>?_,?_,hlaw,⟨fun b o hb=>h.shows.1 b o (by rw[<-hh.sh];exact hb),fun b x hb=>h.shows.2 b x (by rw[<-hh.ch];exact hb)⟩,fun b hb=>?_,fun j hj hd b hb=>?_,fun b=>?_,fun b hb=>?_,?_,?_,zBk h0' (by rw[hr];simp)⟩
 ·rw[Array.size_push,Array.size_setIfInBounds]
  rcases (hLv j).1 hj with x|rfl
  ·have:=h.inside j x;omega
  ·omega
 ·by_cases e:j=gs.size
  ·subst e;rw[hF_n,jB1];simpa using (hv0.only hgv).saying (gout γc)
  ·by_cases e0:j=0
   ·subst e0;rw[hF_j h0n,jBm h0n];simpa[h0n] using (hv0.chill hgv).saying (gout γ')
   ·rw[hF_j e,jAl e e0];simpa[e,e0] using h.hid j (((hLv j).1 hj).resolve_right e) (fun x=>hd ((hdn j).2 x))
 ·by_cases e:j=gs.size
  ·subst e;rw[hh.new] at hj
   cases hj
   refine⟨ch,.live trc,hnew,by rw[<-h.len];simp,fun hd=>absurd ((hdn _).1 hd) hh.notn,fun _=>⟨trc,rfl,by simpa using hw⟩⟩
  ·rw[hh.oth j hj0 e] at hj;obtain⟨x,m1,h2,h3,h4,h5⟩:=h.work j γj hj0 hj;have hjs:=h.inside j (by simp[Lv,hj]);refine⟨x,m1,by rw[old j hj0 hjs];exact h2,by rw[List.getElem?_append_left (by rw[h.len];exact hjs)];exact h3,fun hd=>h4 ((hdn j).1 hd),fun hd=>?_⟩;obtain⟨q,h6,h7⟩:=h5 fun y=>hd ((hdn j).2 y);simp only[e,hj0,if_false];exact⟨q,h6,by rw[hh.sh];exact h7⟩
 ·have hn':¬Lv K σ j:=fun y=>hn ((hLv j).2 (.inl y));have hjn:j≠gs.size:=fun e=>hn ((hLv j).2 (.inr e))
  have hjs:j<gs.size:=by
   have:=(Array.getElem?_eq_some_iff.1 hx).1;simp at this;omega
  rw[old j hj hjs] at hx;obtain⟨n,h1,h2⟩:=h.old j x hj hn' hx;exact⟨n,by rw[List.getElem?_append_left (by rw[h.len];exact hjs)];exact h1,by rw[hdeaf];exact h2⟩
 ·rw[hdeaf];refine h.above j ?_;rw[Array.size_push,Array.size_setIfInBounds] at hj;omega
 ·intro a b ha hb hab k hk hF' hS'
  by_cases ea:a=gs.size
  ·subst ea;simp only[hF,hireS,if_true] at hF' hS';exact absurd ⟨hk,hS'⟩ hF'
  ·have ha':=((hLv a).1 ha).resolve_right ea
   by_cases eb:b=gs.size
   ·subst eb;simp only[hF,if_true];refine⟨hk,fun hks=>?_⟩;simp only[hF,ea,if_false] at hF'
    by_cases e0:a=0
    ·subst e0;simp only[hireS,ea,if_false,if_true] at hS';exact hS' (.inr hks)
    ·simp only[hireS,ea,e0,if_false] at hS';exact (hgs k hks).1 (h.apt a 0 ha' h.zero e0 k hk hF' hS')
   ·have hb':=((hLv b).1 hb).resolve_right eb;simp only[hF,ea,eb,if_false] at hF' ⊢
    by_cases e0:a=0
    ·subst e0;simp only[hireS,ea,if_false,if_true,not_or] at hS';exact h.apt 0 b ha' hb' hab k hk hF' hS'.1
    ·simp only[hireS,ea,e0,if_false] at hS';exact h.apt a b ha' hb' hab k hk hF' hS'
 ·rw[hh.pub] at hb;obtain⟨h1,h2⟩:=h.pubF b hb;refine⟨h1,fun j hj=>?_⟩
  by_cases e:j=gs.size
  ·subst e;simp only[hF,if_true];exact⟨h1,hpf b hb⟩
  ·simp only[hF,e,if_false];exact h2 j (((hLv j).1 hj).resolve_right e)
 ·by_cases e:j=gs.size
  ·subst e;exact absurd ((hdn _).1 hd) hh.notn
  ·simp only[hF,e,if_false];exact h.hush j (((hLv j).1 hj).resolve_right e) ((hdn j).1 hd) b hb
 ·simp only[hireS,h0n,if_false,if_true,hh.lent,List.mem_append];rw[h.lent]
 ·rw[hh.lent] at hb;simp only[hF,h0n,if_false]
  rcases List.mem_append.1 hb with hb1|hb1
  ·exact h.soft b hb1
  ·have hF0:=(hgs b hb1).1;refine⟨hF0,?_⟩
   rcases hun b hb1 with x|⟨cs,tt,x⟩
   ·exact (h.soft b x).2
   ·by_cases hS:S 0 b
    ·exact (h.soft b ((h.lent b).1 hS)).2
    ·exact⟨cs,tt,by rw[<-hv0.same b hF0 hS];exact x⟩
 ·intro g2 cs shape he;rw[h0'] at he;have:=congrArg Goroutine.status (Option.some.inj he);rw[hr] at this
  cases this
 ·refine⟨h.based.os,h.based.tape,h.based.output,h.based.size,fun b hb=>?_,fun b hb hF'=>?_⟩
  ·obtain⟨h1,h2,h3⟩:=h.based.held b hb;refine⟨h1,h2,fun j hj=>?_⟩
   by_cases e:j=gs.size
   ·subst e;simp only[hF,if_true];exact⟨Nat.lt_of_lt_of_le h1 h.based.size,fun x=>(hgs b x).1 (h3 0 h.zero)⟩
   ·simp only[hF,e,if_false];exact h3 j (((hLv j).1 hj).resolve_right e)
  ·simp only[hF,h0n,if_false] at hF';exact h.based.new b hb hF'
end
section
variable {P:Program} {K:Prot} {W:World} {H:Nat->Prop} {Stop:Goroutine->World->Prop} {w w':World} {sl:Option (Nat×Nat)} {gs:Array Goroutine} {t:Trace}
theorem wQ {v v₁:World} (h:Rl v v₁) (o:Array (Nat×ByteArray)):Rl (saying v o) (saying v₁ o):=⟨h.os,h.tape,rfl,h.size,h.block⟩
end
def isRun (g:Goroutine):Bool:=match g.status with
 | .running=>true
 | _=>false
theorem jGd {g:Goroutine}:isRun g=true↔g.status=.running:=by
 unfold isRun
 cases g.status<;>simp
def runs (gs:Array Goroutine):Nat:=(gs.toList.filter isRun).length
theorem zJ0 {α:Type} (f:α->Bool):∀(l:List α) (i:Nat) (a b:α),l[i]?=some a->f a=true->f b=false->((l.set i b).filter f).length<(l.filter f).length
 | [],_,_,_,h,_,_=>by simp at h
 | c::l,0,a,b,h,ha,hb=>by
  simp at h;subst h
  simp[ha,hb]
 | c::l,i+1,a,b,h,ha,hb=>by
  have:=zJ0 f l i a b (by simpa using h) ha hb;simp only[List.set_cons_succ,List.filter_cons]
  split<;>simp<;>omega
theorem zFs {gs:Array Goroutine} {i:Nat} {g g':Goroutine} (h:gs[i]?=some g) (hr:g.status=.running) (hn:g'.status≠.running):runs (gs.setIfInBounds i g')<runs gs:=by
 unfold runs;rw[Array.toList_setIfInBounds];refine zJ0 _ _ _ g _ (by simpa using h) (jGd.2 hr) ?_
 cases hb:isRun g' with
 | false=>rfl
 | true=>exact absurd (jGd.1 hb) hn
section
variable (P:Program) (K:Pro) (Stop:Goroutine->World->Prop) (W:World) (H:Nat->Prop)
abbrev Mu (K:Pro):=Tr×List (Nm K)×Nat
def Mu.Lt {K:Pro}:Mu K->Mu K->Prop:=Prod.Lex Tr.Lt (Prod.Lex Ns (· < ·))
def NM (μ:Mu K) (m:Machine) (t:Trace):Prop :=
 ∃(gs:Array Goroutine) (w:World) (sl:Option (Nat×Nat)) (σ:K.St) (F S:Nat->Nat->Prop) (vs:Nat->World),m=crowd gs w sl∧μ.2.2=runs gs∧NInv P K Stop W H gs w σ F S vs μ.1 μ.2.1 t
def Nex (μ:Mu K) (r:Stepped×Array MemOp) (t:Trace):Prop :=
 ∃(m':Machine) (ops:Array MemOp) (μ':Mu K),r=(.next m',ops)∧Relation.TransGen Mu.Lt μ' μ∧NM P K Stop W H μ' m' (t++ops)
end
theorem nuWf {K:Pro}:WellFounded (Mu.Lt (K:=K)):=⟨fun⟨a,b,c⟩=>Prod.lexAccessible (Tr.acc a) (fun x=>Prod.lexAccessible (Ns.acc x.1) (fun n=>Nat.lt_wfRel.wf.apply n) x.2) (b,c)⟩
section
variable {P:Program} {K:Pro} {W:World} {H:Nat->Prop} {Stop:Goroutine->World->Prop} {σ σ':K.St} {m0 tr:Tr} {ms:List (Nm K)} {g g':Goroutine} {v v' w w':World} {i c n:Nat} {γ:Gh} {gs:Array Goroutine} {F S:Nat->Nat->Prop} {vs:Nat->World} {t:Trace} {es:Array Event} {sl:Option (Nat×Nat)}
theorem Nex.of {μ μ':Mu K} {gs':Array Goroutine} {ops:Array MemOp} {r:Stepped×Array MemOp} (hr:r=(.next (crowd gs' w' sl),ops)) (hl:Mu.Lt μ' μ) (hm:NM P K Stop W H μ' (crowd gs' w' sl) (t++ops)):Nex P K Stop W H μ r t:=⟨_,ops,μ',hr,.single hl,hm⟩
theorem zA1 {s tr:Tr} {a b:List (Nm K)×Nat} (h:Tr.Lt s tr):Mu.Lt (K:=K) (s,a) (tr,b):=.left _ _ h
theorem zAx {a b:List (Nm K)} {m n:Nat} (h:Ns a b):Mu.Lt (m0,a,m) (m0,b,n):=.right _ (.left _ _ h)
theorem zIg {a:List (Nm K)} {m n:Nat} (h:m<n):Mu.Lt (m0,a,m) (m0,a,n):=.right _ (.right _ h)
theorem zYg (h:NInv P K Stop W H gs w σ F S vs m0 ms t) (L:K.Laws) (hS:∀g v,Stop g v->g.status=.running) (hi0:i≠0) (hi:¬Lv K σ i) (hg:gs[i]?=some g) (hr:g.status=.running):Nex P K Stop W H (m0,ms,n) (runT P (crowd gs w sl) i) t:=by
 obtain⟨k,hms,hq⟩:=h.old i g hi0 hi hg;have hib:(i==0)=false:=by simp[hi0]
 cases k with
 | zero=>rw[hq.1] at hr;cases hr
 | succ k =>
  rcases hq with ⟨hf,_⟩|⟨_,g',es,hm,hstp,hq'⟩
  ·rw[hf] at hr;cases hr
  exact .of (runT_crowd_go hg (by rw[hib];exact hstp w)) (zAx (Ns.set hms (.quits (Nat.lt_succ_self k)))) ⟨_,w,sl,σ,F,S,vs,rfl,rfl,h.left L hS hi0 hi hg hm hq'⟩
theorem NInv.hushed (h:NInv P K Stop W H gs w σ F S vs m0 ms t) (L:K.Laws) (hS:∀g v,Stop g v->g.status=.running) (hi0:i≠0) (hgh:K.gh σ i=some γ) (hd:(K.ts σ).Dn i) (hg:gs[i]?=some g) {q:QTr (K.St×Gh×Goroutine)} (hq:QuietT P K i q γ g') :
  NInv P K Stop W H ((gs.map (Go.Conc.woken P g g' w)).setIfInBounds i g') w σ F S vs m0 (ms.set i (.quiet q)) (t++MemOp.ofEvents i g.frame.fn g.frame.place #[]):=by
 have hlt:i<gs.size:=(Array.getElem?_eq_some_iff.1 hg).1;have hli:Lv K σ i:=by simp[Lv,hgh]
 have hne:∀j,i≠j->((gs.map (Go.Conc.woken P g g' w)).setIfInBounds i g')[j]?=(gs[j]?).map (Go.Conc.woken P g g' w):=fun j hj=>by
  rw[Array.getElem?_setIfInBounds_ne hj,Array.getElem?_map]
 have hself:((gs.map (Go.Conc.woken P g g' w)).setIfInBounds i g')[i]?=some g':=Array.getElem?_setIfInBounds_self_of_lt (by simpa using hlt);have e:t++MemOp.ofEvents i g.frame.fn g.frame.place #[]=t:=by rw[ofEvents_eq];simp
 rw[e]
 refine⟨by simp[h.len],h.ok,fun j hj=>by simpa using h.inside j hj,h.hid,?_,fun j γj hj0 hj=>?_,fun j x hj hn hx=>?_,fun j hj=>h.above j (by simpa using hj),h.apt,h.law,h.shows,h.pubF,h.hush,h.lent,h.soft,zCk hlt (by rw[hq.run];simp) h.apart,h.based,zEs hlt (by rw[hq.run];simp) h.open0⟩
 ·obtain⟨γ0,a,h1,h2,h3⟩:=h.main;exact⟨γ0,Go.Conc.woken P g g' w a,h1,by rw[hne 0 hi0,h2];rfl,h3.woken hS⟩
 ·by_cases e:i=j
  ·subst e;rw[hgh] at hj
   cases hj
   exact⟨g',_,hself,List.getElem?_set_self (by rw[h.len];exact hlt),fun _=>⟨q,rfl,hq⟩,fun x=>absurd hd x⟩
  ·obtain⟨x,m1,h2,h3,h4,h5⟩:=h.work j γj hj0 hj
   refine⟨Go.Conc.woken P g g' w x,m1,by rw[hne j e,h2];rfl,by rw[List.getElem?_set_ne e];exact h3,fun hd=>?_,fun hd=>?_⟩
   ·obtain⟨q,h6,h7⟩:=h4 hd;exact⟨q,h6,by rw[h7.woken];exact h7⟩
   ·obtain⟨q,h6,h7⟩:=h5 hd;exact⟨q,h6,h7.woken (zC2 L h.ok h.shows hj)⟩
 ·have e:i≠j:=fun e=>by subst e;exact hn hli
  rw[hne j e] at hx;obtain⟨y,hy,rfl⟩:=Option.map_eq_some_iff.1 hx;obtain⟨n',h1,h2⟩:=h.old j y hj hn hy;exact⟨n',by rw[List.getElem?_set_ne e];exact h1,by rw[woken_quitsD h2];exact h2⟩
theorem jBh (h:NInv P K Stop W H gs w σ F S vs m0 ms t) (L:K.Laws) (hKW:K.low=W.heap.size) (hS:∀g v,Stop g v->g.status=.running) (hi0:i≠0) (hgh:K.gh σ i=some γ) (hd:(K.ts σ).Dn i) (hg:gs[i]?=some g):Nex P K Stop W H (m0,ms,n) (runT P (crowd gs w sl) i) t:=by
 have hli:Lv K σ i:=by simp[Lv,hgh]
 have hib:(i==0)=false:=by simp[hi0]
 obtain⟨g1,m1,h2,hms,h3,_⟩:=h.work i γ hi0 hgh;rw[hg] at h2
 cases h2
 obtain⟨q,rfl,hq⟩:=h3 hd
 cases hq with
 | @still f _ _ g' hr hst x k =>
  exact .of (runT_crowd_go hg (by rw[hib];exact hst w)) (zAx (Ns.set hms (.quiet ⟨x,rfl⟩))) ⟨_,w,sl,σ,F,S,vs,rfl,rfl,h.hushed L hS hi0 hgh hd hg k⟩
 | @act f _ _ nx hr hm hst k =>
  obtain⟨acts,σ',g',hmv,hstp,hfate⟩:=hst σ h.ok hgh;obtain⟨w',es,hs,hes,hT⟩:=hstp w h.shows
  rcases hfate with ⟨γ',h4,h5,h6⟩|⟨k',h4,h5⟩
  ·have hq':=k σ γ' g' h6;have:=h.turn L hKW hS hli hg hmv hT hes hm (.inl hq'.run) (tr:=m0) (mi:=.quiet (f (σ,γ',g'))) (fun e=>absurd e hi0) (fun _ γ2 h7=>by rw[h4] at h7;cases h7;exact⟨fun _=>⟨_,rfl,hq'⟩,fun x=>absurd h5 x⟩) (fun _ h7=>by rw[h4] at h7;cases h7);simp only[hi0,if_false] at this;exact .of (runT_crowd_go hg (by rw[hib];exact hs)) (zAx (Ns.set hms (.quiet ⟨_,rfl⟩))) ⟨_,w',sl,σ',_,_,_,rfl,rfl,this⟩
  ·have:=h.turn L hKW hS hli hg hmv hT hes hm h5.status (tr:=m0) (mi:=.quits k') (fun e=>absurd e hi0) (fun _ γ2 h7=>by rw[h4] at h7;cases h7) (fun _ _=>⟨k',rfl,h5⟩);simp only[hi0,if_false] at this;exact .of (runT_crowd_go hg (by rw[hib];exact hs)) (zAx (Ns.set hms .gone)) ⟨_,w',sl,σ',_,_,_,rfl,rfl,this⟩
end
theorem zK6 {g:Goroutine} {cs:Array CommCase} {sh:CommShape} {c k:Nat} {b:Bool} (h:k∈offersAt (parked g cs sh) c b):∃cc,cs[k]?=some cc∧cc.send.isSome=b∧cc.chan=.chan (some c):=by
 unfold offersAt at h;simp only[parked,List.mem_map,List.mem_filter,Prod.exists,exists_eq_right] at h;obtain⟨cc,h1,h2⟩:=h;simp only[Bool.and_eq_true,beq_iff_eq] at h2;refine⟨cc,mem_of_zipIdx h1,h2.1,?_⟩;have h3:=h2.2
 split at h3
 ·rename_i r' e;simp only[beq_iff_eq] at h3;rw[e,h3]
 ·cases h3
theorem zIo {g:Goroutine} (h:g.offers=none) (c:Nat) (b:Bool):offersAt g c b=[]:=by
 unfold offersAt;rw[h]
 cases g.status<;>rfl
theorem zGu {P:Program} {a a' x:Goroutine} {w:World} (h:a'.status=.blocked):Go.Conc.woken P a a' w x=x:=by
 unfold Go.Conc.woken;rw[if_neg];rw[h];simp
theorem zRq {gs:Array Goroutine} {f:Goroutine->Goroutine} (h:∀x,f x=x):gs.map f=gs:=by
 apply Array.ext_getElem?
 intro j;rw[Array.getElem?_map]
 cases gs[j]?<;>simp[h]
section
variable {P:Program} {K:Pro} {W:World} {H:Nat->Prop} {Stop:Goroutine->World->Prop} {σ σ':K.St} {m0 tr:Tr} {ms:List (Nm K)} {g g':Goroutine} {v v' w w':World} {i c n:Nat} {γ:Gh} {gs:Array Goroutine} {F S:Nat->Nat->Prop} {vs:Nat->World} {t:Trace} {es:Array Event} {sl:Option (Nat×Nat)}
theorem zAg {cs:LV} {k:Nat} {cc:CommCase} (h:((cs.map kase).toArray)[k]?=some cc):∃c z,cs[k]?=some (c,z)∧cc=rcase c z:=by
 simp only[List.getElem?_toArray,List.getElem?_map,Option.map_eq_some_iff] at h;obtain⟨⟨c,z⟩,h1,rfl⟩:=h;exact⟨c,z,h1,rfl⟩
theorem NInv.offerer (h:NInv P K Stop W H gs w σ F S vs m0 ms t) (hS:∀g v,Stop g v->g.status=.running) {j k:Nat} {b:Bool} (hp:(j,k)∈partners (gs.setIfInBounds i ph) c b) :
  j≠i∧((b=false∧j=0∧∃γ0 g2 cs shape z,K.gh σ 0=some γ0∧gs[0]?=some (parked g2 (cs.map kase).toArray shape)∧Listens P K Stop γ0 m0 (parked g2 (cs.map kase).toArray shape) g2 cs shape (vs 0)∧cs[k]?=some (c,z)) ∨
   (b=true∧j≠0∧k=0∧∃γ g2 x z γ' q,K.gh σ j=some γ∧¬(K.ts σ).Dn j∧gs[j]?=some (parked g2 #[scase c x z] .send)∧K.says γ c x γ'∧ms[j]?=some (.live q)∧∀v₁,Rl (vs j) v₁->∃tr',Tr.Lt tr' q∧GsT P (nSys P K j) NoStop tr' (Go.Conc.served g2 undef) (saying v₁ (gout γ')))):=by
 obtain⟨x,hx,hk⟩:=mem_partners.1 hp
 by_cases e:i=j
 ·subst e;have hlt:i<gs.size:=by simpa using (Array.getElem?_eq_some_iff.1 hx).1
  rw[Array.getElem?_setIfInBounds_self_of_lt hlt] at hx
  cases hx
  rw[offersAt_ph] at hk
  cases hk
 ·rw[Array.getElem?_setIfInBounds_ne e] at hx;refine⟨fun y=>e y.symm,?_⟩
  by_cases e0:j=0
  ·subst e0;obtain⟨γ0,a,h1,h2,h3⟩:=h.main;rw[hx] at h2
   cases h2
   obtain⟨_,h4|⟨g2,h4,_⟩|⟨g2,st,cs,shape,rfl,h5,h6⟩⟩:=h3
   ·rw[offersAt_of_not_blocked (by rw[zrun hS h4];simp)] at hk;cases hk
   ·rw[zIo (by rw[h4.1];exact h4.2.2.1)] at hk;cases hk
   ·rcases h5 with rfl|rfl
    ·rw[offersAt_of_not_blocked (by simp)] at hk;cases hk
    ·obtain⟨cc,h7,h8,h9⟩:=zK6 (g:=g2) hk;obtain⟨c',z,h10,rfl⟩:=zAg h7;have hc:c'=c:=by simpa[rcase] using h9
     subst hc;exact .inl ⟨h8.symm,rfl,γ0,g2,cs,shape,z,h1,hx,h6,h10⟩
  ·by_cases e1:Lv K σ j
   ·obtain⟨γ,hγ⟩:=Option.isSome_iff_exists.1 e1;obtain⟨y,m1,h2,h3,h4,h5⟩:=h.work j γ e0 hγ;rw[hx] at h2
    cases h2
    by_cases hd:(K.ts σ).Dn j
    ·obtain⟨q,_,h6⟩:=h4 hd;rw[offersAt_of_not_blocked (by rw[h6.run];simp)] at hk;cases hk
    ·obtain⟨q,rfl,_,h6|⟨g2,h6,_⟩|⟨g2,c',x',z,γ',rfl,h6,h7⟩⟩:=h5 hd
     ·rw[offersAt_of_not_blocked (by rw[nrun h6];simp)] at hk;cases hk
     ·rw[zIo (by rw[h6.1];exact h6.2.2.1)] at hk;cases hk
     ·obtain⟨cc,h8,h9,h10⟩:=zK6 hk
      have hk0:k=0:=by
       have:=(Array.getElem?_eq_some_iff.1 h8).1;simp at this;exact this
      subst hk0;have:cc=scase c' x' z:=by simpa using h8.symm
      subst this;have hc:c'=c:=by simpa[scase] using h10
      subst hc;exact .inr ⟨h9.symm,e0,rfl,γ,g2,x',z,γ',q,hγ,hd,hx,h6,h3,h7⟩
   ·obtain⟨n',_,h2⟩:=h.old j x e0 e1 hx;rw[offersAt_of_not_blocked (by rcases h2.status with y|y<;>rw[y]<;>simp)] at hk
    cases hk
theorem zEh {gs:Array Goroutine} {i:Nat} {g':Goroutine} (hi:i<gs.size)
  (h:∀(g2:Goroutine) (cs:Array CommCase) (shape:CommShape),gs[0]?=some (parked g2 cs shape)->∀(j:Nat) (g3:Goroutine) (c:Nat) (x z:Value),gs[j]?=some (parked g3 #[scase c x z] .send)->∀(k:Nat) (z':Value),cs[k]?≠some (rcase c z'))
  (h1:i=0->∀(g2:Goroutine) (cs:Array CommCase) (shape:CommShape),g'=parked g2 cs shape->∀(j:Nat) (g3:Goroutine) (c:Nat) (x z:Value),j≠0->gs[j]?=some (parked g3 #[scase c x z] .send)->∀(k:Nat) (z':Value),cs[k]?≠some (rcase c z'))
  (h2:∀(g3:Goroutine) (c:Nat) (x z:Value),g'=parked g3 #[scase c x z] .send->i≠0∧∀(g2:Goroutine) (cs:Array CommCase) (shape:CommShape),gs[0]?=some (parked g2 cs shape)->∀(k:Nat) (z':Value),cs[k]?≠some (rcase c z')) :
  ∀(g2:Goroutine) (cs:Array CommCase) (shape:CommShape),(gs.setIfInBounds i g')[0]?=some (parked g2 cs shape)->∀(j:Nat) (g3:Goroutine) (c:Nat) (x z:Value),(gs.setIfInBounds i g')[j]?=some (parked g3 #[scase c x z] .send)->∀(k:Nat) (z':Value),cs[k]?≠some (rcase c z'):=by
 intro g2 cs shape h0 j g3 c x z hj
 by_cases e:i=j
 ·subst e;rw[Array.getElem?_setIfInBounds_self_of_lt hi] at hj;obtain⟨hi0,h3⟩:=h2 g3 c x z (Option.some.inj hj);rw[Array.getElem?_setIfInBounds_ne hi0] at h0;exact h3 g2 cs shape h0
 ·rw[Array.getElem?_setIfInBounds_ne e] at hj
  by_cases e0:i=0
  ·subst e0;rw[Array.getElem?_setIfInBounds_self_of_lt hi] at h0;exact h1 J g2 cs shape (Option.some.inj h0) j g3 c x z (fun y=>e y.symm) hj
  ·rw[Array.getElem?_setIfInBounds_ne e0] at h0;exact h g2 cs shape h0 j g3 c x z hj
theorem zXk (h:NInv P K Stop W H gs w σ F S vs m0 ms t) [Nonempty K.St] (L:K.Laws) (hKW:K.low=W.heap.size) (hS:∀g v,Stop g v->g.status=.running) (hi0:i≠0) (hgh:K.gh σ i=some γ) (hd:¬(K.ts σ).Dn i) (hg:gs[i]?=some g) (hr:g.status=.running) (hn:n=runs gs):Nex P K Stop W H (m0,ms,n) (runT P (crowd gs w sl) i) t:=by
 have hli:Lv K σ i:=by simp[Lv,hgh]
 have hib:(i==0)=false:=by simp[hi0]
 have hlt:=h.inside i hli;obtain⟨g1,m1,h2,hms,_,h4⟩:=h.work i γ hi0 hgh;rw[hg] at h2
 cases h2
 obtain⟨tr,rfl,h0,hT|⟨g2,h5,_⟩|⟨g2,c,x,z,γ',rfl,_⟩⟩:=h4 hd
 ·cases hT with
  | stop hs=>exact (hs (vs i) (Rl.refl _)).elim
  | @step f _ _ _ nx hstp hk' =>
   have hh:=hstp (vs i) (Rl.refl _);obtain⟨w',hst,hv,hkp,hev⟩:=hh.real (F i) (S i) w (h.hid i hli hd);have hT':=hk' (vs i) (Rl.refl _);have hout:(nx (vs i)).2.1.output=gout γ:=(hh.out (F i) (S i) w (h.hid i hli hd)).trans h0;have hown:=h.own L hS (tr:=f (vs i,(nx (vs i)).1,(nx (vs i)).2.1)) hli hd hg hkp hv (by rw[<-hv.size];exact hev) (nrun hT') (fun e=>absurd e hi0) (fun _ γ2 h6=>by rw[hgh] at h6;cases h6;exact⟨hout,.inl hT'⟩);simp only[hi0,if_false] at hown
   exact .of (runT_crowd_go hg (by rw[hib];exact hst)) (zAx (Ns.set hms (.live ⟨_,rfl⟩))) ⟨_,w',sl,σ,_,_,_,rfl,rfl,hown⟩
  | @sync f _ _ nx hsy hk' =>
   obtain⟨_,γ2,hout,hsyn⟩:=hsy (vs i) (Rl.refl _);have e:γ=γ2:=zJe (h0.symm.trans hout);subst e;have hT:GsT P (nSys P K i) NoStop (.node f) g (vs i):=.sync nx hsy hk'
   rcases hsyn with ⟨hm,hact⟩|⟨g',hlook,hnx⟩|⟨c,x,z,γ',hstp,hsay,hnx⟩
   ·rcases hact σ h.ok hgh with ⟨hidle,hof,hst⟩|⟨acts,cl,σ',g',hmv,hstp,hfate⟩
    ·have hs:=hst (F i) (S i) w (h.hid i hli hd) h.shows;have hrun:=runT_crowd_go (sl:=sl) hg (by rw[hib];exact hs);rw[zRq (fun x=>zGu J)] at hrun
     have hsty:=h.stay (g':={g with status:=.blocked}) hg hli hd (fun e=>absurd e hi0) (fun _ γ2 h6=>by rw[hgh] at h6;cases h6;exact⟨_,hms,h0,.inr (.inl ⟨g,⟨rfl,hr,hof,hidle⟩,hT⟩)⟩)
      (zEh hlt h.apart (fun e=>absurd e hi0) fun g3 c x z e=>by
       have:=congrArg Goroutine.offers e;simp only[parked] at this;rw[hof] at this
       cases this) (fun e=>absurd e hi0)
     have e1:t++MemOp.ofEvents i g.frame.fn g.frame.place #[]=t:=by rw[ofEvents_eq];simp
     refine .of (μ':=(m0,ms,runs (gs.setIfInBounds i {g with status:=.blocked}))) hrun (zIg (by rw[hn];exact zFs hg hr (by simp))) ?_;rw[e1];exact⟨_,w,sl,σ,F,S,vs,rfl,rfl,hsty⟩
    ·obtain⟨w',es,hs,hes,hT'⟩:=hstp (F i) (S i) w (h.hid i hli hd) h.shows
     rcases hfate with ⟨γ',h6,h7,h8⟩|⟨_,γ',h6,h7,h8⟩|⟨_,k',h6,h7⟩
     ·have hk2:=hk' (vs i) (Rl.refl _) _ _ h8
      have:=h.turn L hKW hS hli hg hmv hT' hes hm (.inl (nrun hk2)) (tr:=f (vs i,g',saying (vs i) (gout γ'))) (mi:=.live (f (vs i,g',saying (vs i) (gout γ')))) (fun e=>absurd e hi0)
       (fun _ γ2 h9=>by rw[h6] at h9;cases h9;exact⟨fun y=>absurd y h7,fun _=>⟨hd,_,rfl,rfl,.inl hk2⟩⟩) (fun _ h9=>by rw[h6] at h9;cases h9)
      simp only[hi0,if_false] at this;exact .of (runT_crowd_go hg (by rw[hib];exact hs)) (zAx (Ns.set hms (.live ⟨_,rfl⟩))) ⟨_,w',sl,σ',_,_,_,rfl,rfl,this⟩
     ·obtain⟨q,hq⟩:=zUk h8;have:=h.turn L hKW hS hli hg hmv hT' hes hm (.inl hq.run) (tr:=m0) (mi:=.quiet q) (fun e=>absurd e hi0) (fun _ γ2 h9=>by rw[h6] at h9;cases h9;exact⟨fun _=>⟨_,rfl,hq⟩,fun y=>absurd h7 y⟩) (fun _ h9=>by rw[h6] at h9;cases h9);simp only[hi0,if_false] at this;exact .of (runT_crowd_go hg (by rw[hib];exact hs)) (zAx (Ns.set hms .hush)) ⟨_,w',sl,σ',_,_,_,rfl,rfl,this⟩
     ·have:=h.turn L hKW hS hli hg hmv hT' hes hm h7.status (tr:=m0) (mi:=.quits k') (fun e=>absurd e hi0) (fun _ γ2 h9=>by rw[h6] at h9;cases h9) (fun _ _=>⟨k',rfl,h7⟩);simp only[hi0,if_false] at this;exact .of (runT_crowd_go hg (by rw[hib];exact hs)) (zAx (Ns.set hms .done)) ⟨_,w',sl,σ',_,_,_,rfl,rfl,this⟩
   ·have hst:=hlook σ h.ok hgh w h.shows;have hT':=hk' (vs i) (Rl.refl _) _ _ hnx;have hown:=h.own L hS (tr:=f (vs i,g',vs i)) (es:=#[]) hli hd hg (.refl ..) (h.hid i hli hd) (by simp) (nrun hT') (fun e=>absurd e hi0) (fun _ γ2 h6=>by rw[hgh] at h6;cases h6;exact⟨h0,.inl hT'⟩);simp only[hi0,if_false] at hown;exact .of (runT_crowd_go hg (by rw[hib];exact hst)) (zAx (Ns.set hms (.live ⟨_,rfl⟩))) ⟨_,w,sl,σ,_,_,_,rfl,rfl,hown⟩
   ·obtain⟨es,hst,hev⟩:=hstp (F i) (S i) w (h.hid i hli hd);have hst':stepG P (i==0) g w=.comm g #[scase c x z] true .send w es:=by rw[hib];exact hst
    obtain⟨r,hch⟩:=zC2 L h.ok h.shows hgh c x γ' hsay;have ht:=h.told hli hd (fn:=g.frame.fn) (pos:=g.frame.place) hev
    by_cases hp:partners (gs.setIfInBounds i ph) c false=[]
    ·have hrun:=crowd_waits (sl:=sl) hg hst' (fun cc hcc=>by
      have:cc=scase c x z:=by simpa using hcc
      subst this
      exact ways_send_none hch (by simp) hp)
     have hsty:=ht.stay (g':=parked g #[scase c x z] .send) hg hli hd (fun e=>absurd e hi0) (fun _ γ2 h6=>by
       rw[hgh] at h6
       cases h6
       refine⟨_,hms,h0,.inr (.inr ⟨g,c,x,z,γ',rfl,hsay,fun v₁ hv=>⟨_,⟨_,rfl⟩,(hk' (vs i) (Rl.refl _) _ _ hnx).rely (wQ hv _)⟩⟩)⟩)
      (zEh hlt h.apart (fun e=>absurd e hi0) fun g3 c' x' z' e=>by
       have e1:=congrArg Goroutine.offers e;simp only[parked,Option.some.injEq,Prod.mk.injEq,Array.mk.injEq,List.cons.injEq,scase,CommCase.mk.injEq] at e1;have hc:c=c':=by simpa using e1.1.1.1
       subst hc;refine⟨hi0,fun g2 cs shape h6 k z' h7=>?_⟩;obtain⟨γ0,a,h8,h9,h10⟩:=h.main;rw[h6] at h9
       cases h9
       have hmem:(0,k)∈partners (gs.setIfInBounds i ph) c false:=by
        refine mem_partners.2 ⟨_,by rw[Array.getElem?_setIfInBounds_ne hi0];exact h6,?_⟩;unfold offersAt;simp only[parked,List.mem_map,List.mem_filter,Prod.exists,exists_eq_right];obtain⟨hlt',hget⟩:=Array.getElem?_eq_some_iff.1 h7;refine⟨rcase c z',?_,by simp[rcase]⟩;rw[Array.mem_toList_iff,Array.mem_iff_getElem];exact⟨k,by simpa using hlt',by simp[hget]⟩
       rw[hp] at hmem
       cases hmem) (fun e=>absurd e hi0)
     exact .of (μ':=(m0,ms,runs (gs.setIfInBounds i (parked g #[scase c x z] .send)))) hrun (zIg (by rw[hn];exact zFs hg hr (by simp[parked]))) ⟨_,w,sl,σ,F,S,vs,rfl,rfl,hsty⟩
    ·obtain⟨⟨j,k⟩,hjk⟩:=List.exists_mem_of_ne_nil _ hp
     obtain⟨_,⟨_,rfl,γ0,g2,cs,shape,z',hg0,hgs0,hlis,hk⟩|⟨e,_⟩⟩:=h.offerer hS hjk
     ·obtain⟨hnd,hall⟩:=L.ears σ γ0 _ h.ok hg0 hlis.ear;have hkk:((cs.map kase).toArray)[k]?=some (rcase c z'):=by simp[hk,kase]
      have huniq:∀(m:Nat) (cc:CommCase),m≠k->((cs.map kase).toArray)[m]?=some cc->cc.chan≠.chan (some c):=fun m cc hm hcc e=>by
       obtain⟨c',z2,h6,rfl⟩:=zAg hcc;have hc:c'=c:=by simpa[rcase] using e
       subst hc
       refine hm ((List.getElem?_inj (i:=m) (j:=k) (l:=cs.map (·.1)) ?_ hnd).1 ?_)
       ·have:=(List.getElem?_eq_some_iff.1 h6).1;simpa using this
       ·simp[h6,hk]
      have hone:partners (gs.setIfInBounds i ph) c false=[(0,k)]:=by
       rw[partners_one (j:=0) (g:=parked g2 (cs.map kase).toArray shape) (by rw[Array.getElem?_setIfInBounds_ne hi0];exact hgs0) (fun q y hq hy=>?_),offersAt_parked_at hkk huniq]
       ·rfl
       ·cases hof:offersAt y c false with
        | nil=>rfl
        | cons k2 l =>
         have hm:(q,k2)∈partners (gs.setIfInBounds i ph) c false:=mem_partners.2 ⟨y,hy,by rw[hof];simp⟩
         obtain⟨_,⟨_,e,_⟩|⟨e,_⟩⟩:=h.offerer hS hm
         ·exact absurd e hq
         ·cases e
      have hrun:=crowd_send_meets_sel (sl:=sl) hg hst' hch (Ne.symm hi0) hgs0 hkk hone;obtain⟨_,_,σ',γ0',ok',hheard,hsame,h0',hj',hoth⟩:=L.meet σ γ0 _ i γ c x γ' h.ok hg0 hlis.ear hgh hsay;obtain⟨trm,htm,hTm⟩:=hlis.k1 (vs 0) (Rl.refl _) k c z' x γ0' hk hheard;have hwk:=hk' (vs i) (Rl.refl _) _ _ hnx;have hlt0:0<gs.size:=by omega
      have hmt:=ht.meet L hKW (gs':=(gs.setIfInBounds 0 (g2.finishComm P (cs.map kase).toArray shape k x true)).setIfInBounds i (Go.Conc.served g undef)) (r:=r) (tr:=trm) (trj:=f (vs i,Go.Conc.served g undef,saying (vs i) (gout γ'))) w.drawn hi0 hgh hd hsay ok' hsame h0' hj' hoth (by simp)
       (by rw[Array.getElem?_setIfInBounds_ne hi0];exact Array.getElem?_setIfInBounds_self_of_lt hlt0) (Array.getElem?_setIfInBounds_self_of_lt (by simpa using hlt))
       (fun q hq0 hqi=>by rw[Array.getElem?_setIfInBounds_ne (fun e=>hqi e.symm),Array.getElem?_setIfInBounds_ne (fun e=>hq0 e.symm)]) J J hch ⟨rfl,.inl (hTm.rely (wQ (Rl.drew (vs 0) w.drawn) _))⟩ ⟨rfl,.inl (hwk.rely (wQ (Rl.drew (vs i) w.drawn) _))⟩ g.frame.fn g.frame.place g2.frame.fn g2.frame.place
      rw[Array.append_assoc] at hmt;exact .of (μ':=(trm,ms.set i (.live (f (vs i,Go.Conc.served g undef,saying (vs i) (gout γ')))),runs ((gs.setIfInBounds 0 (g2.finishComm P (cs.map kase).toArray shape k x true)).setIfInBounds i (Go.Conc.served g undef)))) hrun (zA1 htm) ⟨_,_,sl,σ',_,_,_,rfl,rfl,hmt⟩
     ·cases e
 ·rw[h5.1] at hr;cases hr
 ·cases hr
end
theorem zQ1 (P:Program) (w:World) {n:Nat} (h:0<n):∃a d,a<n∧(choose (.select n)).run P w=.ok a (w.at d):=by
 rw[run_choose_drew]
 split
 ·exact⟨0,w.drawn,h,rfl⟩
 ·exact⟨_,w.drawn+1,Nat.mod_lt _ h,rfl⟩
theorem zQr (P:Program) (w:World) (s:String) {n:Nat} (h:0<n):∃a d,a<n∧(choose (.extern s n)).run P w=.ok a (w.at d):=by
 rw[run_choose_drew]
 split
 ·exact⟨0,w.drawn,h,rfl⟩
 ·refine⟨_,w.drawn+1,?_,rfl⟩;simp only[Question.cut];rw[if_neg (by omega)];exact Nat.mod_lt _ h
section
variable {P:Program} {gs:Array Goroutine} {w w₁:World} {sl:Option (Nat×Nat)} {i:Nat} {g g₂:Goroutine} {es:Array Event} {shape:CommShape} {cs:LV}
theorem zQt (hi:gs[i]?=some g) (h:stepG P (i==0) g w=.comm g₂ (cs.map kase).toArray true shape w₁ es)
  (hch:∀(k c:Nat) (z:Value),cs[k]?=some (c,z)->∃r,w₁.heap[c]?=some (.chan 0 #[] false r r false))
  (hall:∀(k c:Nat) (z:Value),cs[k]?=some (c,z)->∀j k',(j,k')∈partners (gs.setIfInBounds i ph) c true->k'=0∧j≠i∧∃gj vj zj shj,gs[j]?=some (parked gj #[scase c vj zj] shj))
  (hne:∃(k c:Nat) (z:Value),cs[k]?=some (c,z)∧partners (gs.setIfInBounds i ph) c true≠[]) :
  ∃(k c:Nat) (z:Value) (j:Nat) (gj:Goroutine) (vj zj:Value) (shj:CommShape) (d r:Nat),cs[k]?=some (c,z)∧w₁.heap[c]?=some (.chan 0 #[] false r r false)∧(j,0)∈partners (gs.setIfInBounds i ph) c true∧j≠i∧gs[j]?=some (parked gj #[scase c vj zj] shj) ∧
   runT P (crowd gs w sl) i=(.next (crowd ((gs.setIfInBounds j (gj.finishComm P #[scase c vj zj] shj 0 undef false)).setIfInBounds i (g₂.finishComm P (cs.map kase).toArray shape k vj true)) ((w₁.at d).setChan c 0 #[] false (r+1) (r+1) false) sl),
    MemOp.ofEvents i g.frame.fn g.frame.place es++Go.Conc.met j i gj.frame.fn gj.frame.place g₂.frame.fn g₂.frame.place c r 0):=by
 generalize hR:(((cs.map kase).toArray.zipIdx.toList.map fun (x:CommCase×Nat)=>(x.2,x.1,ways w₁ (gs.setIfInBounds i ph) x.1)).filter fun (x:Nat×CommCase×List Way)=>!x.2.2.isEmpty)=R
 have hmem:∀k cc ws,(k,cc,ws)∈R->∃c z,cs[k]?=some (c,z)∧cc=rcase c z∧ws=(partners (gs.setIfInBounds i ph) c true).map (fun p=>Way.partner p.1 p.2)∧ws≠[]:=by
  intro k cc ws hm;rw[<-hR,List.mem_filter,List.mem_map] at hm;obtain⟨⟨⟨cc',k'⟩,h1,h2⟩,h3⟩:=hm;simp only[Prod.mk.injEq] at h2;obtain⟨rfl,rfl,rfl⟩:=h2;obtain⟨c,z,h4,rfl⟩:=zAg (mem_of_zipIdx h1);obtain⟨r,hr⟩:=hch _ c z h4
  have hw:ways w₁ (gs.setIfInBounds i ph) (rcase c z)=(partners (gs.setIfInBounds i ph) c true).map (fun p=>Way.partner p.1 p.2):=by
   simp only[ways,rcase,hr]
   cases partners (gs.setIfInBounds i ph) c true with
   | nil=>simp
   | cons p ps=>simp
  exact⟨c,z,h4,rfl,hw,by simpa using h3⟩
 have hRne:0<R.length:=by
  obtain⟨k,c,z,h1,h2⟩:=hne;obtain⟨r,hr⟩:=hch k c z h1;rw[List.length_pos_iff,<-hR];intro e;rw[List.filter_eq_nil_iff] at e
  have:=e (k,rcase c z,ways w₁ (gs.setIfInBounds i ph) (rcase c z)) (by
   rw[List.mem_map];refine⟨(rcase c z,k),?_,rfl⟩;rw[List.mem_iff_getElem?]
   exact⟨k,by simp[h1,kase]⟩)
  simp only[Bool.not_eq_true',Bool.not_eq_false] at this;simp only[ways,rcase,hr,List.isEmpty_iff] at this
  cases hp:partners (gs.setIfInBounds i ph) c true with
  | nil=>exact h2 hp
  | cons p ps=>rw[hp] at this;simp at this
 obtain ⟨a, d1, ha, hrun1⟩ := zQ1 P w₁ hRne;obtain ⟨⟨k, cc, ws⟩, hget⟩ : ∃ p, R[a]? = some p := ⟨R[a], List.getElem?_eq_getElem ha⟩;obtain ⟨c, z, h4, rfl, rfl, hwne⟩ := hmem k cc ws (List.mem_of_getElem? hget);have hlen : 0 < ((partners (gs.setIfInBounds i ph) c true).map (fun p => Way.partner p.1 p.2)).length := List.length_pos_iff.2 hwne;obtain ⟨b, d2, hb, hrun2⟩ := zQr P (w₁.at d1) "which waiting goroutine is the partner" hlen;obtain ⟨⟨j, k'⟩, hjk⟩ : ∃ p, (partners (gs.setIfInBounds i ph) c true)[b]? = some p := ⟨_, List.getElem?_eq_getElem (by simpa using hb)⟩;have hjm := List.mem_of_getElem? hjk;obtain ⟨rfl, hij, gj, vj, zj, shj, hj⟩ := hall k c z h4 j k' hjm;obtain ⟨r, hr⟩ := hch k c z h4
 have hill:((cs.map kase).toArray.any fun c=>(match c.chan with
  | .chan none=>false
  | .chan (some r)=>!(w₁.heap[r]? matches some (.chan ..))
  | _=>true))=false:=by
  rw[Array.any_eq_false];intro m hm;obtain⟨c',z',h5,h6⟩:=zAg (cs:=cs) (Array.getElem?_eq_getElem hm);obtain⟨r',hr'⟩:=hch m c' z' h5;rw[h6];simp[rcase,hr']
 have hj':=stand_get (i:=i) hij hj;have hfp:=finishPartner_at P (gs.setIfInBounds i ph) hj' (cs:=#[scase c vj zj]) (sh:=shj) J 0 undef;have hgd:(gs.setIfInBounds i ph).getD j default=parked gj #[scase c vj zj] shj:=by rw[Array.getD_eq_getD_getElem?,hj'];rfl
 have hov:offeredValue (gs.setIfInBounds i ph) j 0=vj:=by simp[offeredValue,hj',parked,scase]
 have hpick:Sem.run P (do
   let a<-choose (.select R.length)
   let (k,c,ws):=R.getD a (0,default,[])
   let b <- choose (.extern "which waiting goroutine is the partner" ws.length)
   pure (k,c,ws.getD b .closed)) w₁=.ok (k,rcase c z,Way.partner j 0) ((w₁.at d1).at d2):=by
  have e1:R.getD a (0,default,[])=(k,rcase c z,(partners (gs.setIfInBounds i ph) c true).map (fun p=>Way.partner p.1 p.2)):=by rw[List.getD_eq_getElem?_getD,hget];rfl
  have e2:((partners (gs.setIfInBounds i ph) c true).map (fun p=>Way.partner p.1 p.2)).getD b .closed=Way.partner j 0:=by rw[List.getD_eq_getElem?_getD,List.getElem?_map,hjk];rfl
  simp only[Sem.run_bind,hrun1,Result.andThen_ok,e1,hrun2,e2,Sem.run_pure]
 refine⟨k,c,z,j,gj,vj,zj,shj,d2,r,h4,hr,hjm,hij,hj,?_⟩;rw[runT_crowd_comm hi h]
 have key:communicate P (crowd gs w sl).rest (gs.setIfInBounds i ph) i g₂ (cs.map kase).toArray true shape w₁ =
   (.next (crowd ((gs.setIfInBounds j (gj.finishComm P #[scase c vj zj] shj 0 undef false)).setIfInBounds i (g₂.finishComm P (cs.map kase).toArray shape k vj true)) ((w₁.at d2).setChan c 0 #[] false (r+1) (r+1) false) sl),Go.Conc.met j i gj.frame.fn gj.frame.place g₂.frame.fn g₂.frame.place c r 0):=by
  unfold communicate;simp only;rw[if_neg (by rw[Bool.not_eq_true];exact hill)];rw[hR]
  rw[if_neg (by cases R with
   | nil=>simp at hRne
   | cons x l=>simp)]
  rw[hpick];simp only[rcase,World.at,hr,hfp,hov,hgd,set_stand2,parked]
  rfl
 rw[key]
end
section
variable {P:Program} {K:Pro} {W:World} {H:Nat->Prop} {Stop:Goroutine->World->Prop} {σ σ':K.St} {m0 tr:Tr} {ms:List (Nm K)} {g g' g2:Goroutine} {v v' w w':World} {i c n:Nat} {γ:Gh} {gs:Array Goroutine} {F S:Nat->Nat->Prop} {vs:Nat->World} {t:Trace} {es:Array Event} {sl:Option (Nat×Nat)} {shape:CommShape} {cs:LV}
theorem zU4 (h:NInv P K Stop W H gs w σ F S vs m0 ms t) (L:K.Laws) (hKW:K.low=W.heap.size) (hS:∀g v,Stop g v->g.status=.running) (hg:gs[0]?=some g) (hr:g.status=.running) (hgh:K.gh σ 0=some γ) (hout:(vs 0).output=gout γ) (hlis:Listens P K Stop γ m0 g g2 cs shape (vs 0)) (hn:n=runs gs):Nex P K Stop W H (m0,ms,n) (runT P (crowd gs w sl) 0) t:=by
 have hz:=(L.zero σ h.ok).2;have hl0:=h.zero;have hlt:0<gs.size:=(Array.getElem?_eq_some_iff.1 hg).1;obtain⟨es,hst,hev⟩:=hlis.step (vs 0) (Rl.refl _) (F 0) (S 0) w (h.hid 0 hl0 hz);have hst':stepG P ((0:Nat)==0) g w=.comm g2 (cs.map kase).toArray true shape w es:=hst;obtain⟨hnd,hall⟩:=L.ears σ γ _ h.ok hgh hlis.ear;have ht:=h.told hl0 hz (fn:=g.frame.fn) (pos:=g.frame.place) hev;have hin:∀(k c:Nat) (z:Value),cs[k]?=some (c,z)->c∈cs.map (·.1):=fun k c z hk=>List.mem_map.2 ⟨(c,z),List.mem_of_getElem? hk,rfl⟩
 by_cases hcl:∃(k c:Nat) (z:Value),cs[k]?=some (c,z)∧K.ch σ c=some true
 ·obtain⟨k,c,z,hk,hc⟩:=hcl
  have hnone:∀c b,b=true->partners (gs.setIfInBounds 0 ph) c b=[]:=fun c b hb=>by
   refine List.eq_nil_iff_forall_not_mem.2 ?_;rintro⟨j,k'⟩ hm
   obtain⟨_,⟨e,_⟩|⟨_,hj0,_,γj,_,_,_,_,_,hj,_⟩⟩:=h.offerer hS hm
   ·rw[hb] at e;cases e
   ·exact hj0 (L.hush σ _ h.ok hc j (by rw[hj];rfl))
  obtain⟨r,hch⟩:=h.shows.2 c true hc;have hkk:((cs.map kase).toArray)[k]?=some (rcase c z):=by simp[hk,kase]
  have hrun:=crowd_sel_recv_closed (sl:=sl) hg hst' hkk (fun m cc hm hcc=>by
   obtain⟨c',z',h6,rfl⟩:=zAg hcc;have hsome:=hall c' (hin m c' z' h6);obtain⟨x,hx⟩:=Option.isSome_iff_exists.1 hsome
   have hne:c'≠c:=fun e=>by
    subst e
    refine hm ((List.getElem?_inj (i:=m) (j:=k) (l:=cs.map (·.1)) ?_ hnd).1 ?_)
    ·have:=(List.getElem?_eq_some_iff.1 h6).1;simpa using this
    ·simp[h6,hk]
   cases x with
   | true=>exact absurd (L.once σ c' c h.ok hx hc) hne
   | false =>
    obtain⟨r',hr'⟩:=h.shows.2 c' false hx
    exact ways_recv_none hr' (hnone c' true J)) hch (hnone c true J)
  obtain⟨γ',σ',tr',hf,htr,hT⟩:=hlis.k2 (vs 0) (Rl.refl _) k c z σ hk h.ok hgh hc;have hfin:=ht.finds L hg w.drawn hc hf (g':=g2.finishComm P (cs.map kase).toArray shape k z false) J (tr:=tr') ⟨rfl,.inl (hT.rely (wQ (Rl.drew (vs 0) w.drawn) _))⟩ g2.frame.fn g2.frame.place;rw[Array.append_assoc] at hfin;exact .of (μ':=(tr',ms,runs (gs.setIfInBounds 0 (g2.finishComm P (cs.map kase).toArray shape k z false)))) hrun (zA1 htr) ⟨_,_,sl,σ',_,_,_,rfl,rfl,hfin⟩
 ·have hopen:∀(k c:Nat) (z:Value),cs[k]?=some (c,z)->K.ch σ c=some false:=fun k c z hk=>by
   obtain⟨x,hx⟩:=Option.isSome_iff_exists.1 (hall c (hin k c z hk))
   cases x with
   | true=>exact absurd ⟨k,c,z,hk,hx⟩ hcl
   | false=>exact hx
  by_cases hp:∃(k c:Nat) (z:Value),cs[k]?=some (c,z)∧partners (gs.setIfInBounds 0 ph) c true≠[]
  ·obtain⟨k,c,z,j,gj,vj,zj,shj,d,r,hk,hch,hjm,hj0,hgj,hrun⟩:=zQt (sl:=sl) hg hst' (fun k c z hk=>h.shows.2 c false (hopen k c z hk)) (fun k c z hk j k' hm=>by
    obtain⟨e1,⟨e,_⟩|⟨_,hj0,e2,γj,g3,x,z',γ',q,_,_,h6,_⟩⟩:=h.offerer hS hm
    ·cases e
    ·exact⟨e2,e1,g3,x,z',_,h6⟩) hp
   obtain⟨_,⟨e,_⟩|⟨_,_,_,γj,g3,x,z',γ',q,hgj2,hdj,h6,hsay,hms,hk3⟩⟩:=h.offerer hS hjm
   ·cases e
   ·rw[hgj] at h6;have e4:=congrArg Goroutine.offers (Option.some.inj h6);simp only[parked,scase,Option.some.injEq,Prod.mk.injEq,Array.mk.injEq,List.cons.injEq,CommCase.mk.injEq] at e4;obtain⟨⟨⟨_,hvj,_⟩,_⟩,rfl⟩:=e4;have hvj':vj=x:=by simpa using hvj
    subst hvj'
    have hfj:gj.finishComm P #[scase c vj zj] .send 0 undef false=Go.Conc.served g3 undef:=by
     rw[finishComm_send];have e5:Go.Conc.served gj undef=Go.Conc.served (parked gj #[scase c vj zj] .send) undef:=rfl;rw[e5,Option.some.inj h6]
     rfl
    obtain⟨_,_,σ',γ0',ok',hheard,hsame,h0',hj',hoth⟩:=L.meet σ γ _ j γj c vj γ' h.ok hgh hlis.ear hgj2 hsay;obtain⟨trm,htm,hTm⟩:=hlis.k1 ((vs 0).at d) (.drew ..) k c z vj γ0' hk hheard;obtain⟨trw,_,hTw⟩:=hk3 ((vs j).at d) (.drew ..);have hjs:=h.inside j (by simp[Lv,hgj2])
    have hmt:=ht.meet L hKW (gs':=(gs.setIfInBounds j (Go.Conc.served g3 undef)).setIfInBounds 0 (g2.finishComm P (cs.map kase).toArray shape k vj true)) (r:=r) (tr:=trm) (trj:=trw) d hj0 hgj2 hdj hsay ok' hsame h0' hj' hoth (by simp)
     (Array.getElem?_setIfInBounds_self_of_lt (by simpa using hlt)) (by rw[Array.getElem?_setIfInBounds_ne (fun e=>hj0 e.symm)];exact Array.getElem?_setIfInBounds_self_of_lt hjs)
     (fun q hq0 hqj=>by rw[Array.getElem?_setIfInBounds_ne (fun e=>hq0 e.symm),Array.getElem?_setIfInBounds_ne (fun e=>hqj e.symm)]) J J hch ⟨rfl,.inl hTm⟩ ⟨rfl,.inl hTw⟩ gj.frame.fn gj.frame.place g2.frame.fn g2.frame.place
    rw[Array.append_assoc] at hmt;rw[hfj] at hrun;exact .of (μ':=(trm,ms.set j (.live trw),runs ((gs.setIfInBounds j (Go.Conc.served g3 undef)).setIfInBounds 0 (g2.finishComm P (cs.map kase).toArray shape k vj true)))) hrun (zA1 htm) ⟨_,_,sl,σ',_,_,_,rfl,rfl,hmt⟩
  ·have hno:∀(k c:Nat) (z:Value),cs[k]?=some (c,z)->partners (gs.setIfInBounds 0 ph) c true=[]:=fun k c z hk=>by
    by_cases e:partners (gs.setIfInBounds 0 ph) c true=[]
    ·exact e
    ·exact absurd ⟨k,c,z,hk,e⟩ hp
   have hrun:=crowd_waits (sl:=sl) hg hst' (fun cc hcc=>by
    obtain⟨m,hm,rfl⟩:=Array.mem_iff_getElem.1 hcc;obtain⟨c,z,h6,h7⟩:=zAg (cs:=cs) (Array.getElem?_eq_getElem hm);rw[h7];obtain⟨r,hr'⟩:=h.shows.2 c false (hopen m c z h6)
    exact ways_recv_none hr' (hno m c z h6))
   have hsty:=ht.stay (g':=parked g2 (cs.map kase).toArray shape) hg hl0 hz (fun _ γ2 h6=>by
     rw[hgh] at h6
     cases h6
     exact⟨hout,.inr (.inr ⟨g2,.blocked,cs,shape,rfl,.inr J,⟨hlis.ear,fun v₁ h1 F S w hw=>by
      obtain⟨es,h8,h9⟩:=hlis.step v₁ h1 F S w hw;refine⟨es,?_,h9⟩;have hfr:stepG P true (parked g2 (cs.map kase).toArray shape) w=stepG P true g2 w:=rfl;rw[hfr]
      exact (hlis.still w).symm.trans h8,hlis.k1,hlis.k2,fun _=>rfl⟩⟩)⟩) (fun e=>absurd J e)
    (zEh hlt h.apart (fun _ g4 cs' shape' e j g3 c x z hj0 hj k z' hk=>by
     have e1:=congrArg Goroutine.offers e;simp only[parked,Option.some.injEq,Prod.mk.injEq] at e1;rw[<-e1.1] at hk;obtain⟨c',z2,h6,h7⟩:=zAg hk;have hc:c=c':=by simpa[rcase] using congrArg CommCase.chan h7
     subst hc;have hm:(j,0)∈partners (gs.setIfInBounds 0 ph) c true:=mem_partners.2 ⟨_,by rw[Array.getElem?_setIfInBounds_ne (fun e=>hj0 e.symm)];exact hj,by rw[offersAt_parked_send];simp⟩;rw[hno k c z2 h6] at hm
     cases hm) fun g3 c x z e=>by
      have e1:=congrArg Goroutine.offers e;simp only[parked,Option.some.injEq,Prod.mk.injEq] at e1;have e2:((cs.map kase).toArray)[0]?=some (scase c x z):=by rw[e1.1];rfl
      obtain⟨c',z2,_,h7⟩:=zAg e2
      exact absurd (congrArg CommCase.send h7) (by simp[scase,rcase]))
    (fun _ g4 cs' shape' e k c z hk hc=>by
     have e1:=congrArg Goroutine.offers e;simp only[parked,Option.some.injEq,Prod.mk.injEq] at e1;have e2:((cs.map kase).toArray)[k]?=some (rcase c z):=by rw[e1.1];simp[hk,kase]
     obtain⟨c',z2,h6,h7⟩:=zAg e2;have hcc:c=c':=by simpa[rcase] using congrArg CommCase.chan h7
     subst hcc;rw[hopen k c z2 h6] at hc
     cases hc)
   exact .of (μ':=(m0,ms,runs (gs.setIfInBounds 0 (parked g2 (cs.map kase).toArray shape)))) hrun (zIg (by rw[hn];exact zFs hg hr (by simp[parked]))) ⟨_,w,sl,σ,F,S,vs,rfl,rfl,hsty⟩
end
end
end Go.Proofs.YteppiphdbondeaaGreat.N
