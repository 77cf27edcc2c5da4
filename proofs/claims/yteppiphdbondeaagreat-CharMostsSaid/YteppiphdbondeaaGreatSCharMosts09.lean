/- Parts of the walk of the law CharMosts: T29, T30, ChU, ChY, T31, T32, T33, ChAA, T34, ChD, ChAB, T35, Y1, YA, V4b, Y2, ChAH, YB, Y3, ChAI, YC, Y4, ChAJ, ChAL, ChAN, YD, Y5, YE, Y6, YF. -/
import Derived.Test.YteppiphdbondeaaGreatSCharMosts08
import Derived.Test.YteppiphdbondeaaGreatProg
import Derived.ArgAppend
import Derived.Deep.Upon
import Derived.Test.YteppiphdbondeaaGreatSCharMosts00
import Derived.Test.YteppiphdbondeaaGreatSCharMosts01
import Derived.Deep.AppendSrc
namespace Go.Proofs.YteppiphdbondeaaGreat.N
set_option linter.unusedSectionVars false
open Go.RowKit
section
variable [I:Sys]
theorem F.ent55:Enters Tryz.prog 55:=jC Tryz.func55 rfl kr
theorem zUt {α:Type} {cells:α->List Value} (hs:∀x,(cells x).length=1) (ho:∀x,∀u∈cells x,u.oneCell'=true) (p:Addr) (c:Nat) (l:List α) (hl:l.length<=400000) (w:World) (hA:RdL cells 1 w (some p) l):Calls Tryz.prog 55 #[.slice (some p) l.length c] w fun e w'=>∃A' c',e=.returned (.slice A' l.length c')∧Grew w w' [.row 3 1 A' l.length c' (l.flatMap cells)]:=by
 refine enter (N:=6) [(0,.slice (some p) l.length c)] Tryz.func55 J Tryz.ntmps55 J J (csr (lax J J (csr (zAy J U23 F.ti3 ?_))));intro b3;refine wT 1 (.head _) (zA J J (yP (cells:=cells) J J J Tryz.underlying23 F.ti3 J J hs ho (fun a w ha=>hA.later ha.below) J (by unfold maxLen;omega) om ?_));intro A1 c1;refine lax J J (zS ?_);simp only[Nat.zero_add,List.nil_append];exact zX J (fun a w ha=>jJ J J ha) (fun a w ha=>⟨A1,c1,rfl,ha.grown sbl⟩)

theorem zV2 {α β:Type} {cf:α->List Value} {cd:β->List Value} (hs4:∀x,(cf x).length=4) (ho4:∀x,∀u∈cf x,u.oneCell'=true) (hs1:∀x,(cd x).length=1) (ho1:∀x,∀u∈cd x,u.oneCell'=true) (fp dp:Addr) (fc dc:Nat) (kz:Int) (fs:List α) (days:List β) (hfl:fs.length<=400000) (hdl:days.length<=400000) (w:World) (hF:RdL cf 4 w (some fp) fs) (hD:RdL cd 1 w (some dp) days):Calls Tryz.prog 14 #[.agg #[.slice (some fp) fs.length fc,.int .i64 kz,.slice (some dp) days.length dc]] w fun e w'=>∃A c D dc',e=.returned (.agg #[.slice A fs.length c,.int .i64 kz,.slice D days.length dc'])∧Grew w w' [.row 27 4 A fs.length c (fs.flatMap cf),.row 3 1 D days.length dc' (days.flatMap cd)]:=by
 refine enter (N:=13) [(0,.agg #[.slice (some fp) fs.length fc,.int .i64 kz,.slice (some dp) days.length dc])] Tryz.func14 J Tryz.ntmps14 J J (csr (jM J J ?_));intro b1;refine zZ J F.ti25 ?_;intro b2;refine lnx (zD (jU [.b b2] F.follows 11 J [false,false,false,false,false,false,false,false,false,false,false] J (zC 1 J J J (zT J F.fi25_0 F.ti22) (zC 2 J J J (jN J F.one22) (zC 4 J J J (zT J F.fi25_1 F.ti3) (zC 5 J J J (jN J F.one3) (zC 6 J J J (zT J F.fi25_2 F.ti23) (zC 7 J J J (jN J F.one23) (an1 0 J (zAy J U22 F.ti27 ?_))))))))));intro b3;refine wT 4 (.head _) (zB (anb (an1 3 J (yP (cells:=cf) J J J Tryz.underlying22 F.ti27 J J hs4 ho4 (fun a w ha=>hF.later ha.below) J (by unfold maxLen;omega) om ?_))));intro A2 c2;simp only[Nat.zero_add,List.nil_append];refine zB (anb (an1 8 J (kR (X:=Option Addr×Nat) (vs:=[_]) (p:=fun _=>True) (val:=fun y=>.slice y.1 days.length y.2) (rs:=fun y=>[.row 3 1 y.1 days.length y.2 (days.flatMap cd)]) J J F.ent55 (fun a w ha=>(zUt hs1 ho1 dp dc days hdl w (hD.later ha.below)).mono (fun e w' h=>by obtain⟨A',c',h1,h2⟩:=h;exact⟨(A',c'),trivial,h1,h2⟩)) ?_)));rintro⟨A3,c3⟩ -;dsimp only[List.cons_append,List.nil_append];exact zB (anb (zC 9 J J J (xU (vs:=[(0,_),(1,_),(2,_)]) (l':=[_,_,_]) J F.ti25 F.pl25 (.cons J J (.cons J J (.cons J J (.nil _)))) J) (an1 10 J (zF J J F.ti25 J (zB (anb (adn (zE (zS (zX J (fun a w ha=>by exact qS (ha:=ha) J J F.agg25 F.ti25 J) (fun a w ha=>⟨A2,c2,A3,c3,rfl,(ha.pck pkk).grown (List.Sublist.refl _)⟩)))))))))))

theorem zU8 {fA dA:Option Addr} {fc dc kiln:Nat} {fs:List Flt} {days:List Nat} (hf1:1<=fs.length) (hf3:fs.length<=1000) (hd1:1<=days.length) (hd4:days.length<=1000) (w:World) (hF:RdL Flt.cells 4 w fA fs) (hD:RdL ncell 1 w dA days) :
  Calls Tryz.prog 14 #[.agg (CA fA fs.length fc kiln dA days.length dc).toArray] w fun e w'=>∃A c D dc',e=.returned (.agg #[.slice A fs.length c,.int .i64 (kiln:Int),.slice D days.length dc'])∧Grew w w' [.row 27 4 A fs.length c (fs.flatMap Flt.cells),.row 3 1 D days.length dc' (ints days)]:=by
 obtain⟨fb,fo,rfl,_,_⟩:=hF om;obtain⟨db,d_o,rfl,_,_⟩:=hD om;have h:=zV2 jAk zZ4 (fun _=>rfl) zM9 ⟨fb,fo,none⟩ ⟨db,d_o,none⟩ fc dc (kiln:Int) fs days om om w hF hD;rw[<-zCh] at h;exact h

theorem F.ent13:Enters Tryz.prog 13:=jC Tryz.func13 rfl kr
theorem F.ent11:Enters Tryz.prog 11:=jC Tryz.func11 rfl kr
theorem F.ent53:Enters Tryz.prog 53:=jC Tryz.func53 rfl kr
theorem F.ent14:Enters Tryz.prog 14:=jC Tryz.func14 rfl kr
end
section
variable {e:Nat×Mor×Value} {n:Nat} {r:List (Nat×Mor×Value)} {seen:Array Nat} {x:Operand}
theorem zPe (l:List Nat) (j v:Nat):(ints l).set j (.int .i64 (v:Int))=ints (l.set j v):=by
 unfold ints;rw[List.map_set]
section
variable [I:Sys] {C:Ctx} {fr:List (Nat×Value)} {hp hp':List Res} {a:Act} {w:World} {ops:Array Oper} {Q:Exit->Act->World->Prop} {rest:List Oper} {d:Nat} {ty:TypeId} {pos:String} {after:Array Edge}
theorem yW {y:Operand} {t e:TypeId} {A:Option Addr} {g o size c m:Nat} {xs:List Value} (xs':List Value) {v z:Value} (hx:ev fr x=some (.pointer (some ⟨g,o,none⟩))) (hy:ev fr y=some v) (hi:TI C.P t z 1 m) [hc:Cells v [v]]
  (hA:A=some ⟨g,0,none⟩) (ho:o<xs.length) (hxs:xs.set o v=xs') [hr:InR A e size n c xs hp] [hu:UpR A e size n c xs (.row e size A n c xs') hp hp']
  (k:Lst C ops Q rest fr hp'):Lst C ops Q (⟨none,.store t x y,ty,pos,after,none⟩::rest) fr hp:=by
 obtain⟨i,hi,_,hsz,_⟩:=hi;refine zDn (fun _ _ _=>zBe ..) (fun a w ha=>?_) k;have hown:=ha.own _ hr.mem;obtain⟨hlen,hcase⟩:=hown
 rcases hcase with ⟨h1,_⟩|⟨g',cap,cur,hv,hB,hheap,hle,hmax,hcs,htake⟩
 ·injection h1 with e1;rw[hA] at e1
  cases e1
 ·injection hv with e1 e2 e3;rw[hA] at e1;injection e1 with e1;injection e1 with e1;subst e1;subst e3
  have hlen':o<cur.toList.length:=by
   have h9:n*size<=c*size:=Nat.mul_le_mul_right _ hle;simp only[Array.length_toList];omega
  have hs:Splice cur.toList o [v] (cur.toList.set o v):=⟨by rw[List.set_eq_take_append_cons_drop,if_pos hlen',List.append_assoc];rfl,by simp at hlen' ⊢;omega⟩;obtain⟨w',h1,h2,h3⟩:=zCz hs (by simpa using hheap) hc.one C.P
  refine⟨w',?_,ha.turn hu.upd (by rw[hA];exact h3) ⟨by rw[<-hxs,List.length_set];exact hlen,.inr ⟨g,c,(cur.toList.set o v).toArray,by rw[hA],hB,h2,hle,hmax,by simp[hcs],?_⟩⟩ (fun k hk=>.inl hk)⟩
  ·simp[execOp,ha.eval hx,ha.eval hy,Instr.storeAt,Instr.sureAddr,storeVar,sizeOf,typeInfo,hi,hc.eq,hsz,h1]
  ·rw[<-hxs,<-htake,List.take_set]
theorem zVy {f:FuncId} {first cap vs:List Value} {args:Array Operand} {ts:Array TypeId} {v:Value} (hd:Nat.blt d C.N=true)
  (hx:ev fr x=some (.func (.func f) first.toArray cap.toArray)) (hargs:args.toList.map (ev fr)=vs.map some) (hf:Enters C.P f)
  (hc:∀a w,At C fr hp a w->Calls C.P f (first++vs++cap).toArray w fun e w'=>e=.returned v∧Grew w w' [])
  (k:Lst C ops Q rest ((d,v)::fr) hp):Lst C ops Q (⟨some d,.call {callee:=.value x,args:=args,argTypes:=ts},ty,pos,after,none⟩::rest) fr hp :=
 xJ (X:=Unit) (p:=fun _=>True) (val:=fun _=>v) (rs:=fun _=>hp) hd hx hargs hf (fun a w ha=>(hc a w ha).mono fun _ _ ⟨h1,h2⟩=>⟨(),trivial,h1,ha.more h2⟩) (fun _ _=>k)
theorem yE {l:List Oper} (A:Option Addr) {e size n c:Nat} {xs:List Value} [hr:InR A e size n c xs hp] (hn:0<n) (k:∀g,A=some ⟨g,0,none⟩->Lst C ops Q l fr hp):Lst C ops Q l fr hp:=fun a w ha=>by
 obtain⟨g,hg⟩:=zBq (ha.own _ hr.mem) hn;exact k g hg a w ha
end
section
variable {α:Type} {P:Program} {kt:TypeId} (K:KT P kt α)
variable [I:Sys] {C:Ctx} {fr:List (Nat×Value)} {hp:List Res} {ops:Array Oper} {Q:Exit->Act->World->Prop} {rest:List Oper} {d:Nat} {ty:TypeId} {pos:String} {after:Array Edge}
theorem zN0 {b i:Nat} {r:List (Nat×α×Value)} {hpf:Obj->List Res} (hd:Nat.blt d C.N=true) (hx:ev fr x=some (pt i)) (hb:Res.blk b (K.rem r n)∈hp) (hG:K.Good r n)
  (hu:∀o,Upd (.blk i (.mapIter (some b) n seen n)) (.blk i o) hp (hpf o))
  (k0:(∀e∈r,e.1∈seen)->Lst C ops Q rest ((d,.tuple #[.bool false])::fr) hp)
  (k1:∀e∈r,e.1∉seen->Lst C ops Q rest ((d,.tuple #[.bool true,K.kv e.2.1,e.2.2])::fr) (hpf (.mapIter (some b) n (seen.push e.1) n))):Lst C ops Q (⟨some d,.next x false,ty,pos,after,none⟩::rest) fr hp:=by
 refine xP J fun a w ha=>?_;refine⟨kP _ (by rw[ha.eval hx];exact zJp _ _),?_⟩;have hi:=ha.own _ (hu (.map #[] 0)).mem
 have hold:∀x∈((r.map K.ent).toArray).toList,x.born<n:=by
  intro x hx;simp only[List.mem_map] at hx;obtain⟨e,he,rfl⟩:=hx;exact hG.less e he
 have hmem:∀x,x∈Go.leftOf (r.map K.ent).toArray seen↔∃e∈r,e.1∉seen∧x=K.ent e:=by
  intro x;unfold Go.leftOf;rw[Array.mem_filter];simp only[List.mem_toArray,List.mem_map]
  constructor
  ·rintro⟨⟨e,he,rfl⟩,h⟩;exact⟨e,he,by simpa[KT.ent] using h,rfl⟩
  ·rintro⟨e,he,h,rfl⟩;exact⟨⟨e,he,rfl⟩,by simpa[KT.ent] using h⟩
 rcases run_next_at (P:=C.P) w ty i b n n seen (r.map K.ent).toArray n hi.2 (ha.mem_blk hb) hold (Nat.le_refl _) with ⟨h1,h2⟩|⟨e,he,w1,hw1,h2⟩
 ·have hr:(execOp a.eval ⟨some d,.next x false,ty,pos,after,none⟩).run C.P w=.ok (.value (.tuple #[.bool false])) w:=by
   simp only[execOp,ha.eval hx,Sem.run_bind,h2]
   rfl
  rw[hr];refine k0 (fun e he=>?_) _ _ (ha.put (kC hd) _)
  by_cases hs:e.1∈seen
  ·exact hs
  ·have:=(hmem (K.ent e)).2 ⟨e,he,hs,rfl⟩;rw[Array.eq_empty_of_size_eq_zero h1] at this;simp at this
 ·obtain⟨e',her,hne,rfl⟩:=(hmem e).1 (by simpa using he)
  have hr:(execOp a.eval ⟨some d,.next x false,ty,pos,after,none⟩).run C.P w=.ok (.value (.tuple #[.bool true,K.kv e'.2.1,e'.2.2])) (ChangeMaps.setBlock w1 i (.mapIter (some b) n (seen.push e'.1) n)):=by
   simp only[execOp,ha.eval hx,Sem.run_bind,h2]
   rfl
  rw[hr]
  have ha1:At C fr hp a w1:=by
   rcases hw1 with rfl|rfl
   ·exact ha
   ·exact ha.drew
  have hi1:=ha1.own _ (hu (.map #[] 0)).mem;have hlt:i<w1.heap.size:=(Array.getElem?_eq_some_iff.1 hi1.2).1
  have ha2:At C fr (hpf (.mapIter (some b) n (seen.push e'.1) n)) a (ChangeMaps.setBlock w1 i (.mapIter (some b) n (seen.push e'.1) n)):=by
   refine ha1.turn (hu _) ⟨rfl,rfl,rfl,by simp[ChangeMaps.setBlock],fun k _ hk=>?_⟩ ⟨hi1.1,?_⟩ (fun k hk=>.inl hk)
   ·simp only[ChangeMaps.setBlock,Array.getElem?_setIfInBounds];rw[if_neg (fun e=>hk (by rw[e];rfl))]
   ·simp[ChangeMaps.setBlock,hlt]
  exact k1 e' her hne _ _ (ha2.put (kC hd) _)
end
def sumM (m:Mor):Nat:=m.s.getD 0 0+m.s.getD 1 0+m.s.getD 2 0
structure MsI (l:List Mor) (r:List (Nat×Mor×Value)) (seen:Array Nat) (best:Int):Prop where
 got:best=-1∧seen=#[]∨∃m∈l,best=(sumM m:Int)
 le:∀e∈r,e.1∈seen->(sumM e.2.1:Int)<=best
def leftN (r:List (Nat×Mor×Value)) (seen:Array Nat):Nat:=r.countP fun e=>!seen.contains e.1
theorem zWt (he:e∈r) (hn:e.1∉seen):leftN r (seen.push e.1)<leftN r seen:=by
 unfold leftN
 induction r with
 | nil=>cases he
 | cons x r ih =>
  simp only[List.countP_cons];have hle:∀(r:List (Nat×Mor×Value)),r.countP (fun y=>!(seen.push e.1).contains y.1)<=r.countP (fun y=>!seen.contains y.1):=fun r=>List.countP_mono_left (fun y _ h=>by simp at h ⊢;exact h.1)
  rcases List.mem_cons.1 he with rfl|he
  ·have h1:(!(seen.push e.1).contains e.1)=false:=by simp
   have h2:(!seen.contains e.1)=true:=by simpa using hn
   rw[h1,h2];have h5:=hle r;simp only[Bool.false_eq_true,if_false,if_true];omega
  ·have:=ih he
   have h3:((if (!(seen.push e.1).contains x.1)=true then 1 else 0:Nat))<=(if (!seen.contains x.1)=true then 1 else 0):=by
    by_cases h4:(!(seen.push e.1).contains x.1)=true
    ·have h5:(!seen.contains x.1)=true:=by simp at h4 ⊢;exact h4.1
     rw[if_pos h4,if_pos h5];omega
    ·rw[if_neg h4];omega
   omega
theorem MsI.first (l:List Mor) (r:List (Nat×Mor×Value)):MsI l r #[] (-1):=⟨.inl ⟨rfl,rfl⟩,fun _ _ h=>by simp at h⟩
theorem MsI.next {l:List Mor} {best:Int} (h:MsI l r seen best) (he:e.2.1∈l) (hd:(r.map (·.1)).Nodup) (her:e∈r):MsI l r (seen.push e.1) (if best<(sumM e.2.1:Int) then (sumM e.2.1:Int) else best):=by
 refine⟨.inr ?_,fun y hy hs=>?_⟩
 ·by_cases hb:best<(sumM e.2.1:Int)
  ·rw[if_pos hb];exact⟨_,he,rfl⟩
  ·rw[if_neg hb]
   rcases h.got with ⟨h1,_⟩|h1
   ·omega
   ·exact h1
 ·rw[Array.mem_push] at hs;have hmax:best<=(if best<(sumM e.2.1:Int) then (sumM e.2.1:Int) else best)∧(sumM e.2.1:Int)<=(if best<(sumM e.2.1:Int) then (sumM e.2.1:Int) else best):=by split<;>omega
  rcases hs with hs|hs
  ·have:=h.le y hy hs;omega
  ·have hye:y=e:=by
    have key:∀(r:List (Nat×Mor×Value)),(r.map (·.1)).Nodup->y∈r->e∈r->y.1=e.1->y=e:=by
     intro r
     induction r with
     | nil=>intro _ h;cases h
     | cons x r ih =>
      intro hn hy he hq;rw[List.map_cons,List.nodup_cons] at hn
      rcases List.mem_cons.1 hy with h1|h1
      ·rcases List.mem_cons.1 he with h2|h2
       ·rw[h1,h2]
       ·exact absurd (List.mem_map.2 ⟨e,h2,by rw[<-hq,h1]⟩) hn.1
      ·rcases List.mem_cons.1 he with h2|h2
       ·exact absurd (List.mem_map.2 ⟨y,h1,by rw[hq,h2]⟩) hn.1
       ·exact ih hn.2 h1 h2 hq
    exact key r hd hy her hs
   subst hye;exact hmax.2
def MostP (fs:List Flt) (kiln:Nat) (days:List Nat) (n e:Nat):Prop:=(e=0∧(∃m,Rch fs kiln days m∧sumM m=n)∧∀m,Rch fs kiln days m->sumM m<=n)∨(e=11∧n=0∧∀m,¬Rch fs kiln days m)
end
section
variable {days:List Nat} {fs:List Flt} {kiln:Nat}
theorem zU6:exts [] 0=[[]]:=rfl
theorem zWk (kiln:Nat) (m:Mor) (d:Nat):dayE [] kiln m [] d=if d=0 then (0,m) else (9,m):=by
 unfold dayE barred firesN dRun
 simp
 by_cases h:d=0
 ·simp[h]
 ·rw[if_pos om,if_neg h]
theorem zRb {kiln:Nat} {days:List Nat} {las:Mor->Bool}:∀(n:Nat),n<=days.length->∀m,las m=true->(bstO (fun _ _=>true) las [] kiln days n m).is=(days.drop (days.length-n)).all (·==0)
 | 0,_,m,hl=>by simp[bstO,hl]
 | n+1,hn,m,hl=>by
  have ih:=zRb (las:=las) (kiln:=kiln) (days:=days) n om m hl
  rw[zLm (days:=days) hn,List.all_cons,<-ih]
  show ((exts [] 0).foldl (fun o l=>lst2 o (stpO (fun _ _=>true) [] kiln days (bstO (fun _ _=>true) las [] kiln days n) (days.length-(n+1)) m l)) noOc).is=_
  rw[zU6,zKw]
  simp only[List.any_cons,List.any_nil,Bool.or_false,noOc,Bool.false_or]
  unfold stpO
  rw[if_neg (by simp),zWk]
  by_cases h:days.getD (days.length-(n+1)) 0=0
  ·rw[if_pos h,if_neg (by simp),h];simp
  ·rw[if_neg h,if_pos (by simp)]
   have:(days.getD (days.length-(n+1)) 0==0)=false:=by simpa using h
   rw[this];rfl
theorem zOg:(bstA [] kiln days).is=days.all (·==0):=by
 have h:=zRb (kiln:=kiln) (las:=fun _=>true) (days:=days) days.length (Nat.le_refl _) (start []) rfl
 rw[Nat.sub_self,List.drop_zero] at h
 exact h
structure ChW (fs:List Flt) (kiln:Nat) (days:List Nat):Prop where
 f3:fs.length<=3
 ff:∀f∈fs,FltOk f
 k3:kiln<=3
 d1:1<=days.length
 d4:days.length<=4
 dd:∀n∈days,n<=12
theorem ChV.w (h:ChV fs kiln days):ChW fs kiln days:=⟨h.f3,h.ff,h.k3,h.d1,h.d4,h.dd⟩
def sprN (fs:List Flt) (kiln:Nat) (days:List Nat) (d:Nat):Nat->Option Nat
 | 0=>if (bstA fs kiln (days.set d 0)).is then some 0 else none
 | n+1=>if (bstA fs kiln (days.set d (n+1))).is then some (n+1) else sprN fs kiln days d n
theorem ChV.set {d n:Nat} (h:ChV fs kiln days) (hn:n<=12):ChV fs kiln (days.set d n) :=
 ⟨h.f1,h.f3,h.ff,h.k3,by rw[List.length_set];exact h.d1,by rw[List.length_set];exact h.d4,fun x hx=>(List.mem_or_eq_of_mem_set hx).elim (h.dd x) fun e=>e▸hn⟩
end
section
variable [I:Sys]
variable {dA fA:Option Addr} {days:List Nat} {dc fc kiln:Nat} {fs:List Flt}
theorem zU3 (a b c k:Nat) (hk:k<3):([a,b,c].take k).sum+[a,b,c].getD k 0=([a,b,c].take (k+1)).sum:=by
 rcases k with _|_|_|k
 ·simp
 ·simp
 ·simp;omega
 ·omega
theorem jAs (a b c k:Nat) (ha:a<=4) (hb:b<=4) (hc:c<=4):([a,b,c].take k).sum<=12:=by
 rcases k with _|_|_|k
 ·simp
 ·simp;omega
 ·simp;omega
 ·simp;omega
theorem zXp (a b c w:Nat):([a,b,c].take 3).sum=sumM ⟨[a,b,c],w⟩:=by simp[sumM];omega

theorem jD5 (z0 z1 z2 zw:Nat) (hz0:z0<=4) (hz1:z1<=4) (hz2:z2<=4) (w:World):Calls Tryz.prog 110 #[.agg #[.int .i64 (z0:Int),.int .i64 (z1:Int),.int .i64 (z2:Int)]] w fun e w'=>e=.returned (.int .i64 ((sumM ⟨[z0,z1,z2],zw⟩:Nat):Int))∧Grew w w' []:=by
 refine enter (N:=15) [(0,.agg #[.int .i64 (z0:Int),.int .i64 (z1:Int),.int .i64 (z2:Int)])] Tryz.func110 J Tryz.ntmps110 J J (csr (jM J J ?_));intro b1;refine lax J J (csr (lax J J (zD (csr (jB J J F.agg90 F.ti90 (zA J J (lnx (zU (xH (G:=Nat) (fun k=>k<=3) (fun k=>3-k) (fun k=>[(3,.int .i64 ((([z0,z1,z2].take k).sum:Nat):Int)),(6,.agg #[.int .i64 (z0:Int),.int .i64 (z1:Int),.int .i64 (z2:Int)]),(7,.int .i64 (k:Int))]) (fun k=>[]) 0 (Nat.zero_le _) sbn pkk ?_)))))))));intro k hk;(try dsimp only at hk ⊢);refine csr (zG J J J jY ?_)
 refine lnx (zD (zJ J (fun hc0=>?_) (fun hc0=>?_)))
 ·have hk3:k<3:=om;have hs1:=zU3 z0 z1 z2 k hk3;have hs2:=jAs z0 z1 z2 (k+1) hz0 hz1 hz2;refine zP (zE (zD (zU (csr (zGo (j:=k) J J J Tryz.underlying90 F.one3 F.ti3 J hk3 (zJ2 z0 z1 z2 k hk3) (lax J J (zM (zA J J (zA J J (zG (v:=.int .i64 ((([z0,z1,z2].take (k+1)).sum:Nat):Int)) J J J (fun w=>jL w (by rw[<-hs1];rw[zV _ om om];omega)) (zH J J (zB (zK (zE (zM (zG J J J (fun w=>jL w (zV _ om om)) (zA J J (zB (qI (k+1) om tdo sbn pkk)))))))))))))))))))
 ·obtain rfl:k=3:=om;exact jT (zL (zL (jF (zE (csr (zA J J (lax J J (zS (zX J (fun a w ha=>jJ J J ha) (fun a w ha=>⟨by rw[zXp z0 z1 z2 zw],ha.grown nsl⟩))))))))))

theorem zZy (h:ChW fs kiln days):(anyS fA dA fc dc kiln fs days).Ok:=⟨h.f3,h.ff,Nat.le_succ_of_le h.d4,h.dd,jC Tryz.func92 rfl (by kernel_rfl),jC Tryz.func93 rfl (by kernel_rfl)⟩

set_option maxRecDepth 4000 in
theorem jBt (hc:ChW fs kiln days) (w:World) (hF:RdL Flt.cells 4 w fA fs) (hD:RdL ncell 1 w dA days):Calls Tryz.prog 87 #[.agg (CA fA fs.length fc kiln dA days.length dc).toArray] w fun e w'=>e=.returned (.bool (bstA fs kiln days).is)∧Grew w w' []:=by
 refine enter (N:=32) [(0,.agg (CA fA fs.length fc kiln dA days.length dc).toArray)] Tryz.func87 J Tryz.ntmps87 J J (csr (jM J J ?_));intro b1;refine lax J J (zD (csr (zI J J F.fi25_0 F.ti22 (zQ J J F.one22 (jP J J U22 (zG J J J kD ?_))))))
 refine lnx (zJ J (fun hc0=>?_) (fun hc0=>?_))
 ·have hf0:fs=[]:=List.length_eq_zero_iff.1 om;subst hf0;refine zD (csr (zI J J F.fi25_2 F.ti23 (zQ J J F.one23 (jP J J Tryz.underlying23 (zA J J (lnx (zU (xH (G:=Nat) (fun k=>k<=days.length∧∀x∈days.take k,x=0) (fun k=>days.length-k) (fun k=>[(11,.slice dA days.length dc),(12,.int .i64 (days.length:Int)),(13,.int .i64 (k:Int))]) (fun k=>[]) 0 ⟨Nat.zero_le _,by simp⟩ sbn pkk ?_))))))));rintro k ⟨hk1,hk2⟩;refine csr (zG J J J jY ?_)
  refine lnx (zD (zJ J (fun hc1=>?_) (fun hc1=>?_)))
  ·have hk:k<days.length:=om;have hd4:=hc.d4;obtain⟨bd,bo,hdA,hbd,hcd⟩:=hD om;obtain⟨x,hx⟩:∃x,days[k]?=some x:=⟨_,List.getElem?_eq_getElem hk⟩;refine zP (zE (zD (zU (csr (kF (j:=k) J (show _=some (Value.slice (some ⟨bd,bo,none⟩) days.length dc) from by rw[<-hdA];rfl) J Tryz.underlying23 F.ti3 J hk (kE (v:=.int .i64 (x:Int)) J J F.one3 (fun a w ha=>ha.old (hcd k x hx 0 _ J) hbd) (lax J J (csr (zA J J (zG J J J vN ?_))))))))))
   refine lnx (zJ J (fun hc2=>?_) (fun hc2=>?_))
   ·exact csr (lax J J (zS (jO (zO (zO (jO (zO (zO (zX J (fun a w ha=>jJ J J ha) (fun a w ha=>⟨by rw[zOg,List.all_eq_false.2 ⟨x,List.mem_of_getElem? hx,by simp;omega⟩],ha.grown nsl⟩))))))))))
   ·refine zP (zK (zE (zM (zG J J J (fun w=>jL w (zV _ om om)) (zA J J (zB (qI (k+1) ⟨by omega,fun y hy=>?_⟩ tdo sbn pkk)))))));rw[List.take_add_one,hx] at hy
    rcases List.mem_append.1 hy with h|h
    ·exact hk2 y h
    ·simp at h;omega
  ·have hkl:k=days.length:=om;subst hkl;rw[List.take_length] at hk2;exact jT (zL (zL (jF (zE (csr (lax J J (zS (zO (zX J (fun a w ha=>jJ J J ha) (fun a w ha=>⟨by rw[zOg,List.all_eq_true.2 (fun x hx=>by simpa using hk2 x hx)],ha.grown nsl⟩))))))))))
 ·have hm0:MOk (start fs):=yK hc.f3 hc.ff _ (Nat.le_refl _);obtain⟨x0,x1,x2,xw,hx,hx0,hx1,hx2,hxw⟩:=hm0.form;refine zP (zE (csr (jB J J F.agg25 F.ti25 (kA (vs:=[(0,_)]) (l':=[_,_,_]) J J F.ti78 F.pl78 (.cons J J (.nil _)) J (kR (X:=Nat×Nat) (vs:=[_]) (p:=fun _=>True) (val:=fun g=>.pointer (some ⟨g.1,0,none⟩)) (rs:=fun g=>[.blk g.1 (.cells #[.slice fA fs.length fc,.int .i64 (kiln:Int),.slice dA days.length dc,.func (.func 92) #[] #[],.func (.func 93) #[] #[],.map (some g.2)] 99 (0,0)),.blk g.2 (KS.obj [])]) J J F.ent56 (fun a w ha=>(zFk fA dA fc days.length dc kiln fs w).mono (fun e w' h=>by obtain⟨b,km,h1,h2⟩:=h;exact⟨(b,km),trivial,h1,h2⟩)) ?_)))));rintro⟨sb,km⟩ -;dsimp only[List.cons_append,List.nil_append];refine lax J J (csr (zA J J (zA J J (qZ J J (vX J J F.fi99_0 F.ti78 (jB (o:=0) (l:=(CA fA fs.length fc kiln dA days.length dc)) J J F.agg78 F.ti78 (jG (v:=.agg (V4 x0 x1 x2 xw).toArray) (vs:=[_]) J J F.ent66 (fun a w ha=>(zDb fA dA fc days.length dc kiln fs hc.f3 hc.ff w (hF.later ha.below)).mono (fun e w' h=>⟨h.1.trans (by rw[hx];rfl),h.2⟩)) (kA (vs:=[(0,_),(1,_)]) (l':=[_,_,_,_,_]) J J F.ti129 F.pl129 (.cons J J (.cons J J (.nil _))) J ?_))))))))
  refine xJ (X:=List (Spot×Value)) (first:=[]) (cap:=[]) (vs:=[_,_]) (p:=fun _=>True) (val:=fun _=>.agg #[.int .i64 ((bstA fs kiln days).f:Int),.int .i64 ((bstA fs kiln days).w:Int),.bool (bstA fs kiln days).is]) (rs:=fun kn'=>[.blk km (KS.obj kn'),.blk sb (.cells #[.slice fA fs.length fc,.int .i64 (kiln:Int),.slice dA days.length dc,.func (.func 92) #[] #[],.func (.func 93) #[] #[],.map (some km)] 99 (0,0))]) J J J F.ent94 (fun a w ha=>?_) ?_
  ·refine (zEk (s:=(anyS fA dA fc dc kiln fs days)) (zZy hc) days.length _ _ [] _ _ _ _ _ [] km sb 0 x0 x1 x2 xw (by show 0+days.length=days.length;omega) ⟨rfl,by simp;omega,hxw⟩ (KnOk.nil _) (zF9 hF hD) (ha.pck pkk)).mono ?_;rintro e w' ⟨kn',h1,h2,h3⟩;exact⟨kn',trivial,h2.trans (by unfold bstA;rw[hx];rfl),h3.pck pkk⟩
  rintro kn1 -;dsimp only
  generalize bstA fs kiln days=o0
  exact zLb J J (zJc J F.fi133_1 F.one4 J) (lax J J (zS (zX J (fun a w ha=>jJ J J ha) (fun a w ha=>⟨rfl,ha.grown nsl⟩))))

end
section
variable [I:Sys]
variable {dA fA:Option Addr} {day dc fc kiln:Nat} {days:List Nat} {fs:List Flt}
theorem F.ent110:Enters Tryz.prog 110:=jC Tryz.func110 rfl kr
theorem mostEnd {l:List Mor} {seen:Array Nat} {best:Int} (hI:MsI l (idxd (tr l)) seen best) (hall:∀e∈idxd (tr l),e.1∈seen) (hl:∀m,m∈l↔Rch fs kiln (days.take day) m) :
  let e:Ending:=.returned (.tuple #[.int .i64 best,.bool (decide ((0:Int)<((((idxd (tr l)).map KM.ent).toArray.size:Nat):Int)))])
  ((∃n:Nat,(∃m,Rch fs kiln (days.take day) m∧sumM m=n)∧(∀m,Rch fs kiln (days.take day) m->sumM m<=n)∧e=.returned (.tuple #[.int .i64 (n:Int),.bool true]))∨((∀m,¬Rch fs kiln (days.take day) m)∧e=.returned (.tuple #[.int .i64 (-1),.bool false]))):=by
 intro e;have hsz:(((idxd (tr l)).map KM.ent).toArray.size:Nat)=l.length:=by rw[zIq,zIx]
 have hle:∀m∈l,(sumM m:Int)<=best:=fun m hm=>by
  obtain⟨y,hy,rfl⟩:=List.mem_map.1 (show m∈(idxd (tr l)).map (·.2.1) from by rw[zBa,zBw];exact hm);exact hI.le y hy (hall y hy)
 show (∃n:Nat,_)∨_;simp only[e,hsz]
 rcases hI.got with ⟨h1,h2⟩|⟨m,hm,h1⟩
 ·right
  have hl0:l=[]:=by
   cases l with
   | nil=>rfl
   | cons m l =>
    have:=hle m (by simp);omega
  refine⟨fun m hm=>?_,by rw[h1,hl0];rfl⟩;have:=(hl m).2 hm;rw[hl0] at this
  cases this
 ·left;refine⟨sumM m,⟨m,(hl m).1 hm,rfl⟩,fun y hy=>by have:=hle y ((hl y).2 hy);omega,?_⟩;rw[h1,decide_eq_true];have:=List.length_pos_of_mem hm;omega

theorem jC7 [R:ReaC] (hc:ChV fs kiln days) (hcap:days.length<=dc) (hday:day<=days.length) (w:World) (hR:RdC w) (hL:Lendy w fA fs) (hF:RdL Flt.cells 4 w fA fs) (hD:RdL ncell 1 w dA days):Calls Tryz.prog 85 #[.agg (CA fA fs.length fc kiln dA days.length dc).toArray,.int .i64 (day:Int)] w fun e w'=>((∃n:Nat,(∃m,Rch fs kiln (days.take day) m∧sumM m=n)∧(∀m,Rch fs kiln (days.take day) m->sumM m<=n)∧e=.returned (.tuple #[.int .i64 (n:Int),.bool true]))∨((∀m,¬Rch fs kiln (days.take day) m)∧e=.returned (.tuple #[.int .i64 (-1),.bool false])))∧Grew w w' []:=by
 refine enter (N:=35) [(0,.agg (CA fA fs.length fc kiln dA days.length dc).toArray),(1,.int .i64 (day:Int))] Tryz.func85 J Tryz.ntmps85 J J (csr (jM J J ?_));intro b2;refine zH J J (lax J J (zD (jU [] F.follows 9 J [false,false,false,false,false,false,false,false,false] J (zC 0 J J J (kS J F.agg78 F.ti78) (zC 1 J J J (zT J F.fi78_0 F.ti25) (zC 2 J J J (zT J F.fi25_2 F.ti23) (zC 3 J J J (jN J F.one23) (zC 4 J J J (zW J) (zC 5 J J J (zW J) (zC 6 J J J (zDg (k:=day) J J J U23 F.ti3 om) (an1 7 J ?_)))))))))))
 refine kR (X:=List Mor×Nat) (vs:=[_,_]) (p:=fun g=>g.1.Nodup∧(∀m,m∈g.1↔Rch fs kiln (days.take day) m)∧(∀m∈g.1,MOk m)) (val:=fun g=>.map (some g.2)) (rs:=fun g=>[.blk g.2 (KM.obj (tr g.1))]) J J F.ent84 (fun a w ha=>?_) ?_
 ·have hlen:(days.take day).length=day:=by rw[List.length_take];omega
  have h:=zR2 (dA:=dA) (nd:=days.length) (dc:=dc) (fc:=fc) (kiln:=kiln) (days:=(days.take day)) (eA:=dA) (ec:=day) hc.f3 hc.ff (fun n hn=>hc.dd n (List.mem_of_mem_take hn)) (by have:=hc.d4;omega) w (hR.later ha.below) (hL.later ha.below) (hF.later ha.below) ((hD.later ha.below).take day);rw[hlen] at h;refine h.mono ?_;rintro e w' ⟨l,b,h1,h0,h2,h4,h3⟩;exact⟨(l,b),⟨h0,h2,h4⟩,h1,h3⟩
 rintro⟨l,mb⟩ ⟨hnd,hl,hok⟩;dsimp only[List.cons_append,List.nil_append] at hnd hl hok ⊢;have hG:KM.Good (idxd (tr l)) (tr l).length:=zLu KM (by rw[zBw];exact hnd) (zNd hok);refine zB (anb (zC 8 J J J (jW J) (adn (zE (csr (lax J J (zD (csr (zA J J (zFx J J Tryz.underlying122 (InB.mem (b:=mb) (o:=KM.obj (tr l))) ?_))))))))));intro it;refine lnx (zU (xH (G:=Array Nat×Int) (fun g=>MsI l (idxd (tr l)) g.1 g.2) (fun g=>leftN (idxd (tr l)) g.1) (fun g=>[(6,.map (some mb)),(7,.int .i64 g.2),(19,pt it)]) (fun g=>[.blk it (.mapIter (some mb) (tr l).length g.1 (tr l).length),.blk mb (KM.obj (tr l))]) (#[],-1) (MsI.first _ _) sbn pkk ?_));rintro⟨seen,best⟩ hI;dsimp only at hI ⊢
 refine csr (zN0 KM (hpf:=fun o=>[.blk it o,.blk mb (KM.obj (tr l))]) J J (InB.mem (b:=mb) (o:=KM.obj (tr l))) hG (fun o=>.head _) (fun hall=>?_) (fun e he hne=>?_))
 ·exact jE J J J (lnx (zD (kN J (jT (zL (zL (jF (zE (csr (zA J J (zA J J (zLb J J (zHt J Tryz.underlying122 (InB.mem (b:=mb) (o:=KM.obj (tr l)))) (zG J J J vN (zH J J (lax J J (zS (zX J (fun a w ha=>qM J J J ha) (fun a w ha=>⟨mostEnd hI hall hl,ha.grown nsl⟩))))))))))))))))))
 ·refine jE J J J (lnx (zD (qE J (zP (zE (zU (zD (zM ?_))))))));obtain⟨i,x,v⟩:=e
  have hxl:x∈l:=by
   have h9:=List.mem_map_of_mem (f:=fun y=>y.2.1) he;rw[zBa,zBw] at h9;exact h9
  obtain⟨z0,z1,z2,zw,rfl,hz0,hz1,hz2,hzw⟩:=(hok x hxl).form;refine zF2 KM (e:=(i,(⟨[z0,z1,z2],zw⟩:Mor),v)) J J (InB.mem (b:=mb) (o:=KM.obj (tr l))) hG he (InB.mem (b:=it)) ?_;rw[show KM.kv (⟨[z0,z1,z2],zw⟩:Mor)=.agg (V4 z0 z1 z2 zw).toArray from rfl];refine jE J J J (zZ J F.ti93 ?_);intro b8;refine zF J J F.ti93 J (lnx (csr (zI J J F.fi93_0 F.ti90 (jB J J F.agg90 F.ti90 (vV (fs:=[_]) (cs:=[]) J J J (lax J J (zM (zA J J (zA J J ?_)))))))))
  refine zVy (first:=[.agg #[.int .i64 (z0:Int),.int .i64 (z1:Int),.int .i64 (z2:Int)]]) (cap:=[]) (vs:=[]) (v:=.int .i64 ((sumM (⟨[z0,z1,z2],zw⟩:Mor):Nat):Int)) J J J F.ent110 (fun a w ha=>by
   have h9:=jD5 z0 z1 z2 zw hz0 hz1 hz2 w
   simpa using h9) ?_
  refine zHk J J J (zH J J (zB (zK (qI (seen.push i,_) (hI.next hxl (by rw[zL6];exact List.nodup_range) he) (zWt he hne) sbn pkk))))

set_option maxRecDepth 4000 in
theorem zUg (hc:ChV fs kiln days) (hday:day<days.length) (w:World) (hF:RdL Flt.cells 4 w fA fs) (hD:RdL ncell 1 w dA days):Calls Tryz.prog 90 #[.agg (CA fA fs.length fc kiln dA days.length dc).toArray,.int .i64 (day:Int)] w fun e w'=>e=.returned (.int .i64 0)∧Grew w w' []:=by
 refine enter (N:=18) [(0,.agg (CA fA fs.length fc kiln dA days.length dc).toArray),(1,.int .i64 (day:Int))] Tryz.func90 J Tryz.ntmps90 J J (csr (jM J J ?_));intro b2;refine lax J J (zD (csr (jB J J F.agg25 F.ti25 ?_)))
 refine jG (v:=.int .i64 0) (vs:=[_]) J J F.ent33 (fun a w ha=>by
  have h:=zBb (fA:=fA) (dA:=dA) (fc:=fc) (dc:=dc) (fs:=fs.map Flt.toZ) (kiln:=(kiln:Int)) (days:=toZs days) (by have:=hc.f3;simp;omega) (by have:=hc.d4;simp[toZs];omega) w (RdL.mapped Flt.toZ (hF.later ha.below) (fun _=>rfl)) (RdL.mapped (fun (n:Nat)=>(n:Int)) (hD.later ha.below) (fun _=>rfl));rw[chk0 hc] at h
  simpa[toZs] using h) ?_
 refine lax J J (csr (zA J J (zG J J J kX ?_)))
 refine lnx (zJ J (fun hc0=>?_) (fun hc0=>?_))
 ·exact absurd J hc0
  done
 ·exact zP (zE (zD (csr (zA J J (zI J J F.fi25_2 F.ti23 (zQ J J F.one23 (jP J J Tryz.underlying23 (zG (v:=.int .i64 ((days.length:Int)-1)) J J J (fun w=>qN w (zV _ (by have:=hc.d4;omega) (by have:=hc.d4;omega))) (jG (v:=.bool true) (vs:=[_,_,_]) J J F.ent68 (fun a w ha=>(yO (day:Int) 0 ((days.length:Int)-1) w).mono (fun e w' h=>⟨h.1.trans (by rw[show btw (day:Int) 0 ((days.length:Int)-1)=true from by unfold btw;simp;omega]),h.2⟩)) (kW J J (lnx (kN J (zP (zE (csr (lax J J (zS (zX J (fun a w ha=>jJ J J ha) (fun a w ha=>⟨rfl,ha.grown nsl⟩)))))))))))))))))))

end
section
variable [I:Sys]
theorem F.ent85:Enters Tryz.prog 85:=jC Tryz.func85 rfl kr
theorem F.ent90:Enters Tryz.prog 90:=jC Tryz.func90 rfl kr
theorem jDm [R:ReaC] {fA dA:Option Addr} {fc dc kiln:Nat} {day:Nat} {fs:List Flt} {days:List Nat} (hc:ChV fs kiln days) (hcap:days.length<=dc) (hday:day<days.length) (w:World) (hR:RdC w) (hL:Lendy w fA fs) (hF:RdL Flt.cells 4 w fA fs) (hD:RdL ncell 1 w dA days):Calls Tryz.prog 46 #[.agg (CA fA fs.length fc kiln dA days.length dc).toArray,.int .i64 (day:Int)] w fun e w'=>(∃n er:Nat,MostP fs kiln (days.take day) n er∧e=.returned (.tuple #[.int .i64 (n:Int),.int .i64 (er:Int)]))∧Grew w w' []:=by
 refine enter (N:=25) [(0,.agg (CA fA fs.length fc kiln dA days.length dc).toArray),(1,.int .i64 (day:Int))] Tryz.func46 J Tryz.ntmps46 J J (csr (jM J J ?_));intro b2;refine zH J J (lax J J (zD (csr (jB J J F.agg25 F.ti25 (zA J J (jG (v:=.int .i64 0) (vs:=[_,_]) J J F.ent90 (fun a w ha=>zUg (dc:=dc) (fc:=fc) hc hday w (hF.later ha.below) (hD.later ha.below)) (lax J J (csr (zA J J (zG J J J kX ?_))))))))))
 refine lnx (zJ J (fun hc0=>?_) (fun hc0=>?_))
 ·exact absurd J hc0
  done
 ·refine zP (zE (csr (jB J J F.agg25 F.ti25 (kA (vs:=[(0,_)]) (l':=[_,_,_]) J J F.ti78 F.pl78 (.cons J J (.nil _)) J ?_))))
  refine zA J J (kR (X:=Nat×Nat) (vs:=[_,_]) (p:=fun g=>MostP fs kiln (days.take day) g.1 g.2) (val:=fun g=>.tuple #[.int .i64 (if g.2=0 then (g.1:Int) else -1),.bool (decide (g.2=0))]) (rs:=fun _=>[]) J J F.ent85 (fun a w ha=>(jC7 hc hcap (day:=day) om w (hR.later ha.below) (hL.later ha.below) (hF.later ha.below) (hD.later ha.below)).mono (fun e w' h=>?_)) ?_)
  ·rcases h.1 with ⟨n,h1,h2,h3⟩|⟨h1,h3⟩
   ·exact⟨(n,0),.inl ⟨rfl,h1,h2⟩,h3,h.2⟩
   ·exact⟨(0,11),.inr ⟨rfl,rfl,h1⟩,h3,h.2⟩
  rintro⟨n,er⟩ hmp;dsimp only[List.nil_append] at hmp ⊢
  rcases hmp with ⟨rfl,h1,h2⟩|⟨rfl,rfl,h1⟩
  ·exact zA J J (jE J J J (jE J J J (zH J J (lax J J (zD (csr (zA J J (kW J J (lnx (kN J (zP (zE (csr (zA J J (zH J J (lax J J (zS (zX J (fun a w ha=>qM J J J ha) (fun a w ha=>⟨⟨n,0,.inl ⟨rfl,h1,h2⟩,rfl⟩,ha.grown nsl⟩)))))))))))))))))))
  ·exact zA J J (jE J J J (jE J J J (zH J J (lax J J (zD (csr (zA J J (kW J J (lnx (qE J (csr (zH J J (lax J J (zS (zO (zX J (fun a w ha=>qM J J J ha) (fun a w ha=>⟨⟨0,11,.inr ⟨rfl,rfl,h1⟩,rfl⟩,ha.grown nsl⟩)))))))))))))))))

end
section
variable {d kiln m:Nat} {days:List Nat} {fs:List Flt}
def klnN (fs:List Flt) (days:List Nat):Nat->Option Nat
  | 0=>none
  | k+1=>match klnN fs days k with
    | some x=>some x
    | none=>if (bstA fs k days).is then some k else none
def sprF (fs:List Flt) (kiln:Nat) (days:List Nat) (d:Nat):Nat->Option Nat
  | 0=>none
  | k+1=>sprN fs kiln days d k
theorem zRk (h:(bstA fs kiln (days.set d m)).is=false):sprF fs kiln days d (m+1)=sprF fs kiln days d m:=by
  cases m with
  | zero=>unfold sprF sprN;rw[h];rfl
  | succ m => show sprN fs kiln days d (m + 1) = sprN fs kiln days d m; conv => lhs; unfold sprN
              rw[h];rfl
theorem zO7 (h:(bstA fs kiln (days.set d m)).is=true):sprF fs kiln days d (m+1)=some m:=by
  show sprN fs kiln days d m=some m
  cases m with
  | zero=>unfold sprN;rw[h];rfl
  | succ m=>unfold sprN;rw[h];rfl
def optN (o:Option Nat):Nat:=o.getD 0
def optE (o:Option Nat):Nat:=if o.isSome then 0 else 11
end
section
variable [I:Sys]
variable {d dc fc kiln:Nat} {dA fA:Option Addr} {days:List Nat} {fs:List Flt}
theorem F.ent87:Enters Tryz.prog 87:=jC Tryz.func87 rfl kr
theorem jBf (hc:ChV fs kiln days) (hd:d<days.length) (w:World) (hF:RdL Flt.cells 4 w fA fs) (hD:RdL ncell 1 w dA days):Calls Tryz.prog 48 #[.agg (CA fA fs.length fc kiln dA days.length dc).toArray,.int .i64 (d:Int)] w fun e w'=>e=.returned (.tuple #[.int .i64 ((optN (sprN fs kiln days d 12):Nat):Int),.int .i64 ((optE (sprN fs kiln days d 12):Nat):Int)])∧Grew w w' []:=by
 refine enter (N:=31) [(0,.agg (CA fA fs.length fc kiln dA days.length dc).toArray),(1,.int .i64 (d:Int))] Tryz.func48 J Tryz.ntmps48 J J (csr (jM J J ?_));intro b2;refine zH J J (lax J J (zD (csr (jB J J F.agg25 F.ti25 (zA J J (jG (v:=.int .i64 0) (vs:=[_,_]) J J F.ent90 (fun a w ha=>zUg (dc:=dc) (fc:=fc) hc hd w (hF.later ha.below) (hD.later ha.below)) (lax J J (csr (zA J J (zG J J J kX ?_))))))))))
 refine lnx (zJ J (fun hc0=>?_) (fun hc0=>?_))
 ·exact absurd J hc0
  done
 ·refine zP (zE (zD (zM ?_)));have hd4:=hc.d4;have hd1:=hc.d1;obtain⟨bd,bo,rfl,_,_⟩:=hD om;refine zAy J U23 F.ti3 ?_;intro b14;refine wT 1 (.head _) (zI J J F.fi25_2 F.ti23 (zQ J J F.one23 (yP (cells:=ncell) J J J Tryz.underlying23 F.ti3 J J (fun _=>rfl) zM9 (fun a w ha=>hD.later ha.below) J (by unfold maxLen;omega) om ?_)));intro A3 c3;simp only[Nat.zero_add,List.nil_append,<-zCh];refine zI J J F.fi25_2 F.ti23 (zF J J F.ti23 J (lnx (zD (csr (lax J J (zU (xH (G:=Nat×List Nat) (fun g=>g.1<=13∧g.2.length=days.length∧(∀x,g.2.set d x=days.set d x)∧sprF fs kiln days d 13=sprF fs kiln days d g.1) (fun g=>g.1) (fun g=>[(1,.int .i64 (d:Int)),(2,pt b2),(7,.int .i64 ((g.1:Int)-1))]) (fun g=>[.row 3 1 A3 days.length c3 (ints g.2),.blk b2 (.cells #[.slice fA fs.length fc,.int .i64 (kiln:Int),.slice A3 days.length c3] 25 (0,0))]) (13,days) ⟨Nat.le_refl _,rfl,fun _=>rfl,rfl⟩ sbn pkk ?_)))))));rintro⟨k,cur⟩ ⟨hk,hcl,hcs,hsp⟩;dsimp only at hk hcl hcs hsp ⊢;refine zD (csr (zA J J (zG J J J zLd ?_)))
  refine lnx (zJ J (fun hc1=>?_) (fun hc1=>?_))
  ·obtain⟨m,rfl⟩:∃m,k=m+1:=⟨k-1,by omega⟩;have em:(((m+1:Nat):Int)-1)=(m:Int):=om;rw[em];have hm12:m<=12:=om;refine zP (zE (zD (zU (csr (yE A3 om ?_)))));intro g3 hg3;refine zI J J F.fi25_2 F.ti23 (zQ J J F.one23 (zA J J (zA J J (kF (j:=d) J (show _=some (Value.slice (some ⟨g3,0,none⟩) days.length c3) from by rw[<-hg3];rfl) J Tryz.underlying23 F.ti3 J hd (yW (A:=A3) (ints (days.set d m)) (show _=some (Value.pointer (some ⟨g3,0+d*1,none⟩)) from rfl) J F.ti3 hg3 (by rw[zBv];omega) (by rw[show 0+d*1=d from by omega,zPe,hcs]) (lnx (csr (jB J J F.agg25 F.ti25 ?_))))))))
   refine jG (v:=.bool (bstA fs kiln (days.set d m)).is) (vs:=[_]) J J F.ent87 (fun a w ha=>?_) ?_
   ·have h:=jBt (dA:=A3) (dc:=c3) (fc:=fc) (hc.set (d:=d) hm12).w w (hF.later ha.below) (zIf (A:=A3) ha (by rw[List.length_set]));rw[List.length_set] at h;exact h
   refine lnx (kI J (fun hc2=>?_) (fun hc2=>?_))
   ·exact csr (zA J J (zH J J (lax J J (zS (jO (zO (zO (jO (zO (zX J (fun a w ha=>qM J J J ha) (fun a w ha=>⟨by rw[show sprN fs kiln days d 12=some m from hsp.trans (zO7 hc2)];rfl,ha.grown nsl⟩)))))))))))
   ·refine zP (zK (zE (zM (zA J J (zG J J J (fun w=>qN w (zV _ om om)) (zH J J (zB (qI (m,days.set d m) ⟨by omega,by rw[List.length_set],fun x=>by rw[List.set_set],hsp.trans (zRk (by simpa using hc2))⟩ tdo sbn pkk))))))))
  ·obtain rfl:k=0:=om;exact jT (zL (zL (jF (zE (csr (zH J J (lax J J (zS (zX J (fun a w ha=>qM J J J ha) (fun a w ha=>⟨by rw[show sprN fs kiln days d 12=none from hsp];rfl,ha.grown nsl⟩))))))))))

theorem jBs {n:Nat} (hdl:days.length<=1000) (hd:d<days.length) (w:World) (hD:RdL ncell 1 w dA days):Calls Tryz.prog 91 #[.agg (CA fA fs.length fc kiln dA days.length dc).toArray,.int .i64 (d:Int),.int .i64 (n:Int)] w fun e w'=>∃D' dc',e=.returned (.agg #[.slice fA fs.length fc,.int .i64 (kiln:Int),.slice D' days.length dc'])∧Grew w w' [.row 3 1 D' days.length dc' (ints (days.set d n))]:=by
 refine enter (N:=18) [(0,.agg (CA fA fs.length fc kiln dA days.length dc).toArray),(1,.int .i64 (d:Int)),(2,.int .i64 (n:Int))] Tryz.func91 J Tryz.ntmps91 J J (csr (jM J J ?_));intro b3;refine zZ J F.ti25 ?_;intro b6;refine lnx (zD (zM ?_));obtain⟨bd,bo,rfl,_,_⟩:=hD om;refine zAy J U23 F.ti3 ?_;intro b7;refine wT 1 (.head _) (zI J J F.fi25_2 F.ti23 (zQ J J F.one23 (yP (cells:=ncell) J J J Tryz.underlying23 F.ti3 J J (fun _=>rfl) zM9 (fun a w ha=>hD.later ha.below) J (by unfold maxLen;omega) om ?_)));intro A3 c3;simp only[Nat.zero_add,List.nil_append,<-zCh];refine zI J J F.fi25_2 F.ti23 (zF J J F.ti23 J (lnx (csr (yE A3 om ?_))));intro g3 hg3;exact zI J J F.fi25_2 F.ti23 (zQ J J F.one23 (zA J J (zA J J (kF (j:=d) J (show _=some (Value.slice (some ⟨g3,0,none⟩) days.length c3) from by rw[<-hg3];rfl) J Tryz.underlying23 F.ti3 J hd (yW (A:=A3) (ints (days.set d n)) (show _=some (Value.pointer (some ⟨g3,0+d*1,none⟩)) from rfl) J F.ti3 hg3 (by rw[zBv];omega) (by rw[show 0+d*1=d from by omega,zPe]) (lnx (csr (jB J J F.agg25 F.ti25 (zF J J F.ti25 J (lnx (zS (zX J (fun a w ha=>by exact qS (ha:=ha) J J F.agg25 F.ti25 J) (fun a w ha=>⟨A3,c3,rfl,(ha.pck pkk).grown (List.Sublist.refl _)⟩)))))))))))))

end
section
theorem zYq (l:List Nat) (i j v:Nat):(l.set i v).getD j 0=if i=j∧i<l.length then v else l.getD j 0:=by
 rw[List.getD_eq_getElem?_getD,List.getD_eq_getElem?_getD,List.getElem?_set]
 by_cases h:i=j
 ·subst h
  by_cases h2:i<l.length
  ·simp[h2]
  ·simp[h2]
 ·simp[h]
theorem jEp {fs:List Flt} {kiln:Nat} {m m1:Mor} {acts:List Nat} {s:Nat}:dayE fs kiln m acts s=(0,m1)↔barred m acts acts.length=false∧firesN acts acts.length<=kiln∧(dRun fs m acts s acts.length).1=0∧m1=(dRun fs m acts s acts.length).2:=by
 unfold dayE
 by_cases h1:barred m acts acts.length=true
 ·rw[if_pos h1];simp[h1]
 ·rw[if_neg h1]
  by_cases h2:kiln<firesN acts acts.length
  ·rw[if_pos h2];simp;omega
  ·rw[if_neg h2]
   by_cases h3:0<(dRun fs m acts s acts.length).1
   ·rw[if_pos h3];simp;omega
   ·rw[if_neg h3];simp only[Prod.mk.injEq,true_and]
    constructor
    ·rintro rfl;exact⟨by simpa using h1,by omega,by omega,rfl⟩
    ·rintro⟨_,_,_,rfl⟩;rfl
def sumK (m:Mor):Nat->Nat
 | 0=>0
 | k+1=>sumK m k+m.s.getD k 0
theorem zXy {fs:List Flt} {m:Mor} {n x:Nat}:∀k,k<=n->(dRun fs m (List.replicate n 0) x k).1=x-sumK m k
 | 0,_=>by simp[dRun,sumK]
 | k+1,hk=>by
  have ih:=zXy (fs:=fs) (m:=m) (n:=n) (x:=x) k om;rw[wP,zD5]
  have h0:(List.replicate n 0).getD k 0=0:=by
   rw[List.getD_eq_getElem?_getD,List.getElem?_replicate]
   split<;>rfl
  rw[h0];unfold sumK actOf;dsimp only;rw[if_pos J,ih];omega
def Void (n:Nat) (m:Mor):Prop:=∀i,n<=i->m.s.getD i 0=0
theorem zPs {fs:List Flt} {m:Mor} {acts:List Nat} {x n:Nat} (hv:Void n m):∀k,k<=n->Void n (dRun fs m acts x k).2
 | 0,_=>hv
 | k+1,hk=>by
  have ih:=zPs (fs:=fs) (acts:=acts) (x:=x) hv k om;rw[wP,zD5];intro i hi;dsimp only;rw[zYq,if_neg om];exact ih i hi
theorem zR5 (fs:List Flt) (_h3:fs.length<=3):Void fs.length (start fs):=by
 intro i hi;unfold start startN;dsimp only;rw[List.take_length,List.getD_eq_getElem?_getD,List.getElem?_append,if_neg (by simp;omega),List.getElem?_replicate]
 split<;>rfl
end
section
variable [I:Sys]
theorem F.ent46:Enters Tryz.prog 46:=jC Tryz.func46 rfl kr
theorem F.ent48:Enters Tryz.prog 48:=jC Tryz.func48 rfl kr
theorem F.ent91:Enters Tryz.prog 91:=jC Tryz.func91 rfl kr

theorem F.ent63:Enters Tryz.prog 63:=jC Tryz.func63 rfl kr
theorem F.ent72:Enters Tryz.prog 72:=jC Tryz.func72 rfl kr
theorem F.ent83:Enters Tryz.prog 83:=jC Tryz.func83 rfl kr
theorem wB (n lo hi:Int) (w:World):Calls Tryz.prog 72 #[.int .i64 n,.int .i64 lo,.int .i64 hi] w fun e w'=>e=.returned (.bool (btw n lo hi))∧Grew w w' []:=by
 refine enter (N:=15) [(0,.int .i64 n),(1,.int .i64 lo),(2,.int .i64 hi)] Tryz.func72 J Tryz.ntmps72 J J ?_
 refine csr (lax J J (csr (wG 8 14 (.bool (btw n lo hi)) ?_ ?_)))
 ·refine zA J J (zA J J (zG J J J zLd ?_))
  refine zA J J (yB (t:=10) J (fun hg10=>?_) (fun hg10=>?_))
  ·exact zN J J (zA J J (zN J J (zA J J (zN J J (zG J J J zHm (jI J J J (zB (xF (.cons (by unfold btw;simp_all[look]<;>omega) sbn) sbl))))))))
  ·exact zY J J J (zY J J J (zY J J J (jS J J J (zB (xF (.cons (by unfold btw;simp_all[look]<;>omega) sbn) sbl)))))
 exact lax J J (zS (zX J (fun a w ha=>jJ J J ha) (fun a w ha=>⟨rfl,ha.grown nsl⟩)))

theorem zPf (n hi:Int) (h0:0<=n) (w:World):Calls Tryz.prog 83 #[.int .i64 n,.int .i64 hi] w fun e w'=>e=.returned (.int .i64 ((szd n 1 hi:Nat):Int))∧Grew w w' []:=by
 refine enter (N:=10) [(0,.int .i64 n),(1,.int .i64 hi)] Tryz.func83 J Tryz.ntmps83 J J (csr (lax J J (zD (csr (zA J J (zG J J J kD ?_))))))
 refine lnx (zJ J (fun hc0=>?_) (fun hc0=>?_))
 ·exact csr (lax J J (zS (zO (zX J (fun a w ha=>jJ J J ha) (fun a w ha=>⟨by unfold szd;rw[if_pos om];rfl,ha.grown nsl⟩)))))
 ·refine zP (zE (zD (csr (zA J J (zA J J (zG J J J vN ?_))))))
  refine lnx (zJ J (fun hc1=>?_) (fun hc1=>?_))
  ·exact csr (lax J J (zS (zO (zX J (fun a w ha=>jJ J J ha) (fun a w ha=>⟨by unfold szd;rw[if_neg om,if_pos hc1];rfl,ha.grown nsl⟩)))))
  ·exact zP (zE (csr (lax J J (zS (zX J (fun a w ha=>jJ J J ha) (fun a w ha=>⟨by unfold szd;rw[if_neg om,if_neg hc1];rfl,ha.grown nsl⟩))))))

theorem zK5 (p g n:Int) (wd:Bool) (w:World):Calls Tryz.prog 63 #[.agg #[.int .i64 p,.int .i64 g,.int .i64 n,.bool wd]] w fun e w'=>e=.returned (.int .i64 ((chkF ⟨p,g,n,wd⟩:Nat):Int))∧Grew w w' []:=by
 refine enter (N:=23) [(0,.agg #[.int .i64 p,.int .i64 g,.int .i64 n,.bool wd])] Tryz.func63 J Tryz.ntmps63 J J (csr (jM J J ?_));intro b1
 refine lax J J (zD (csr (wG 20 22 (.bool (!(btw p 1 4&&btw g 0 p&&btw n 0 p))) ?_ ?_)))
 ·refine zI J J F.fi27_0 F.ti3 (zQ J J F.one3 (jG (v:=.bool (btw p (1) (4))) (vs:=[_,_,_]) J J F.ent72 (fun a w ha=>wB (p) (1) (4) w) ?_))
  refine kW J J (zA J J (vD (t:=7) J (fun hg7=>?_) (fun hg7=>?_)))
  ·exact zY J J J (zY J J J (zY J J J (zY J J J (zY J J J (zY J J J (jI J J J (zA J J (zY J J J (zY J J J (zY J J J (zY J J J (zY J J J (zY J J J (jI J J J (zB (xF (.cons (by simp_all[look]) sbn) sbl))))))))))))))))
  ·refine zN J J (zI J J F.fi27_1 F.ti3 (zN J J (zQ J J F.one3 (zN J J (zI J J F.fi27_0 F.ti3 (zN J J (zQ J J F.one3 (zN J J (jG (v:=.bool (btw g (0) (p))) (vs:=[_,_,_]) J J F.ent72 (fun a w ha=>wB (g) (0) (p) w) ?_)))))))))
   refine zN J J (kW J J (jS J J J (zA J J (vD (t:=15) J (fun hg15=>?_) (fun hg15=>?_)))))
   ·exact zY J J J (zY J J J (zY J J J (zY J J J (zY J J J (zY J J J (jI J J J (zB (xF (.cons (by simp_all[look]) sbn) sbl))))))))
   ·exact zN J J (zI J J F.fi27_2 F.ti3 (zN J J (zQ J J F.one3 (zN J J (zI J J F.fi27_0 F.ti3 (zN J J (zQ J J F.one3 (zN J J (jG (v:=.bool (btw n (0) (p))) (vs:=[_,_,_]) J J F.ent72 (fun a w ha=>wB (n) (0) (p) w) (zN J J (kW J J (jS J J J (zB (xF (.cons (by simp_all[look]) sbn) sbl))))))))))))))
 refine lnx (kI J (fun hc0=>?_) (fun hc0=>?_))
 ·exact csr (lax J J (zS (zO (zX J (fun a w ha=>jJ J J ha) (fun a w ha=>⟨by unfold chkF;rw[if_neg (by intro h;rw[h] at hc0;cases hc0)];rfl,ha.grown nsl⟩)))))
 ·exact zP (zE (csr (lax J J (zS (zX J (fun a w ha=>jJ J J ha) (fun a w ha=>⟨by unfold chkF;rw[if_pos (by simpa using hc0)];rfl,ha.grown nsl⟩))))))

theorem zOd {fA dA:Option Addr} {fc dc:Nat} {fs:List FltZ} {kiln:Int} {days:List Int} (hfl:fs.length<1000000) (hdl:days.length<1000000) (w:World) (hF:RdL FltZ.cells 4 w fA fs) (hD:RdL zcell 1 w dA days):Calls Tryz.prog 34 #[.agg #[.slice fA fs.length fc,.int .i64 kiln,.slice dA days.length dc]] w fun e w'=>e=.returned (.int .i64 ((chk fs kiln days:Nat):Int))∧Grew w w' []:=by
 refine enter (N:=56) [(0,.agg #[.slice fA fs.length fc,.int .i64 kiln,.slice dA days.length dc])] Tryz.func34 J Tryz.ntmps34 J J (csr (jM J J ?_));intro b1;refine lax J J (zD (csr (zI J J F.fi25_0 F.ti22 (zQ J J F.one22 (jP J J U22 (jG (v:=.int .i64 ((szd fs.length 1 (3):Nat):Int)) (vs:=[_,_]) J J F.ent83 (fun a w ha=>zPf (fs.length) (3) om w) (lax J J (csr (zA J J (zG J J J kX ?_))))))))))
 refine lnx (zJ J (fun hc0=>?_) (fun hc0=>?_))
 ·exact csr (zA J J (lax J J (zS (zO (zX J (fun a w ha=>jJ J J ha) (fun a w ha=>⟨by unfold chk;rw[if_pos om],ha.grown nsl⟩))))))
 ·refine zP (zE (zD (csr (lax J J (zU (qR (G:=Nat) (fun k=>k<=fs.length∧(fs.take k).any (fun f=>chkF f != 0)=false) (fun k=>fs.length-k) (fun k=>[(1,pt b1),(4,.int .i64 (k:Int))]) (fun k=>[.blk b1 (.cells #[.slice fA fs.length fc,.int .i64 kiln,.slice dA days.length dc] 25 (0,0))]) 0 ⟨Nat.zero_le _,rfl⟩ sbn sbl ?_))))));intro k hk;(try dsimp only at hk ⊢);refine zD (csr (zA J J (zI J J F.fi25_0 F.ti22 (zQ J J F.one22 (jP J J U22 (zG J J J jY ?_))))))
  refine lnx (zJ J (fun hc1=>?_) (fun hc1=>?_))
  ·have hk':k<fs.length:=om;obtain⟨bf,bo,hfA,hbf,hcf⟩:=hF om;obtain⟨f,hx⟩:∃x,fs[k]?=some x:=⟨_,List.getElem?_eq_getElem hk'⟩;obtain⟨p,g,n,wd⟩:=f;refine zP (zE (zD (zU (csr (zI J J F.fi25_0 F.ti22 (zQ J J F.one22 (zA J J (kF (j:=k) J (show _=some (Value.slice (some ⟨bf,bo,none⟩) fs.length fc) from by rw[<-hfA];rfl) J Tryz.underlying22 F.ti27 J hk' (qW (l:=[.int .i64 p,.int .i64 g,.int .i64 n,.bool wd]) J J F.agg27 F.ti27 J (fun a w ha j u hu=>ha.old (hcf k _ hx j u hu) hbf) (jG (v:=.int .i64 ((chkF ⟨p,g,n,wd⟩:Nat):Int)) (vs:=[_]) J J F.ent63 (fun a w ha=>zK5 p g n wd w) (lax J J (csr (zA J J (zG J J J kX ?_))))))))))))))
   refine lnx (zJ J (fun hc2=>?_) (fun hc2=>?_))
   ·exact csr (zA J J (lax J J (zS (jO (zO (zO (jO (zO (zX J (fun a w ha=>jJ J J ha) (fun a w ha=>⟨by have h9:=zR4 ⟨p,g,n,wd⟩;unfold chk;rw[if_neg om,if_pos (zJ6 hx (by simp;omega))];rcases h9 with h9|h9<;>rw[h9] at hc2 ⊢ <;> simp at hc2 ⊢,ha.grown nsl⟩))))))))))
   ·refine zP (zK (zE (zM (zA J J (zG J J J (fun w=>jL w (zV _ om om)) (zH J J (zB (qC (k+1) ⟨by omega,zAu hx hk.2 (by simp;omega)⟩ tdo sbn sbl))))))))
  ·obtain⟨hk,hall⟩:=hk;obtain rfl:k=fs.length:=om;rw[List.take_length] at hall;refine jT (zL (zL (jF (zE (zD (csr (zI J J F.fi25_1 F.ti3 (zQ J J F.one3 (jG (v:=.bool (btw kiln (0) (3))) (vs:=[_,_,_]) J J F.ent72 (fun a w ha=>wB (kiln) (0) (3) w) ?_)))))))))
   refine kW J J (lnx (kI J (fun hc3=>?_) (fun hc3=>?_)))
   ·exact csr (lax J J (zS (zO (zX J (fun a w ha=>jJ J J ha) (fun a w ha=>⟨by unfold chk;rw[if_neg om,if_neg (by rw[hall];simp),if_pos (by simpa using hc3)];rfl,ha.grown nsl⟩)))))
   ·refine zP (zE (zD (csr (zI J J F.fi25_2 F.ti23 (zQ J J F.one23 (jP J J U23 (jG (v:=.int .i64 ((szd days.length 1 (4):Nat):Int)) (vs:=[_,_]) J J F.ent83 (fun a w ha=>zPf (days.length) (4) om w) (lax J J (csr (zA J J (zG J J J kX ?_)))))))))))
    refine lnx (zJ J (fun hc4=>?_) (fun hc4=>?_))
    ·exact csr (zA J J (lax J J (zS (zO (zX J (fun a w ha=>jJ J J ha) (fun a w ha=>⟨by unfold chk;rw[if_neg om,if_neg (by rw[hall];simp),if_neg (by simpa using hc3),if_pos om],ha.grown nsl⟩))))))
    ·refine zP (zE (zD (csr (lax J J (zU (qR (G:=Nat) (fun k=>k<=days.length∧(days.take k).any (fun n=>!btw n 0 12)=false) (fun k=>days.length-k) (fun k=>[(1,pt b1),(7,.int .i64 (k:Int))]) (fun k=>[.blk b1 (.cells #[.slice fA fs.length fc,.int .i64 kiln,.slice dA days.length dc] 25 (0,0))]) 0 ⟨Nat.zero_le _,rfl⟩ sbn sbl ?_))))));intro k hk;(try dsimp only at hk ⊢);refine zD (csr (zA J J (zI J J F.fi25_2 F.ti23 (zQ J J F.one23 (jP J J U23 (zG J J J jY ?_))))))
     refine lnx (zJ J (fun hc5=>?_) (fun hc5=>?_))
     ·have hk':k<days.length:=om;obtain⟨bd,bo,hdA,hbd,hcd⟩:=hD om;obtain⟨n,hx⟩:∃x,days[k]?=some x:=⟨_,List.getElem?_eq_getElem hk'⟩;refine zP (zE (zD (zU (csr (zI J J F.fi25_2 F.ti23 (zQ J J F.one23 (zA J J (kF (j:=k) J (show _=some (Value.slice (some ⟨bd,bo,none⟩) days.length dc) from by rw[<-hdA];rfl) J Tryz.underlying23 F.ti3 J hk' (kE (v:=.int .i64 n) J J F.one3 (fun a w ha=>ha.old (hcd k _ hx 0 _ J) hbd) (jG (v:=.bool (btw n (0) (12))) (vs:=[_,_,_]) J J F.ent72 (fun a w ha=>wB (n) (0) (12) w) ?_))))))))))
      refine kW J J (lnx (kI J (fun hc6=>?_) (fun hc6=>?_)))
      ·exact csr (lax J J (zS (jO (zO (zO (jO (zO (zX J (fun a w ha=>jJ J J ha) (fun a w ha=>⟨by unfold chk;rw[if_neg om,if_neg (by rw[hall];simp),if_neg (by simpa using hc3),if_neg om,if_pos (zJ6 hx hc6)];rfl,ha.grown nsl⟩)))))))))
      ·refine zP (zK (zE (zM (zA J J (zG J J J (fun w=>jL w (zV _ om om)) (zH J J (zB (qC (k+1) ⟨by omega,zAu hx hk.2 hc6⟩ tdo sbn sbl))))))))
     ·obtain⟨hk,hall2⟩:=hk;obtain rfl:k=days.length:=om;rw[List.take_length] at hall2;exact jT (zL (zL (jF (zE (csr (lax J J (zS (zX J (fun a w ha=>jJ J J ha) (fun a w ha=>⟨by unfold chk;rw[if_neg om,if_neg (by rw[hall];simp),if_neg (by simpa using hc3),if_neg om,if_neg (by rw[hall2];simp)];rfl,ha.grown nsl⟩)))))))))

end
section
variable {i k n:Nat} {m m':Mor}
def bcell (b:Bool):List Value:=[.bool b]
def bools (l:List Bool):List Value:=l.map Value.bool
theorem zSp (l:List Bool):bools l=l.flatMap bcell:=by
 unfold bools bcell;rw[<-List.map_eq_flatMap]
theorem zTd (l:List Bool) (b:Bool):bools (l++[b])=bools l++[.bool b]:=by simp[bools]
def wbs (n:Nat) (m:Mor):List Bool:=(List.range n).map fun i=>m.w.testBit i
def sts (n:Nat) (m:Mor):List Nat:=(List.range n).map fun i=>m.s.getD i 0
theorem zKu (n:Nat) (m:Mor):(wbs n m).length=n:=by simp[wbs]
theorem zHc (n:Nat) (m:Mor):(sts n m).length=n:=by simp[sts]
theorem zWe (n:Nat) (m:Mor):wbs (n+1) m=wbs n m++[m.w.testBit n]:=by simp[wbs,List.range_succ]
theorem zOk (n:Nat) (m:Mor):sts (n+1) m=sts n m++[m.s.getD n 0]:=by simp[sts,List.range_succ]
theorem zVm (h:i<n):(wbs n m)[i]?=some (m.w.testBit i):=by simp[wbs,h]
theorem zO1 (h:i<n):(sts n m)[i]?=some (m.s.getD i 0):=by simp[sts,h]
abbrev MZ:Type:=(Option Addr×Nat)×(Option Addr×Nat)×Mor
def mmc (n:Nat) (x:MZ):List Value:=[.slice x.1.1 n x.1.2,.slice x.2.1.1 n x.2.1.2]
def mmr (n:Nat) (x:MZ):List Res:=[.row 3 1 x.1.1 n x.1.2 (ints (sts n x.2.2)),.row 4 1 x.2.1.1 n x.2.1.2 (bools (wbs n x.2.2))]
structure RdMM (n:Nat) (w:World) (x:MZ):Prop where
 s:RdL ncell 1 w x.1.1 (sts n x.2.2)
 w:RdL bcell 1 w x.2.1.1 (wbs n x.2.2)
theorem RdMM.later [I:Sys] {w w':World} {x:MZ} (h:RdMM n w x) (hb:Below w.heap.size w w'):RdMM n w' x:=⟨h.s.later hb,h.w.later hb⟩
structure RdMs (n:Nat) (w:World) (A:Option Addr) (l:List MZ):Prop where
 outer:RdL (mmc n) 2 w A l
 inner:∀x∈l,RdMM n w x
section
variable [I:Sys] {C:Ctx} {fr:List (Nat×Value)} {hp hp':List Res} {a:Act} {w:World}
theorem zT4 (ha:At C fr hp a w) {A:Option Addr} {n c:Nat} {l:List Bool} (hm:Res.row 4 1 A n c (bools l)∈hp) (hn:n=l.length):RdL bcell 1 w A l :=
 kV ha (cells:=bcell) (size:=1) (e:=4) (c:=c) (n:=n) (fun _=>rfl) (by rw[<-zSp];exact hm) hn
theorem zNc (ha:At C fr hp a w) {n:Nat} {x:MZ} (h:∀r∈mmr n x,r∈hp):RdMM n w x:=by
 have h0:Res.row 4 1 x.2.1.1 n x.2.1.2 (bools (wbs n x.2.2))∈hp:=h _ (by simp[mmr]);refine⟨?_,zT4 ha h0 (zKu ..).symm⟩;have h1:Res.row 3 1 x.1.1 n x.1.2 (ints (sts n x.2.2))∈hp:=h _ (by simp[mmr]);have h2:Res.row 3 1 x.1.1 (sts n x.2.2).length x.1.2 (ints (sts n x.2.2))∈hp:=by rw[zHc];exact h1
 exact zG5 ha (fun _=>rfl) h2
theorem jCd (ha:At C fr hp a w) {n c:Nat} {A:Option Addr} {l:List MZ} (h1:Res.row 112 2 A l.length c (l.flatMap (mmc n))∈hp) (h2:∀x∈l,∀r∈mmr n x,r∈hp):RdMs n w A l :=
 ⟨kV ha (cells:=mmc n) (size:=2) (e:=112) (c:=c) (n:=l.length) (fun _=>rfl) h1 J,fun x hx=>zNc ha (h2 x hx)⟩
end
theorem mok4 (h:MOk m) (j:Nat):m.s.getD j 0<=4:=by
 rw[List.getD_eq_getElem?_getD]
 cases hj:m.s[j]? with
 | none=>exact Nat.zero_le _
 | some x=>exact h.small x (List.mem_of_getElem? hj)
def cdM (m:Mor):Nat->Nat
 | 0=>0
 | k+1=>cdM m k*10+2*m.s.getD k 0+if m.w.testBit k then 1 else 0
theorem jEk (h:m.w.testBit k=true):cdM m (k+1)=cdM m k*10+2*m.s.getD k 0+1:=by show _+_+(if _ then _ else _)=_;rw[if_pos h]
theorem jEh (h:m.w.testBit k=false):cdM m (k+1)=cdM m k*10+2*m.s.getD k 0:=by show _+_+(if _ then _ else _)=_;rw[h];rfl
theorem zI0 (h:MOk m):∀k,cdM m k<10^k
 | 0=>Nat.one_pos
 | k+1=>by
  have:=zI0 h k;have h4:m.s.getD k 0<=4:=mok4 h k;unfold cdM;rw[Nat.pow_succ]
  split<;>omega
theorem zK7 (h:MOk m) (h':MOk m'):∀k,cdM m k=cdM m' k->∀i,i<k->m.s.getD i 0=m'.s.getD i 0∧m.w.testBit i=m'.w.testBit i
 | 0,_=>fun _ hi=>absurd hi (Nat.not_lt_zero _)
 | k+1,e=>fun i hi=>by
  have h4:m.s.getD k 0<=4:=mok4 h k;have h4':m'.s.getD k 0<=4:=mok4 h' k;unfold cdM at e
  have e1:cdM m k=cdM m' k∧2*m.s.getD k 0+(if m.w.testBit k=true then 1 else 0)=2*m'.s.getD k 0+(if m'.w.testBit k=true then 1 else 0):=by
   split at e<;>split at e<;>rename_i x y<;>simp only[x,y,if_true,if_false,Bool.false_eq_true]<;>omega
  rcases Nat.lt_or_ge i k with hk|hk
  ·exact zK7 h h' k e1.1 i hk
  ·obtain rfl:i=k:=om;have e2:=e1.2
   refine⟨?_,?_⟩
   ·split at e2<;>split at e2<;>omega
   ·cases x:m.w.testBit i<;>cases y:m'.w.testBit i<;>rw[x,y] at e2<;>first|rfl|(simp at e2;omega)
def Thin (n:Nat) (m:Mor):Prop:=∀i,n<=i->m.s.getD i 0=0∧m.w.testBit i=false
theorem jAn (h:MOk m) (h':MOk m') (hs:∀i,m.s.getD i 0=m'.s.getD i 0) (hw:∀i,m.w.testBit i=m'.w.testBit i):m=m':=by
 cases m with
 | mk s w =>
 cases m' with
 | mk s' w' =>
 have e1:s=s':=by
  apply List.ext_getElem?
  intro i;have a1:=h.three;have a2:=h'.three;dsimp only at a1 a2
  rcases Nat.lt_or_ge i 3 with hi|hi
  ·have:=hs i;simp only[List.getD_eq_getElem?_getD,List.getElem?_eq_getElem (show i<s.length by omega),List.getElem?_eq_getElem (show i<s'.length by omega),Option.getD_some] at this;rw[List.getElem?_eq_getElem (show i<s.length by omega),List.getElem?_eq_getElem (show i<s'.length by omega),this]
  ·rw[List.getElem?_eq_none om,List.getElem?_eq_none om]
 have e2:w=w':=Nat.eq_of_testBit_eq hw;rw[e1,e2]
theorem jDl (h:MOk m) (h':MOk m') (t:Thin n m) (t':Thin n m') (e:cdM m n=cdM m' n):m=m' :=
 jAn h h' (fun i=>by
  rcases Nat.lt_or_ge i n with hi|hi
  ·exact (zK7 h h' n e i hi).1
  ·rw[(t i hi).1,(t' i hi).1]) fun i=>by
  rcases Nat.lt_or_ge i n with hi|hi
  ·exact (zK7 h h' n e i hi).2
  ·rw[(t i hi).2,(t' i hi).2]
end
section
open Go.Conc
variable {ch:List Nat} {i:Nat} {o:Oper}
section
variable {P:Program} [I:Sys] {ops:Array Oper} {Q:Exit->Act->World->Prop} {md:Region.Mode} {S:Array Bool->World->Prop} {S1:World->Prop}
def wpAnyL (P:Program) [Sys] (md:Region.Mode) (ops:Array Oper) (Q:Exit->Act->World->Prop) (S:Array Bool->World->Prop):Nat->Array Bool->Act->World->Prop
 | 0,listed,a,w=>Region.ready md ops listed=[]∧Q .normal a w
 | fuel+1,listed,a,w =>
  (Region.ready md ops listed=[]->Q .normal a w) ∧
  ∀i∈Region.ready md ops listed,wpOp P ops Q i (fun a' w'=>S (listed.setIfInBounds i true) w'∧wpAnyL P md ops Q S fuel (listed.setIfInBounds i true) a' w') a w
theorem zOy:∀(fuel:Nat) (listed:Array Bool) (a:Act) (w:World),wpAnyL P md ops Q S fuel listed a w->wpAnyH P md ops Q (fun _=>True) fuel listed a w
 | 0,_,_,_,h=>h
 | fuel+1,_,_,_,h=>⟨h.1,fun i hi=>zD2 (fun a w hk=>⟨trivial,zOy fuel _ a w hk.2⟩) (h.2 i hi)⟩
theorem zDj (hSa:∀l w w',S l w->Rl w w'->S l w') (hQa:∀a w w',Q .normal a w->Rl w w'->Q .normal a w'):∀(fuel:Nat) (listed:Array Bool),Bears (fun a w=>S listed w∧wpAnyL P md ops Q S fuel listed a w)
 | 0,listed,a,w,w',h,hr=>⟨hSa _ _ _ h.1 hr,h.2.1,hQa _ _ _ h.2.2 hr⟩
 | fuel+1,listed,a,w,w',h,hr=>by
  refine⟨hSa _ _ _ h.1 hr,fun h0=>hQa _ _ _ (h.2.1 h0) hr,fun i hi=>?_⟩;have h1:=h.2.2 i hi;unfold wpOp at h1 ⊢
  cases ho:ops[i]? with
  | none=>rw[ho] at h1;exact h1
  | some o =>
   rw[ho] at h1;dsimp only at h1 ⊢
   split
   ·rename_i hw;rw[if_pos hw] at h1;exact h1.rely hr
   ·rename_i hw;rw[if_neg hw] at h1;exact zDj hSa hQa fuel _ _ _ _ h1 hr
theorem zPp (hSa:∀l w w',S l w->Rl w w'->S l w') (hS1a:∀w w',S1 w->Rl w w'->S1 w') (hQa:∀a w w',Q .normal a w->Rl w w'->Q .normal a w') {i:Nat} {oi:Oper} {v:Value} (hi:ops[i]?=some oi) (hsel:∀(j:Nat) (o:Oper) cs b,ops[j]?=some o->o.op≠.select cs b)
  (hQ:∀c a w,Q (.panic c) (a.put oi.dst v) w->Q (.panic c) a w) {k:Nat} {ch:List Nat} (hch:∀q∈ch,q=i∨∃oq,ops[q]?=some oq∧∃e∈oq.after,Region.binds md e=true∧e.on∈ch) (hkc:k∈ch) (hki:k≠i) (hS1:∀listed w,listed.getD k true=false->S listed w->S1 w) (hSs:∀listed j w,j≠k->(S (listed.setIfInBounds j true) w↔S listed w)) :
  ∀(fuel:Nat) (listed:Array Bool) (a:Act) (w:World),
   (∀j oj,ops[j]?=some oj->j≠i->listed.getD j true=false->(∀e∈oj.after,Region.binds md e=true->e.on≠i)->oi.apart ops oj=true) ->
   i∈Region.ready md ops listed->(∀q∈ch,listed.getD q true=false)->YieldsIf P ops S1 oi v a->S listed w ->
   wpAnyL P md ops Q S fuel (listed.setIfInBounds i true) (a.put oi.dst v) w->wpAnyL P md ops Q S (fuel+1) listed a w:=by
 intro fuel
 induction fuel with
 | zero =>
  intro listed a w _ hr hkl hy hS H;refine⟨fun h=>(by rw[h] at hr;cases hr),fun j hj=>?_⟩
  by_cases hji:j=i
  ·subst hji;exact hy.wpOp hS1a hi (zDj hSa hQa _ _) (hS1 _ _ (hkl k hkc) hS) ⟨(hSs _ _ _ (Ne.symm hki)).2 hS,H⟩
  ·have:=ready_mono hj hji;rw[H.1] at this
   cases this
 | succ fuel ih =>
  intro listed a w hfree hr hkl hy hS H;refine⟨fun h=>(by rw[h] at hr;cases hr),fun j hj=>?_⟩
  by_cases hji:j=i
  ·subst hji;exact hy.wpOp hS1a hi (zDj hSa hQa _ _) (hS1 _ _ (hkl k hkc) hS) ⟨(hSs _ _ _ (Ne.symm hki)).2 hS,H⟩
  ·have h1:=H.2 j (ready_mono hj hji);obtain⟨hjun,oj,hoj,hall⟩:=mem_ready.1 hj
   have hnot:∀e∈oj.after,Region.binds md e=true->e.on≠i:=fun e he hb heq=>by
    have h1:=hall e he hb;have h0:=(mem_ready.1 hr).1;rw[heq] at h1
    rcases Nat.lt_or_ge i listed.size with h'|h'
    ·simp[h'] at h0 h1;rw[h0] at h1;cases h1
    ·simp[Array.getElem?_eq_none h'] at h1
   have h2:=zPx hoj (hfree j oj hoj hji hjun hnot) (fun cs b=>hsel i oi cs b hi) (fun cs b=>hsel j oj cs b hoj) hQ hy h1
   have hfree':∀k ok,ops[k]?=some ok->k≠i->(listed.setIfInBounds j true).getD k true=false ->
     (∀e∈ok.after,Region.binds md e=true->e.on≠i)->oi.apart ops ok=true:=fun k ok hk hki hun hno=>by
    refine hfree k ok hk hki ?_ hno
    by_cases hjk:j=k
    ·subst hjk;exact hjun
    ·rw[getD_set_ne true hjk] at hun;exact hun
   have hr':=ready_mono hr (Ne.symm hji)
   have hjc:j∉ch:=fun hc=>by
    rcases hch j hc with e|⟨oq,hq,e,he,hb,hon⟩
    ·exact hji e
    ·rw[hoj] at hq
     cases hq
     have h1:=hall e he hb;have h0:=hkl _ hon
     rcases Nat.lt_or_ge e.on listed.size with h'|h'
     ·simp[h'] at h0 h1;rw[h0] at h1;cases h1
     ·simp[Array.getElem?_eq_none h'] at h1
   refine zD2 (fun a' w' h3=>?_) h2;obtain⟨h4,h5,h6⟩:=h3;rw[Array.setIfInBounds_comm _ _ (Ne.symm hji)] at h5 h6;have h7:=(hSs _ _ _ (Ne.symm hki)).1 h5;exact⟨h7,ih (listed.setIfInBounds j true) a' w' hfree' hr' (fun q hq=>by rw[getD_set_ne true (show j≠q from fun e=>hjc (by rw[e];exact hq))];exact hkl q hq) h4 h7 h6⟩
end
def MemK (C:Ctx) (k:Nat) (hpT hpS:List Res) (listed:Array Bool) (w:World):Prop:=Mem C hpS w∧(listed.getD k true=false->Mem C hpT w)
theorem MemK.rely [I:Sys] {C:Ctx} {k:Nat} {hpT hpS:List Res} (l:Array Bool) (w w':World) (h:MemK C k hpT hpS l w) (hr:Rl w w'):MemK C k hpT hpS l w':=⟨Mem.rely _ _ h.1 hr,fun x=>Mem.rely _ _ (h.2 x) hr⟩
section
variable [I:Sys] {C:Ctx} {fr:List (Nat×Value)} {hp hp' hpS hpT:List Res} {ops:Array Oper} {Q:Exit->Act->World->Prop} {d k fuel:Nat} {listed listed':Array Bool}
def AnyK (C:Ctx) (ops:Array Oper) (Q:Exit->Act->World->Prop) (k:Nat) (hpT hpS:List Res) (fuel:Nat) (listed:Array Bool) (fr:List (Nat×Value)) (hp:List Res):Prop :=
 ∀a w,At C fr hp a w->wpAnyL C.P .any ops (Lax (OnlyN Q)) (MemK C k hpT hpS) fuel listed a w
theorem zYj {j:Nat} {w:World} (hj:j≠k):MemK C k hpT hpS (listed.setIfInBounds j true) w↔MemK C k hpT hpS listed w:=by
 unfold MemK;rw[getD_set_ne true hj]
def chain (ops:Array Oper) (i:Nat) (ch:List Nat):Bool:=ch.all fun q=>q==i||match ops[q]? with
 | none=>false
 | some o=>o.after.any fun e=>Region.binds .any e&&ch.contains e.on
theorem zSr (h:chain ops i ch=true):∀q∈ch,q=i∨∃oq,ops[q]?=some oq∧∃e∈oq.after,Region.binds .any e=true∧e.on∈ch:=by
 intro q hq;have h:=List.all_eq_true.1 h q hq;rw[Bool.or_eq_true] at h
 rcases h with h|h
 ·exact .inl (by simpa using h)
 ·split at h
  ·cases h
  ·rename_i o ho;rw[Array.any_eq_true] at h;obtain⟨j,hj,h⟩:=h;simp only[Bool.and_eq_true,List.contains_iff_mem] at h;exact .inr ⟨o,ho,_,Array.getElem_mem hj,h.1,h.2⟩
def unlisted (ch:List Nat) (listed:Array Bool):Bool:=ch.all fun q=>!listed.getD q true
theorem zMo (h:unlisted ch listed=true):∀q∈ch,listed.getD q true=false:=fun q hq=>by
 have h:=List.all_eq_true.1 h q hq;simpa using h
theorem zA3 {rs:List Nat} (hr:Region.ready .any ops listed=rs) (h0:rs=[]) (h:Ex C Q .normal fr hp):AnyK C ops Q k hpT hpS fuel listed fr hp :=
 fun a w ha=>by
  have hq:Lax (OnlyN Q) .normal a w:=Lax.of (show OnlyN Q .normal a w from h a w ha)
  cases fuel with
  | zero=>exact⟨hr.trans h0,hq⟩
  | succ n=>exact⟨fun _=>hq,by rw[hr.trans h0];simp⟩
theorem kY {v:Value} (i:Nat) (ch:List Nat) (hi:ops[i]?=some o) (hdst:o.dst=some d) (hd:Nat.blt d C.N=true) (y:Yld C o fr hpT v) (kk:AnyK C ops Q k hpT hpS fuel (listed.setIfInBounds i true) ((d,v)::fr) hp)
  (hns:Region.noSelect ops=true:=by kernel_rfl) (hf:Region.free .any ops listed i=true:=by kernel_rfl) (hr:(Region.ready .any ops listed).contains i=true:=by kernel_rfl) (hw:chain ops i ch=true:=by kernel_rfl) (hkc:ch.contains k=true:=by kernel_rfl) (hki:(k==i)=false:=by kernel_rfl) (hkl:unlisted ch listed=true:=by kernel_rfl)
  (hT:hpT.Sublist hp:=by repeat (first|exact List.Sublist.refl _|exact List.nil_sublist _|refine List.Sublist.cons_cons _ ?_|refine List.Sublist.cons _ ?_)) (hS:hpS.Sublist hp:=by repeat (first|exact List.Sublist.refl _|exact List.nil_sublist _|refine List.Sublist.cons_cons _ ?_|refine List.Sublist.cons _ ?_)) :
  AnyK C ops Q k hpT hpS (fuel+1) listed fr hp:=by
 intro a w ha
 refine zPp (S1:=Mem C hpT) (i:=i) (oi:=o) (v:=v) (fun l w w'=>MemK.rely l w w') (fun w w'=>Mem.rely w w') (fun _ _ _ h hr=>h.rely hr) hi (Region.noSelect_spec hns) (fun c a w h=>h.elim fun _ h=>h.1.elim) (zSr hw) (by simpa using hkc) (by simpa using hki) (fun l w hl hs=>hs.2 hl) (fun l j w hj=>zYj hj) fuel listed a w (Region.free_spec hi hf) (by simpa using hr) (zMo hkl) (.inl ⟨?_,(y.2 a w (ha.ofMem (ha.toMem hT))).1,fun w' hw'=>(y.2 a w' (ha.ofMem hw')).2⟩) ⟨ha.toMem hS,fun _=>ha.toMem hT⟩ ?_
 ·unfold Region.wanted;rw[y.1]
 ·rw[hdst];exact kk _ _ (ha.put (kC hd) v)
def NxK (C:Ctx) (ops:Array Oper) (Q:Exit->Act->World->Prop) (k:Nat) (hpT hpS:List Res) (fuel:Nat) (listed:Array Bool) (a:Act) (w:World):Prop :=
 MemK C k hpT hpS listed w∧wpAnyL C.P .any ops (Lax (OnlyN Q)) (MemK C k hpT hpS) fuel listed a w
def EachK (C:Ctx) (ops:Array Oper) (Q:Exit->Act->World->Prop) (k:Nat) (hpT hpS:List Res) (fuel:Nat) (listed:Array Bool) (fr:List (Nat×Value)) (hp:List Res):List Nat->Prop
 | []=>True
 | i::l=>(∃o,ops[i]?=some o∧Lst C ops (Exit.then (NxK C ops Q k hpT hpS fuel (listed.setIfInBounds i true)) (Lax (OnlyN Q))) [o] fr hp)∧EachK C ops Q k hpT hpS fuel listed fr hp l
theorem EachK.at {l:List Nat} (h:EachK C ops Q k hpT hpS fuel listed fr hp l):∀i∈l,∃o,ops[i]?=some o∧Lst C ops (Exit.then (NxK C ops Q k hpT hpS fuel (listed.setIfInBounds i true)) (Lax (OnlyN Q))) [o] fr hp:=by
 induction l with
 | nil=>intro i hi;cases hi
 | cons j l ih =>
  intro i hi
  rcases List.mem_cons.1 hi with rfl|hi
  ·exact h.1
  ·exact ih h.2 i hi
theorem zS7 (hi:ops[i]?=some o) {K:Act->World->Prop} (h:Lst C ops (Exit.then K (Lax (OnlyN Q))) [o] fr hp) {a:Act} {w:World} (ha:At C fr hp a w):wpOp C.P ops (Lax (OnlyN Q)) i K a w:=wE hi h ha
theorem kK (is:List Nat) (h:EachK C ops Q k hpT hpS fuel listed fr hp is) (hne:is.isEmpty=false:=by kernel_rfl) (hr:Region.ready .any ops listed=is:=by kernel_rfl):AnyK C ops Q k hpT hpS (fuel+1) listed fr hp:=by
 intro a w ha
 refine⟨fun h0=>?_,fun i hi=>?_⟩
 ·rw[hr] at h0;rw[h0] at hne
  cases hne
 ·rw[hr] at hi;obtain⟨o,ho,hl⟩:=h.at i hi;exact zS7 ho hl ha
theorem xG (h:AnyK C ops Q k hpT hpS fuel listed fr hp) (hk:listed.getD k true=true:=by kernel_rfl) (hS:hpS.Sublist hp:=by repeat (first|exact List.Sublist.refl _|exact List.nil_sublist _|refine List.Sublist.cons_cons _ ?_|refine List.Sublist.cons _ ?_)):Ex C (Exit.then (NxK C ops Q k hpT hpS fuel listed) (Lax (OnlyN Q))) .normal fr hp :=
 fun a w ha=>⟨⟨ha.toMem hS,fun e=>by rw[hk] at e;cases e⟩,h a w ha⟩
theorem qG (h:AnyK C ops Q k hpT hpS fuel listed fr hp) (hT:hpT.Sublist hp:=by repeat (first|exact List.Sublist.refl _|exact List.nil_sublist _|refine List.Sublist.cons_cons _ ?_|refine List.Sublist.cons _ ?_)) (hS:hpS.Sublist hp:=by repeat (first|exact List.Sublist.refl _|exact List.nil_sublist _|refine List.Sublist.cons_cons _ ?_|refine List.Sublist.cons _ ?_)):Ex C (Exit.then (NxK C ops Q k hpT hpS fuel listed) (Lax (OnlyN Q))) .normal fr hp :=
 fun a w ha=>⟨⟨ha.toMem hS,fun _=>ha.toMem hT⟩,h a w ha⟩
theorem zJ3 {id:Nat} {l:List Oper} (k:Nat) (hpT hpS:List Res) (hm:C.P.follows .mixedOrders=true) (n:Nat) (hn:l.length=n) (lst:List Bool) (hl:Array.replicate n false=lst.toArray) (h:AnyK C l.toArray Q k hpT hpS n lst.toArray fr hp) :
  Cod C (.region id l.toArray true) Q fr hp:=by
 intro a w ha
 refine zBp (Q:=OnlyN Q) (zPl (zBx (S:=fun _=>True) hm ?_)) ?_
 ·have h1:=h a _ ha;rw[<-hl] at h1;have h2:=zOy _ _ _ _ h1;simpa[hn] using h2
 ·intro e a' w' he
  cases e with
  | normal=>exact he
  | _=>exact he.elim
end
end
section
variable [I:Sys]
theorem F.fi112_0:FI Tryz.prog 112 0 23 0:=⟨_,_,Tryz.underlying112,rfl,rfl,rfl⟩
theorem F.fi112_1:FI Tryz.prog 112 1 107 1:=⟨_,_,Tryz.underlying112,rfl,rfl,rfl⟩
theorem F.one107:One Tryz.prog 107:=⟨by unfold aggB;rw[Tryz.underlying107],by rw[Tryz.underlying107];simp⟩
theorem F.ti107:TI Tryz.prog 107 (.slice none 0 0) 1 24:=TI.of kr
theorem zHo {sA wA:Option Addr} {n sc wc:Nat} {m:Mor} (h3:n<=3) (hm:MOk m) (w:World) (hx:RdMM n w ((sA,sc),(wA,wc),m)):Calls Tryz.prog 78 #[.agg #[.slice sA n sc,.slice wA n wc]] w fun e w'=>e=.returned (.int .i64 ((cdM m n:Nat):Int))∧Grew w w' []:=by
 refine enter (N:=29) [(0,.agg #[.slice sA n sc,.slice wA n wc])] Tryz.func78 J Tryz.ntmps78 J J (csr (jM J J ?_));intro b1;refine lax J J (csr (lax J J (zD (csr (lax J J (zU (qR (G:=Nat) (fun k=>k<=n) (fun k=>n-k) (fun k=>[(1,pt b1),(3,.int .i64 ((cdM m k:Nat):Int)),(4,.int .i64 (k:Int))]) (fun k=>[.blk b1 (.cells #[.slice sA n sc,.slice wA n wc] 112 (0,0))]) 0 (Nat.zero_le _) sbn sbl ?_)))))));intro k hk;(try dsimp only at hk ⊢);refine zD (csr (zA J J (zI J J F.fi112_0 F.ti23 (zQ J J F.one23 (jP J J U23 (zG J J J jY ?_))))))
 refine lnx (zJ J (fun hc0=>?_) (fun hc0=>?_))
 ·have hk':k<n:=om;have h9:cdM m k<1000:=Nat.lt_of_lt_of_le (zI0 hm k) (Nat.pow_le_pow_right om (show k<=3 by omega));have h7:=mok4 hm k;obtain⟨bs,so,hsA,hbs,hcs⟩:=hx.s (by rw[zHc];omega);obtain⟨bw,wo,hwA,hbw,hcw⟩:=hx.w (by rw[zKu];omega);refine zP (zE (zD (zU (csr (zA J J (zG (v:=.int .i64 ((cdM m k*10:Nat):Int)) J J J (fun w=>zDc w (by rw[zV _ om om];omega)) (zI J J F.fi112_0 F.ti23 (zQ J J F.one23 (zA J J (kF (j:=k) J (show _=some (Value.slice (some ⟨bs,so,none⟩) n sc) from by rw[<-hsA];rfl) J Tryz.underlying23 F.ti3 J hk' (kE (v:=.int .i64 ((m.s.getD k 0:Nat):Int)) J J F.one3 (fun a w ha=>ha.old (hcs k _ (zO1 hk') 0 _ J) hbs) (zG (v:=.int .i64 ((2*m.s.getD k 0:Nat):Int)) J J J (fun w=>zDc w (by rw[zV _ om om];omega)) (zG (v:=.int .i64 ((cdM m k*10+2*m.s.getD k 0:Nat):Int)) J J J (fun w=>jL w (by rw[zV _ om om];omega)) (lax J J (csr (zI J J F.fi112_1 F.ti107 (zQ J J F.one107 (zA J J (kF (j:=k) J (show _=some (Value.slice (some ⟨bw,wo,none⟩) n wc) from by rw[<-hwA];rfl) J Tryz.underlying107 F.ti4 J hk' (kE (v:=.bool (m.w.testBit k)) J J F.one4 (fun a w ha=>ha.old (hcw k _ (zVm hk') 0 _ J) hbw) ?_))))))))))))))))))))
  refine lnx (kI J (fun hc1=>?_) (fun hc1=>?_))
  ·refine zM (zA J J (zG (v:=.int .i64 ((cdM m (k+1):Nat):Int)) J J J (fun w=>jL w (by rw[zV _ om om];rw[jEk hc1];omega)) (zH J J (zB (zK (zE (zM (zA J J (zG J J J (fun w=>jL w (zV _ om om)) (zH J J (zB (qC (k+1) om tdo sbn sbl))))))))))))
  ·refine zP (zK (zE (zM (zA J J (zG J J J (fun w=>jL w (zV _ om om)) (zH J J (zB (qC (k+1) om tdo (by repeat (first|exact Sub.nil _|refine Sub.cons J ?_|refine Sub.cons (by rw[jEh hc1];rfl) ?_)) sbl))))))))
 ·obtain rfl:k=n:=om;exact jT (zL (zL (jF (zE (csr (zA J J (lax J J (zS (zX J (fun a w ha=>jJ J J ha) (fun a w ha=>⟨rfl,ha.grown nsl⟩))))))))))

end
section
theorem zNx (p:Nat->Bool) (i:Nat):∀k,((List.range k).foldl (fun w j=>if p j then wWith w j else w) 0).testBit i=true↔i<k∧p i=true
 | 0=>by simp
 | k+1=>by
  rw[List.range_succ,List.foldl_append];simp only[List.foldl_cons,List.foldl_nil];have ih:=zNx p i k
  by_cases hp:p k=true
  ·rw[if_pos hp];rw[show ∀w,wWith w k=w ||| 2^k from fun _=>rfl,Nat.testBit_or,Bool.or_eq_true,ih,Nat.testBit_two_pow]
   constructor
   ·rintro (⟨h1,h2⟩|h)
    ·exact⟨by omega,h2⟩
    ·obtain rfl:k=i:=by simpa using h
     exact⟨by omega,hp⟩
   ·rintro⟨h1,h2⟩
    by_cases e:k=i
    ·exact .inr (by simp[e])
    ·exact .inl ⟨by omega,h2⟩
  ·rw[if_neg hp,ih]
   constructor
   ·rintro⟨h1,h2⟩;exact⟨by omega,h2⟩
   ·rintro⟨h1,h2⟩;refine⟨?_,h2⟩
    rcases Nat.lt_or_ge i k with h|h
    ·exact h
    ·obtain rfl:i=k:=om;exact absurd h2 hp
theorem zUl {fs:List Flt} {i:Nat}:(start fs).w.testBit i=true↔i<fs.length∧(fs.getD i default).washed=true:=zNx (fun j=>(fs.getD j default).washed) i fs.length
theorem zYh (fs:List Flt) (i:Nat):(start fs).s.getD i 0=(fs.getD i default).now:=by
 unfold start startN;dsimp only;rw[List.take_length,List.getD_eq_getElem?_getD,List.getElem?_append,List.length_map,List.getD_eq_getElem?_getD]
 split
 ·rename_i h;rw[List.getElem?_map,List.getElem?_eq_getElem h]
  rfl
 ·rename_i h;rw[List.getElem?_eq_none (l:=fs) om]
  cases e:(List.replicate (3-fs.length) 0)[i-fs.length]? with
  | none=>rfl
  | some v =>
   have:=List.mem_of_getElem? e;rw[List.mem_replicate] at this;exact this.2
variable {fs:List Flt} {k:Nat} {x:Flt}
theorem zU7 (hx:fs[k]?=some x):(start fs).s.getD k 0=x.now:=by
 rw[zYh,List.getD_eq_getElem?_getD,hx]
 rfl
theorem zVj (hx:fs[k]?=some x):(start fs).w.testBit k=x.washed:=by
 have hk:k<fs.length:=(List.getElem?_eq_some_iff.1 hx).1;rw[Bool.eq_iff_iff,zUl,List.getD_eq_getElem?_getD,hx];exact⟨fun h=>h.2,fun h=>⟨hk,h⟩⟩
theorem yT (n:Nat) (m:Mor):ints (sts (n+1) m)=ints (sts n m)++[.int .i64 ((m.s.getD n 0:Nat):Int)]:=by unfold ints;rw[zOk,List.map_append];rfl
theorem yN (n:Nat) (m:Mor):bools (wbs (n+1) m)=bools (wbs n m)++[.bool (m.w.testBit n)]:=by rw[zWe,zTd]
end
section
variable [I:Sys]
theorem F.agg112:aggB Tryz.prog 112=true:=by unfold aggB;rw[Tryz.underlying112]
theorem F.ti112:TI Tryz.prog 112 (.agg #[.slice none 0 0,.slice none 0 0]) 2 48:=TI.of kr
theorem zWy {fA dA:Option Addr} {fc nd dc kiln:Nat} {fs:List Flt} (h3:fs.length<=3) (w:World) (hA:RdL Flt.cells 4 w fA fs):Calls Tryz.prog 101 #[.agg (CA fA fs.length fc kiln dA nd dc).toArray] w fun e w'=>∃sA sc wA wc,e=.returned (.agg (mmc fs.length ((sA,sc),(wA,wc),start fs)).toArray)∧Grew w w' (mmr fs.length ((sA,sc),(wA,wc),start fs)):=by
 refine enter (N:=35) [(0,.agg (CA fA fs.length fc kiln dA nd dc).toArray)] Tryz.func101 J Tryz.ntmps101 J J (csr (jM J J ?_));intro b1;refine zZ J F.ti112 ?_;intro b2;refine lnx (csr (zZ J F.ti112 ?_));intro b3;refine lnx (zD (csr (lax J J (zU (zAo 3 1 (zAo 4 1 (xH (G:=(Option Addr×Nat)×(Option Addr×Nat)×Nat) (fun g=>g.2.2<=fs.length) (fun g=>fs.length-g.2.2) (fun g=>[(1,pt b1),(2,pt b2),(3,pt b3),(4,.int .i64 (g.2.2:Int))]) (fun g=>[.row 3 1 g.1.1 g.2.2 g.1.2 (ints (sts g.2.2 (start fs))),.row 4 1 g.2.1.1 g.2.2 g.2.1.2 (bools (wbs g.2.2 (start fs))),.blk b3 (.cells #[.slice g.1.1 g.2.2 g.1.2,.slice g.2.1.1 g.2.2 g.2.1.2] 112 (0,0)),.blk b2 (.cells #[.slice none 0 0,.slice none 0 0] 112 (0,0)),.blk b1 (.cells (CA fA fs.length fc kiln dA nd dc).toArray 25 (0,0))]) ((none,0),(none,0),0) (Nat.zero_le _) sbn pkk ?_)))))));rintro⟨⟨sA,sc⟩,⟨wA,wc⟩,k⟩ hk;dsimp only at hk ⊢;refine zD (csr (zA J J (zI J J F.fi25_0 F.ti22 (zQ J J F.one22 (jP J J U22 (zG J J J jY ?_))))))
 refine lnx (zJ J (fun hc0=>?_) (fun hc0=>?_))
 ·have hk':k<fs.length:=om;obtain⟨bf,bo,hfA,hbf,hcf⟩:=hA om;obtain⟨x,hx⟩:∃x,fs[k]?=some x:=⟨_,List.getElem?_eq_getElem hk'⟩;have hx1:=zU7 hx;have hx2:=zVj hx
  refine zP (zE (zD (zU (xK (G:=(Option Addr×Nat)×(Option Addr×Nat)×Unit) (fun _=>True) (fun g=>[(1,pt b1),(2,pt b2),(3,pt b3),(4,.int .i64 (k:Int))]) (fun g=>[.row 3 1 g.1.1 (k+1) g.1.2 (ints (sts (k+1) (start fs))),.row 4 1 g.2.1.1 (k+1) g.2.1.2 (bools (wbs (k+1) (start fs))),.blk b3 (.cells #[.slice g.1.1 (k+1) g.1.2,.slice g.2.1.1 (k+1) g.2.1.2] 112 (0,0)),.blk b2 (.cells #[.slice none 0 0,.slice none 0 0] 112 (0,0)),.blk b1 (.cells (CA fA fs.length fc kiln dA nd dc).toArray 25 (0,0))]) ?_ ?_))))
  ·refine zJ3 21 ([.blk b3 (.cells #[.slice sA k sc,.slice wA k wc] 112 (0,0)),.blk b1 (.cells (CA fA fs.length fc kiln dA nd dc).toArray 25 (0,0))]) ([]) F.follows 24 J [false,false,false,false,false,false,false,false,false,false,false,false,false,false,false,false,false,false,false,false,false,false,false,false] J (kY 0 [0,21] J J J (zT J F.fi112_0 F.ti23) (kY 1 [1,21] J J J (jN J F.one23) (kY 2 [2,21] J J J (zT J F.fi25_0 F.ti22) (kY 3 [3,21] J J J (jN J F.one22) (kY 4 [4,21] J J J (zW J) (kY 5 [5,21] J J J (kQ (j:=k) (show _=some (Value.slice (some ⟨bf,bo,none⟩) fs.length fc) from by rw[<-hfA];rfl) J Tryz.underlying22 F.ti27 J hk') (kY 6 [6,21] J J J (xM J F.fi27_2 F.ti3) (kY 7 [7,21] J J J (kL (v:=.int .i64 (x.now:Int)) J F.one3 (fun a w ha=>ha.old (hcf k x hx 2 _ J) hbf)) (kY 10 [10,21] J J J (zT J F.fi112_1 F.ti107) (kY 11 [11,21] J J J (jN J F.one107) (kY 12 [12,13,15,16,17,18,19,21] J J J (zT J F.fi25_0 F.ti22) (kY 13 [13,15,16,17,18,19,21] J J J (jN J F.one22) (kY 14 [14,15,16,17,18,19,21] J J J (zW J) (kY 15 [15,16,17,18,19,21] J J J (kQ (j:=k) (show _=some (Value.slice (some ⟨bf,bo,none⟩) fs.length fc) from by rw[<-hfA];rfl) J Tryz.underlying22 F.ti27 J hk') (kY 16 [16,17,18,19,21] J J J (xM J F.fi27_3 F.ti4) (kY 17 [17,18,19,21] J J J (kL (v:=.bool x.washed) J F.one4 (fun a w ha=>ha.old (hcf k x hx 3 _ J) hbf)) ?_))))))))))))))))
   refine kK [8,18] ⟨⟨_,rfl,?_⟩,⟨_,rfl,?_⟩,trivial⟩
   ·refine jX (vs:=[(0,_)]) J J U23 F.ti3 J J J ?_;intro b20;refine zB (qG ?_)
    refine kK [9,18] ⟨⟨_,rfl,?_⟩,⟨_,rfl,?_⟩,trivial⟩
    ·refine kH J J J Tryz.underlying23 F.ti3 J J J (by unfold maxLen;omega) om ?_;intro A9 c9;refine zB (qG (kY 20 [20,21] J J J (zT J F.fi112_0 F.ti23) (kK [18] ⟨⟨_,rfl,?_⟩,trivial⟩)));refine jX (vs:=[(0,_)]) J J U107 F.ti4 J J J ?_;intro b30;refine zB (qG (kK [19] ⟨⟨_,rfl,?_⟩,trivial⟩));refine kH J J J Tryz.underlying107 F.ti4 J J J (by unfold maxLen;omega) om ?_;intro A10 c10;refine zB (qG (kK [21] ⟨⟨_,rfl,?_⟩,trivial⟩));refine zF J J F.ti23 J (zB (xG (kK [22] ⟨⟨_,rfl,?_⟩,trivial⟩)));refine zI J J F.fi112_1 F.ti107 (zB (xG (kK [23] ⟨⟨_,rfl,?_⟩,trivial⟩)));refine zF J J F.ti107 J (zB (xG (zA3 J kr (jV ((_,_),(_,_),()) trivial sbn (by dsimp only;rw[yT,yN,hx1,hx2];repeat (first|exact Pck.nil _|exact Pck.refl _|(apply Pck.cons;focus ((repeat (first|exact Rem.here _|apply Rem.there));done))|refine Pck.skip _ ?_))))))
    ·refine jX (vs:=[(0,_)]) J J U107 F.ti4 J J J ?_;intro b30;refine zB (qG (kK [9] ⟨⟨_,rfl,?_⟩,trivial⟩));refine kH J J J Tryz.underlying23 F.ti3 J J J (by unfold maxLen;omega) om ?_;intro A9 c9;refine zB (qG (kY 20 [20,21] J J J (zT J F.fi112_0 F.ti23) (kK [19] ⟨⟨_,rfl,?_⟩,trivial⟩)));refine kH J J J Tryz.underlying107 F.ti4 J J J (by unfold maxLen;omega) om ?_;intro A10 c10;refine zB (qG (kK [21] ⟨⟨_,rfl,?_⟩,trivial⟩));refine zF J J F.ti23 J (zB (xG (kK [22] ⟨⟨_,rfl,?_⟩,trivial⟩)));refine zI J J F.fi112_1 F.ti107 (zB (xG (kK [23] ⟨⟨_,rfl,?_⟩,trivial⟩)));refine zF J J F.ti107 J (zB (xG (zA3 J kr (jV ((_,_),(_,_),()) trivial sbn (by dsimp only;rw[yT,yN,hx1,hx2];repeat (first|exact Pck.nil _|exact Pck.refl _|(apply Pck.cons;focus ((repeat (first|exact Rem.here _|apply Rem.there));done))|refine Pck.skip _ ?_))))))
   ·refine jX (vs:=[(0,_)]) J J U107 F.ti4 J J J ?_;intro b30;refine zB (qG (kK [8] ⟨⟨_,rfl,?_⟩,trivial⟩));refine jX (vs:=[(0,_)]) J J U23 F.ti3 J J J ?_;intro b20;refine zB (qG (kK [9] ⟨⟨_,rfl,?_⟩,trivial⟩));refine kH J J J Tryz.underlying23 F.ti3 J J J (by unfold maxLen;omega) om ?_;intro A9 c9;refine zB (qG (kY 20 [20,21] J J J (zT J F.fi112_0 F.ti23) (kK [19] ⟨⟨_,rfl,?_⟩,trivial⟩)));refine kH J J J Tryz.underlying107 F.ti4 J J J (by unfold maxLen;omega) om ?_;intro A10 c10;refine zB (qG (kK [21] ⟨⟨_,rfl,?_⟩,trivial⟩));refine zF J J F.ti23 J (zB (xG (kK [22] ⟨⟨_,rfl,?_⟩,trivial⟩)));refine zI J J F.fi112_1 F.ti107 (zB (xG (kK [23] ⟨⟨_,rfl,?_⟩,trivial⟩)));refine zF J J F.ti107 J (zB (xG (zA3 J kr (jV ((_,_),(_,_),()) trivial sbn (by dsimp only;rw[yT,yN,hx1,hx2];repeat (first|exact Pck.nil _|exact Pck.refl _|(apply Pck.cons;focus ((repeat (first|exact Rem.here _|apply Rem.there));done))|refine Pck.skip _ ?_))))))
  ·rintro⟨⟨sA2,sc2⟩,⟨wA2,wc2⟩,⟨⟩⟩ -;dsimp only;refine zK (zE (zM (zA J J (zG J J J (fun w=>jL w (zV _ om om)) (zH J J (zB (qI ((sA2,sc2),(wA2,wc2),k+1) tdo tdo sbn pkk)))))))
 ·obtain rfl:k=fs.length:=om;exact jT (zL (zL (jF (zE (csr (jB J J F.agg112 F.ti112 (zF J J F.ti112 J (lnx (zS (zX J (fun a w ha=>by exact qS (ha:=ha) J J F.agg112 F.ti112 J) (fun a w ha=>⟨sA,sc,wA,wc,rfl,ha.grown (.cons_cons _ (.cons_cons _ nsl))⟩)))))))))))

end
section
variable {fs:List Flt} {j:Nat} {m:Mor}
def wsh (i:Nat) (b:Bool) (l:List Nat):Bool:=(b||l.getD i 0==2)&&l.getD i 0 != 3
theorem zZq {a:Nat×Mor} {i kind:Nat} (hi:i<3) (hj:j<3):(dStep fs m a i kind).2.w.testBit j=if i=j then ((a.2.w.testBit j||kind==2)&&kind != 3) else a.2.w.testBit j:=by
 unfold dStep;dsimp only
 split
 ·rename_i h;subst h;simp
 ·split
  ·rename_i h;subst h;dsimp only;unfold wWith;rw[Nat.testBit_or,Nat.testBit_two_pow];by_cases e:i=j<;>simp[e]
  ·split
   ·rename_i h;subst h;dsimp only;unfold wOut;rw[Nat.testBit_and];have h7:∀i:Fin 3,∀j:Fin 3,(7-2^i.1).testBit j.1=decide (i.1≠j.1):=by decide
    rw[h7 ⟨i,hi⟩ ⟨j,hj⟩];by_cases e:i=j<;>simp[e]
   ·rename_i h1 h2 h3;dsimp only;have e2:(kind==2)=false:=by simpa using h2
    have e3:(kind != 3)=true:=by simpa using h3
    rw[e2,e3];simp
theorem zGv {acts:List Nat} {s:Nat} (hj:j<3):∀k,k<=3->(dRun fs m acts s k).2.w.testBit j=if j<k then wsh j (m.w.testBit j) acts else m.w.testBit j
 | 0,_=>by simp[dRun]
 | k+1,hk=>by
  rw[wP,zZq om hj,zGv hj k om]
  by_cases e:k=j
  ·subst e;rw[if_pos J,if_neg (Nat.lt_irrefl _),if_pos (Nat.lt_succ_self _)]
   rfl
  ·rw[if_neg e]
   by_cases h:j<k
   ·rw[if_pos h,if_pos om]
   ·rw[if_neg h,if_neg om]
end
end Go.Proofs.YteppiphdbondeaaGreat.N
namespace Go.Proofs.YteppiphdbondeaaGreat.N
open Go Go.RowKit Go.Proofs
set_option linter.unusedSectionVars false
theorem zJa {l:List Nat} {k v:Nat} (h:k<l.length):(l.set k v).getD k 0=v:=by
 rw[List.getD_eq_getElem?_getD,List.getElem?_set_self h]
 rfl
theorem zHn {l:List Nat} {i k v:Nat} (h:i≠k):(l.set k v).getD i 0=l.getD i 0:=by
 rw[List.getD_eq_getElem?_getD,List.getElem?_set_ne (Ne.symm h),List.getD_eq_getElem?_getD]
section
variable {fs:List Flt} {m:Mor} {acts:List Nat} {s k x:Nat} {f:Flt}
theorem zY5 (h3:k<(dRun fs m acts s k).2.s.length) (hx:acts[k]?=some x) (hf:fs[k]?=some f) :
  (dRun fs m acts s (k+1)).2.s.getD k 0=if x=0 then m.s.getD k 0-min (dRun fs m acts s k).1 (m.s.getD k 0) else if x=2 then min f.power (m.s.getD k 0+f.gain) else if x=3 then f.power else m.s.getD k 0:=by
 have e:acts.getD k 0=x:=by rw[List.getD_eq_getElem?_getD,hx];rfl
 have e2:fs.getD k default=f:=by rw[List.getD_eq_getElem?_getD,hf];rfl
 rw[wP,e];unfold dStep;rw[e2];dsimp only
 split
 ·exact zJa h3
 ·split
  ·exact zJa h3
  ·split
   ·exact zJa h3
   ·exact zJa h3
theorem zWm (hx:acts[k]?=some x):(dRun fs m acts s (k+1)).1=if x=0 then (dRun fs m acts s k).1-min (dRun fs m acts s k).1 (m.s.getD k 0) else (dRun fs m acts s k).1:=by
 have e:acts.getD k 0=x:=by rw[List.getD_eq_getElem?_getD,hx];rfl
 rw[wP,e];unfold dStep;dsimp only
 split
 ·rfl
 ·split
  ·rfl
  ·split<;>rfl
theorem zLe:sts k (dRun fs m acts s (k+1)).2=sts k (dRun fs m acts s k).2:=by
 unfold sts;refine List.map_congr_left fun i hi=>?_;have hi:=List.mem_range.1 hi;rw[wP];unfold dStep;dsimp only
 split
 ·exact zHn om
 ·split
  ·exact zHn om
  ·split
   ·exact zHn om
   ·exact zHn om
theorem zZj (hk:k<3) (hx:acts[k]?=some x):(dRun fs m acts s (k+1)).2.w.testBit k=((m.w.testBit k||x==2)&&x != 3):=by
 have e:acts.getD k 0=x:=by rw[List.getD_eq_getElem?_getD,hx];rfl
 rw[zGv hk (k+1) om,if_pos om];unfold wsh;rw[e]
theorem zLi (hk:k<3):wbs k (dRun fs m acts s (k+1)).2=wbs k (dRun fs m acts s k).2:=by
 unfold wbs;refine List.map_congr_left fun i hi=>?_;have hi:=List.mem_range.1 hi;rw[zGv om (k+1) om,zGv om k om,if_pos om,if_pos hi]
end
end Go.Proofs.YteppiphdbondeaaGreat.N
namespace Go.Proofs.YteppiphdbondeaaGreat.N
open Go Go.RowKit Go.Proofs
def StpR (D:Nat×Mor) (n:Nat) (w:World) (e:Ending) (w':World):Prop :=
 (D.1=0∧∃sA sc wA wc,e=.returned (.tuple #[.agg (mmc n ((sA,sc),(wA,wc),D.2)).toArray,.int .i64 0])∧Grew w w' (mmr n ((sA,sc),(wA,wc),D.2))) ∨
 (D.1≠0∧e=.returned (.tuple #[.agg #[.slice none 0 0,.slice none 0 0],.int .i64 (D.1:Int)])∧Grew w w' [])
end Go.Proofs.YteppiphdbondeaaGreat.N
namespace Go.Proofs.YteppiphdbondeaaGreat.N
set_option linter.unusedSectionVars false
open Go.RowKit
section
variable [I:Sys]
theorem F.pl112:Places Tryz.prog 112 [(0,1),(1,1)]:=.inl ⟨_,Tryz.underlying112,by kernel_rfl⟩
theorem zHd {fA dA mA vA jA:Option Addr} {fc nd dc kiln mc vc jc sugar:Nat} {fs:List Flt} {m:Mor} {acts:List Nat} (h3:fs.length<=3) (hf:∀f∈fs,FltOk f) (hm:MOk m) (hl:acts.length=fs.length) (hs:sugar<=1000) (w:World) (hA:RdL Flt.cells 4 w fA fs) (hM:RdMM fs.length w ((mA,mc),(vA,vc),m)) (hJ:RdL ncell 1 w jA acts):Calls Tryz.prog 77 #[.agg (CA fA fs.length fc kiln dA nd dc).toArray,.int .i64 ((sugar:Nat):Int),.agg #[.slice mA fs.length mc,.slice vA fs.length vc],.slice jA acts.length jc] w fun e w'=>StpR (dayE fs kiln m acts sugar) fs.length w e w':=by
 refine enter (N:=91) [(0,.agg (CA fA fs.length fc kiln dA nd dc).toArray),(1,.int .i64 ((sugar:Nat):Int)),(2,.agg #[.slice mA fs.length mc,.slice vA fs.length vc]),(3,.slice jA acts.length jc)] Tryz.func77 J Tryz.ntmps77 J J (csr (jM J J ?_));intro b4;refine jM J J ?_;intro b6;refine zZ J F.ti112 ?_;intro b8;refine lax J J (csr (zZ J F.ti112 ?_));intro b10;refine lnx (csr (lax J J (zD (csr (lax J J (zU (zAo 3 1 (zAo 4 1 (xH (G:=(Option Addr×Nat)×(Option Addr×Nat)×Nat) (fun g=>g.2.2<=acts.length∧barred m acts g.2.2=false) (fun g=>acts.length-g.2.2) (fun g=>[(1,.int .i64 (((dRun fs m acts sugar g.2.2).1:Nat):Int)),(3,.slice jA acts.length jc),(4,pt b4),(6,pt b6),(8,pt b8),(9,.int .i64 0),(10,pt b10),(11,.int .i64 ((firesN acts g.2.2:Nat):Int)),(12,.int .i64 (g.2.2:Int))]) (fun g=>[.row 3 1 g.1.1 g.2.2 g.1.2 (ints (sts g.2.2 (dRun fs m acts sugar g.2.2).2)),.row 4 1 g.2.1.1 g.2.2 g.2.1.2 (bools (wbs g.2.2 (dRun fs m acts sugar g.2.2).2)),.blk b10 (.cells #[.slice g.1.1 g.2.2 g.1.2,.slice g.2.1.1 g.2.2 g.2.1.2] 112 (0,0)),.blk b8 (.cells #[.slice none 0 0,.slice none 0 0] 112 (0,0)),.blk b6 (.cells #[.slice mA fs.length mc,.slice vA fs.length vc] 112 (0,0)),.blk b4 (.cells (CA fA fs.length fc kiln dA nd dc).toArray 25 (0,0))]) ((none,0),(none,0),0) ⟨Nat.zero_le _,rfl⟩ sbn pkk ?_)))))))));rintro⟨⟨sA,sc⟩,⟨wA,wc⟩,k⟩ hk;dsimp only at hk ⊢;refine zD (csr (zA J J (zA J J (jP J J U23 (zG J J J jY ?_)))))
 refine lnx (zJ J (fun hc0=>?_) (fun hc0=>?_))
 ·obtain⟨hk,hbar⟩:=hk;have hk':k<acts.length:=om;have hkf:k<fs.length:=om;obtain⟨bf,bo,hfA,hbf,hcf⟩:=hA om;obtain⟨f,hfx⟩:∃f,fs[k]?=some f:=⟨_,List.getElem?_eq_getElem hkf⟩;obtain⟨bj,jo,hjA,hbj,hcj⟩:=hJ om;obtain⟨x,hx⟩:∃x,acts[k]?=some x:=⟨_,List.getElem?_eq_getElem hk'⟩;obtain⟨bs,so,hsA,hbs,hcs⟩:=hM.s (by rw[zHc];omega);obtain⟨bw,wo,hwA,hbw,hcw⟩:=hM.w (by rw[zKu];omega);obtain⟨hok,hsle⟩:=zHg (acts:=acts) (sugar:=sugar) hf hm k om om;have h4:=mok4 hm k;obtain⟨hf1,hf2,hf3,hf4⟩:=hf f (List.mem_of_getElem? hfx);have e1:=zWm (fs:=fs) (m:=m) (s:=sugar) hx;have e2:=zY5 (s:=sugar) (m:=m) (by rw[hok.three];omega) hx hfx;have e3:=zZj (fs:=fs) (m:=m) (s:=sugar) om hx;have e4:=zJd hx;have hfl:=zPn acts k;refine zP (zE (zD (zU (zD (jU [] F.follows 19 J [false,false,false,false,false,false,false,false,false,false,false,false,false,false,false,false,false,false,false] J (zC 0 J J J (zT J F.fi25_0 F.ti22) (zC 1 J J J (jN J F.one22) (zC 2 J J J (zW J) (zC 3 J J J (kQ (j:=k) (show _=some (Value.slice (some ⟨bf,bo,none⟩) fs.length fc) from by rw[<-hfA];rfl) J Tryz.underlying22 F.ti27 J hkf) (zC 4 J J J (vB (l:=[.int .i64 (f.power:Int),.int .i64 (f.gain:Int),.int .i64 (f.now:Int),.bool f.washed]) J F.agg27 F.ti27 J (fun a w ha j u hu=>ha.old (hcf k f hfx j u hu) hbf)) (zC 5 J J J (zT J F.fi112_0 F.ti23) (zC 6 J J J (jN J F.one23) (zC 7 J J J (zW J) (zC 8 J J J (kQ (j:=k) (show _=some (Value.slice (some ⟨bs,so,none⟩) fs.length mc) from by rw[<-hsA];rfl) J Tryz.underlying23 F.ti3 J hkf) (zC 9 J J J (kL (v:=.int .i64 ((m.s.getD k 0:Nat):Int)) J F.one3 (fun a w ha=>ha.old (hcs k _ (zO1 hkf) 0 _ J) hbs)) (zC 10 J J J (zT J F.fi112_1 F.ti107) (zC 11 J J J (jN J F.one107) (zC 12 J J J (zW J) (zC 13 J J J (kQ (j:=k) (show _=some (Value.slice (some ⟨bw,wo,none⟩) fs.length vc) from by rw[<-hwA];rfl) J Tryz.underlying107 F.ti4 J hkf) (zC 14 J J J (kL (v:=.bool (m.w.testBit k)) J F.one4 (fun a w ha=>ha.old (hcw k _ (zVm hkf) 0 _ J) hbw)) (an1 15 J (zZ J F.ti27 ?_))))))))))))))))))))));intro b13;refine zB (anb (an1 16 J (zF J J F.ti27 J (zB (anb (zC 17 J J J (jW J) (zC 18 J J J (jW J) (adn (zE (zD (csr (zA J J (zA J J (kF (j:=k) J (show _=some (Value.slice (some ⟨bj,jo,none⟩) acts.length jc) from by rw[<-hjA];rfl) J Tryz.underlying23 F.ti3 J hk' (kE (v:=.int .i64 (x:Int)) J J F.one3 (fun a w ha=>ha.old (hcj k x hx 0 _ J) hbj) (lnx (zU (csr (zG J J J kD ?_)))))))))))))))))))
  refine lax J J (xK (G:=Unit) (fun _=>barred m acts (k+1)=false) (fun _=>[(1,.int .i64 (((dRun fs m acts sugar (k+1)).1:Nat):Int)),(3,.slice jA acts.length jc),(4,pt b4),(6,pt b6),(8,pt b8),(9,.int .i64 0),(10,pt b10),(11,.int .i64 ((firesN acts (k+1):Nat):Int)),(12,.int .i64 (k:Int)),(14,.int .i64 (((dRun fs m acts sugar (k+1)).2.s.getD k 0:Nat):Int)),(15,.bool ((dRun fs m acts sugar (k+1)).2.w.testBit k))]) (fun _=>[.row 3 1 sA k sc (ints (sts k (dRun fs m acts sugar k).2)),.row 4 1 wA k wc (bools (wbs k (dRun fs m acts sugar k).2)),.blk b10 (.cells #[.slice sA k sc,.slice wA k wc] 112 (0,0)),.blk b8 (.cells #[.slice none 0 0,.slice none 0 0] 112 (0,0)),.blk b6 (.cells #[.slice mA fs.length mc,.slice vA fs.length vc] 112 (0,0)),.blk b4 (.cells (CA fA fs.length fc kiln dA nd dc).toArray 25 (0,0))]) ?_ ?_)
  ·refine zJ J (fun hc1=>?_) (fun hc1=>?_)
   ·have h0:x=0:=om;rw[if_pos h0,Nat.min_comm] at e1 e2;have e3:(dRun fs m acts sugar (k+1)).2.w.testBit k=m.w.testBit k:=by rw[e3,h0];simp
    rw[if_neg om,Nat.add_zero] at e4;refine csr (zA J J (zA J J (zHf J J J ?_)));rw[zKq];exact lax J J (csr (zA J J (zA J J (zG (v:=.int .i64 ((m.s.getD k 0-min (m.s.getD k 0) (dRun fs m acts sugar k).1:Nat):Int)) J J J (fun w=>qN w (by rw[zV _ om om];omega)) (lax J J (zM (zA J J (zA J J (zG (v:=.int .i64 (((dRun fs m acts sugar k).1-min (m.s.getD k 0) (dRun fs m acts sugar k).1:Nat):Int)) J J J (fun w=>qN w (by rw[zV _ om om];omega)) (zH J J (zB (jV () (zAq hx hbar (by rw[decide_eq_false om];rfl)) (by rw[e1,e2,e3,e4];repeat (first|exact Sub.nil _|refine Sub.cons J ?_)) pkk))))))))))))
   ·rw[if_neg om] at e1 e2;refine csr (zG J J J kD ?_)
    refine lax J J (zJ J (fun hc2=>?_) (fun hc2=>?_))
    ·have h0:x=2:=om;rw[if_pos h0] at e2;have e3:(dRun fs m acts sugar (k+1)).2.w.testBit k=true:=by rw[e3,h0];simp
     rw[if_neg om,Nat.add_zero] at e4
     refine zD (csr (zA J J (lnx (kI J (fun hc3=>?_) (fun hc3=>?_)))))
     ·exact csr (kA (vs:=[]) (l':=[_,_]) J J F.ti112 F.pl112 (.nil _) J (zF J J F.ti112 J (lax J J (zS (zO (zO (jO (zO (jO (zO (zO (jO (zO (zX J (fun a w ha=>by exact zAx (ha:=ha) J J J F.agg112 F.ti112 J) (fun a w ha=>.inr ⟨by rw[day12 (zG4 hx (by rw[h0,hc3];rfl))];simp,by rw[day12 (zG4 hx (by rw[h0,hc3];rfl))];rfl,ha.grown nsl⟩)))))))))))))))
     ·refine zP (zE (csr (zI J J F.fi27_0 F.ti3 (zQ J J F.one3 (zA J J (zI J J F.fi27_1 F.ti3 (zQ J J F.one3 (zG (v:=.int .i64 ((m.s.getD k 0+f.gain:Nat):Int)) J J J (fun w=>jL w (by rw[zV _ om om];omega)) (zHf J J J ?_)))))))));rw[zKq];exact lax J J (zM (zH J J (zB (jV () (zAq hx hbar (by rw[hc3,Bool.and_false])) (by rw[e1,e2,e3,e4];repeat (first|exact Sub.nil _|refine Sub.cons J ?_)) pkk))))
    ·rw[if_neg om] at e2;refine csr (zG J J J kD ?_)
     refine lax J J (zJ J (fun hc4=>?_) (fun hc4=>?_))
     ·have h0:x=3:=om;rw[if_pos h0] at e2;have e3:(dRun fs m acts sugar (k+1)).2.w.testBit k=false:=by rw[e3,h0];simp
      rw[if_pos om] at e4;exact csr (zI J J F.fi27_0 F.ti3 (zQ J J F.one3 (lax J J (csr (lax J J (zM (zA J J (zG (v:=.int .i64 ((firesN acts k+1:Nat):Int)) J J J (fun w=>jL w (by rw[zV _ om om];omega)) (zH J J (zB (jV () (zAq hx hbar (by rw[decide_eq_false om];rfl)) (by rw[e1,e2,e3,e4];repeat (first|exact Sub.nil _|refine Sub.cons J ?_)) pkk)))))))))))
     ·rw[if_neg om] at e2;have e3:(dRun fs m acts sugar (k+1)).2.w.testBit k=m.w.testBit k:=by rw[e3,beq_false_of_ne om,bne_iff_ne.2 om,Bool.or_false,Bool.and_true]
      rw[if_neg om,Nat.add_zero] at e4;exact zP (jV () (zAq hx hbar (by rw[decide_eq_false om];rfl)) (by rw[e1,e2,e3,e4];repeat (first|exact Sub.nil _|refine Sub.cons J ?_)) pkk)
  ·rintro⟨⟩ hbk;(try dsimp only)
   refine zK (zE (xK (G:=(Option Addr×Nat)×(Option Addr×Nat)×Unit) (fun _=>True) (fun g=>[(1,.int .i64 (((dRun fs m acts sugar (k+1)).1:Nat):Int)),(3,.slice jA acts.length jc),(4,pt b4),(6,pt b6),(8,pt b8),(9,.int .i64 0),(10,pt b10),(11,.int .i64 ((firesN acts (k+1):Nat):Int)),(12,.int .i64 (k:Int))]) (fun g=>[.row 3 1 g.1.1 (k+1) g.1.2 (ints (sts (k+1) (dRun fs m acts sugar (k+1)).2)),.row 4 1 g.2.1.1 (k+1) g.2.1.2 (bools (wbs (k+1) (dRun fs m acts sugar (k+1)).2)),.blk b10 (.cells #[.slice g.1.1 (k+1) g.1.2,.slice g.2.1.1 (k+1) g.2.1.2] 112 (0,0)),.blk b8 (.cells #[.slice none 0 0,.slice none 0 0] 112 (0,0)),.blk b6 (.cells #[.slice mA fs.length mc,.slice vA fs.length vc] 112 (0,0)),.blk b4 (.cells (CA fA fs.length fc kiln dA nd dc).toArray 25 (0,0))]) ?_ ?_))
   ·refine zJ3 11 ([.blk b10 (.cells #[.slice sA k sc,.slice wA k wc] 112 (0,0))]) ([]) F.follows 14 J [false,false,false,false,false,false,false,false,false,false,false,false,false,false] J (kY 0 [0,11] J J J (zT J F.fi112_0 F.ti23) (kY 1 [1,11] J J J (jN J F.one23) (kY 2 [2,11] J J J (zW J) (kY 5 [5,11] J J J (zT J F.fi112_1 F.ti107) (kY 6 [6,11] J J J (jN J F.one107) (kY 7 [7,8,9,11] J J J (zW J) ?_))))))
    refine kK [3,8] ⟨⟨_,rfl,?_⟩,⟨_,rfl,?_⟩,trivial⟩
    ·refine jX (vs:=[(0,_)]) J J U23 F.ti3 J J J ?_;intro b73;refine zB (qG ?_)
     refine kK [4,8] ⟨⟨_,rfl,?_⟩,⟨_,rfl,?_⟩,trivial⟩
     ·refine kH J J J Tryz.underlying23 F.ti3 J J J (by unfold maxLen;omega) om ?_;intro A9 c9;refine zB (qG (kY 10 [10,11] J J J (zT J F.fi112_0 F.ti23) (kK [8] ⟨⟨_,rfl,?_⟩,trivial⟩)));refine jX (vs:=[(0,_)]) J J U107 F.ti4 J J J ?_;intro b78;refine zB (qG (kK [9] ⟨⟨_,rfl,?_⟩,trivial⟩));refine kH J J J Tryz.underlying107 F.ti4 J J J (by unfold maxLen;omega) om ?_;intro A10 c10;refine zB (qG (kK [11] ⟨⟨_,rfl,?_⟩,trivial⟩));refine zF J J F.ti23 J (zB (xG (kK [12] ⟨⟨_,rfl,?_⟩,trivial⟩)));refine zI J J F.fi112_1 F.ti107 (zB (xG (kK [13] ⟨⟨_,rfl,?_⟩,trivial⟩)));refine zF J J F.ti107 J (zB (xG (zA3 J kr (jV ((_,_),(_,_),()) trivial sbn (by dsimp only;rw[yT,yN,zLe,zLi om];repeat (first|exact Pck.nil _|exact Pck.refl _|(apply Pck.cons;focus ((repeat (first|exact Rem.here _|apply Rem.there));done))|refine Pck.skip _ ?_))))))
     ·refine jX (vs:=[(0,_)]) J J U107 F.ti4 J J J ?_;intro b78;refine zB (qG (kK [4] ⟨⟨_,rfl,?_⟩,trivial⟩));refine kH J J J Tryz.underlying23 F.ti3 J J J (by unfold maxLen;omega) om ?_;intro A9 c9;refine zB (qG (kY 10 [10,11] J J J (zT J F.fi112_0 F.ti23) (kK [9] ⟨⟨_,rfl,?_⟩,trivial⟩)));refine kH J J J Tryz.underlying107 F.ti4 J J J (by unfold maxLen;omega) om ?_;intro A10 c10;refine zB (qG (kK [11] ⟨⟨_,rfl,?_⟩,trivial⟩));refine zF J J F.ti23 J (zB (xG (kK [12] ⟨⟨_,rfl,?_⟩,trivial⟩)));refine zI J J F.fi112_1 F.ti107 (zB (xG (kK [13] ⟨⟨_,rfl,?_⟩,trivial⟩)));refine zF J J F.ti107 J (zB (xG (zA3 J kr (jV ((_,_),(_,_),()) trivial sbn (by dsimp only;rw[yT,yN,zLe,zLi om];repeat (first|exact Pck.nil _|exact Pck.refl _|(apply Pck.cons;focus ((repeat (first|exact Rem.here _|apply Rem.there));done))|refine Pck.skip _ ?_))))))
    ·refine jX (vs:=[(0,_)]) J J U107 F.ti4 J J J ?_;intro b78;refine zB (qG (kK [3] ⟨⟨_,rfl,?_⟩,trivial⟩));refine jX (vs:=[(0,_)]) J J U23 F.ti3 J J J ?_;intro b73;refine zB (qG (kK [4] ⟨⟨_,rfl,?_⟩,trivial⟩));refine kH J J J Tryz.underlying23 F.ti3 J J J (by unfold maxLen;omega) om ?_;intro A9 c9;refine zB (qG (kY 10 [10,11] J J J (zT J F.fi112_0 F.ti23) (kK [9] ⟨⟨_,rfl,?_⟩,trivial⟩)));refine kH J J J Tryz.underlying107 F.ti4 J J J (by unfold maxLen;omega) om ?_;intro A10 c10;refine zB (qG (kK [11] ⟨⟨_,rfl,?_⟩,trivial⟩));refine zF J J F.ti23 J (zB (xG (kK [12] ⟨⟨_,rfl,?_⟩,trivial⟩)));refine zI J J F.fi112_1 F.ti107 (zB (xG (kK [13] ⟨⟨_,rfl,?_⟩,trivial⟩)));refine zF J J F.ti107 J (zB (xG (zA3 J kr (jV ((_,_),(_,_),()) trivial sbn (by dsimp only;rw[yT,yN,zLe,zLi om];repeat (first|exact Pck.nil _|exact Pck.refl _|(apply Pck.cons;focus ((repeat (first|exact Rem.here _|apply Rem.there));done))|refine Pck.skip _ ?_))))))
   ·rintro⟨⟨sA2,sc2⟩,⟨wA2,wc2⟩,⟨⟩⟩ -;dsimp only;refine zK (zE (zM (zA J J (zG J J J (fun w=>jL w (zV _ om om)) (zH J J (zB (qI ((sA2,sc2),(wA2,wc2),k+1) ⟨by (try dsimp only);omega,hbk⟩ tdo sbn pkk)))))))
 ·obtain⟨hk,hbar⟩:=hk;obtain rfl:k=acts.length:=om;refine jT (zL (zL (jF (zE (zD (csr (zA J J (zI J J F.fi25_1 F.ti3 (zQ J J F.one3 (zG J J J vN ?_))))))))))
  refine lnx (zJ J (fun hc5=>?_) (fun hc5=>?_))
  ·exact csr (kA (vs:=[]) (l':=[_,_]) J J F.ti112 F.pl112 (.nil _) J (zF J J F.ti112 J (lax J J (zS (zO (zX J (fun a w ha=>by exact zAx (ha:=ha) J J J F.agg112 F.ti112 J) (fun a w ha=>.inr ⟨by rw[day6 hbar om];simp,by rw[day6 hbar om];rfl,ha.grown nsl⟩)))))))
  ·refine zP (zE (zD (csr (zA J J (zG J J J vN ?_)))))
   refine lnx (zJ J (fun hc6=>?_) (fun hc6=>?_))
   ·exact csr (kA (vs:=[]) (l':=[_,_]) J J F.ti112 F.pl112 (.nil _) J (zF J J F.ti112 J (lax J J (zS (zO (zX J (fun a w ha=>by exact zAx (ha:=ha) J J J F.agg112 F.ti112 J) (fun a w ha=>.inr ⟨by rw[day9 hbar om om];simp,by rw[day9 hbar om om];rfl,ha.grown nsl⟩)))))))
   ·exact zP (zE (csr (jB J J F.agg112 F.ti112 (zF J J F.ti112 J (lax J J (zS (zX J (fun a w ha=>by exact zAx (ha:=ha) J J J F.agg112 F.ti112 J) (fun a w ha=>.inl ⟨by rw[day0 hbar om om],sA,sc,wA,wc,by rw[day0 hbar om om,<-hl];rfl,by rw[day0 hbar om om,<-hl];exact ha.grown (.cons_cons _ (.cons_cons _ nsl))⟩))))))))

end
section
section
variable [I:Sys] {C:Ctx} {fr:List (Nat×Value)} {hp hp':List Res} {a:Act} {w:World} {ops:Array Oper} {Q:Exit->Act->World->Prop}
theorem zBg {l:List Oper} (p:hp.Perm hp') (h:Lst C ops Q l fr hp'):Lst C ops Q l fr hp:=fun a w ha=>h a w (ha.permed p)
theorem zGs {mr:List Meta} {k:Nat} {m:Meta} (h:mr.reverse[k]?=some m):(mr.reverse.map mcell)[k]?=some (mcell m):=by rw[List.getElem?_map,h];rfl
end
variable {α:Type}
section
variable [I:Sys] {C:Ctx} {fr:List (Nat×Value)} {hp hp':List Res} {ops:Array Oper} {Q:Exit->Act->World->Prop} {rest:List Oper} {d:Nat} {dst:Option Nat} {ty:TypeId} {pos:String} {after:Array Edge}
theorem zBs {cells:α->List Value} {x y:Operand} {t e:TypeId} {A B:Option Addr} {n c m cb size bytes:Nat} {xs:List Value} {l:List α} {z:Value} {hp':Option Addr->Nat->List Res} (hd:Nat.blt d C.N=true)
  (hx:ev fr x=some (.slice A n c)) (hy:ev fr y=some (.slice B m cb)) (ht:C.P.underlying t=some (.slice e)) (hi:TI C.P e z size bytes) (hzs:z.cells.size=size) (hs0:Nat.blt 0 size=true) (hs:∀x,(cells x).length=size) (ho1:∀x,∀u∈cells x,u.oneCell'=true)
  (hnews:∀a w,At C fr hp a w->RdL cells size w B l) (hB:B=none->l=[]∧cb=0) (hl:l.length=m) [hr:InR A e size n c xs hp] [hu:∀A' c',UpR A e size n c xs (.row e size A' (n+m) c' (xs++l.flatMap cells)) hp (hp' A' c')]
  (h63:n+m<=maxLen) (hbytes:(n+m)*bytes<=140737488355328)
  (k:∀A' c',Lst C ops Q rest ((d,.slice A' (n+m) c')::fr) (hp' A' c')) :
  Lst C ops Q (⟨some d,.call {callee:=.builtin .append,args:=#[x,y],argTypes:=#[t,t]},ty,pos,after,none⟩::rest) fr hp:=by
 cases B with
 | some p=>exact yP hd hx hy ht hi hzs hs0 hs ho1 hnews hl h63 hbytes k
 | none =>
  obtain⟨rfl,rfl⟩:=hB J;obtain rfl:m=0:=hl.symm;refine xP J fun a w ha=>?_;obtain⟨i,hi1,hi2,hi3,hi4⟩:=hi;have hown:=ha.own _ hr.mem
  have hle:n<=c:=by
   rcases hown.2 with ⟨h1,h2⟩|⟨g,cap,cur,hv,_,_,h3,_⟩
   ·omega
   ·injection hv with _ _ h5;omega
  have hrun:=run_append_nothing (P:=C.P) w t t ty e i ht hi1 A n c hle (.slice none 0 0) (Src.ofNil w ht 0);refine⟨vZ fun cs=>by simp only[List.map_toArray,List.map_cons,List.map_nil,ha.eval hx,ha.eval hy];exact zB7 ht,?_⟩
  have hr':(execOp a.eval ⟨some d,.call {callee:=.builtin .append,args:=#[x,y],argTypes:=#[t,t]},ty,pos,after,none⟩).run C.P w=.ok (.value (.slice A n c)) w:=by
   simp only[execOp,resolve,invoke,builtin,Sem.run_bind,Sem.run_pure,Result.andThen_ok,List.map_toArray,List.map_cons,List.map_nil,ha.eval hx,ha.eval hy,hrun]
  rw[hr'];refine k A c _ _ ((ha.turn (hu A c).upd ⟨rfl,rfl,rfl,Nat.le_refl _,fun _ _ _=>rfl⟩ ?_ (fun j hj=>.inl hj)).put (kC hd) _);simp only[List.flatMap_nil,List.append_nil];exact hown
end
theorem zJf:∀(n:Nat) (l:List Nat),exts l (n+1)=(exts l n).flatMap fun x=>(List.range 4).map fun k=>x++[k]
 | 0,l=>by
  show (List.range 4).flatMap (fun k=>[l++[k]])=[l].flatMap _
  rw[List.flatMap_singleton,<-List.map_eq_flatMap]
 | n+1,l=>by
  show (List.range 4).flatMap (fun k=>exts (l++[k]) (n+1))=((List.range 4).flatMap fun k=>exts (l++[k]) n).flatMap _;rw[List.flatMap_assoc]
  congr 1
  funext k
  exact zJf n (l++[k])
theorem zMa (c:Nat):∀l:List α,(l.map fun _=>c).sum=l.length*c
 | []=>by simp
 | _::l=>by rw[List.map_cons,List.sum_cons,zMa c l,List.length_cons,Nat.succ_mul];omega
theorem wV:∀(n:Nat) (l:List Nat),(exts l n).length=4^n
 | 0,_=>rfl
 | n+1,l=>by
  rw[zJf,List.length_flatMap];simp only[List.length_map,List.length_range];rw[zMa,wV n l,Nat.pow_succ]
theorem zFn:∀(n:Nat) (l x:List Nat),x∈exts l n↔∃y,x=l++y∧y.length=n∧∀k∈y,k<=3
 | 0,l,x=>by
  show x∈[l]↔_;rw[List.mem_singleton]
  constructor
  ·rintro rfl;exact⟨[],by simp⟩
  ·rintro⟨y,rfl,h,_⟩;obtain rfl:=List.eq_nil_of_length_eq_zero h
   simp
 | n+1,l,x=>by
  show x∈(List.range 4).flatMap (fun k=>exts (l++[k]) n)↔_;rw[List.mem_flatMap]
  constructor
  ·rintro⟨k,hk,h⟩;obtain⟨y,rfl,h1,h2⟩:=(zFn n _ x).1 h;have:=List.mem_range.1 hk
   exact⟨k::y,by simp,by simp[h1],fun j hj=>by
    rcases List.mem_cons.1 hj with rfl|hj
    ·omega
    ·exact h2 j hj⟩
  ·rintro⟨y,rfl,h1,h2⟩
   cases y with
   | nil=>cases h1
   | cons k y =>
    have:=h2 k (by simp);exact⟨k,List.mem_range.2 om,(zFn n _ _).2 ⟨y,by simp,by simpa using h1,fun j hj=>h2 j (by simp[hj])⟩⟩
end
section
variable {k:Nat} {α β:Type}
section
variable [I:Sys] {C:Ctx} {fr:List (Nat×Value)} {hp hp':List Res} {a:Act} {w:World} {ops:Array Oper} {Q:Exit->Act->World->Prop}
theorem At.blk_row (ha:At C fr hp a w) {b e n size:Nat} {xs:List Value} (hl:xs.length=n*size) (hn:n<=maxLen) (hu:Upd (.blk b (.cells xs.toArray e (0,0))) (.row e size (some ⟨b,0,none⟩) n n xs) hp hp'):At C fr hp' a w:=by
 have hb:=ha.own _ hu.mem
 refine ha.turn hu (⟨rfl,rfl,rfl,Nat.le_refl _,fun _ _ _=>rfl⟩:w.grownBy w _) ⟨hl,.inr ⟨b,n,xs.toArray,rfl,hb.1,hb.2,Nat.le_refl _,hn,by simpa using hl,?_⟩⟩ (fun k hk=>.inl ?_)
 ·rw[<-hl];simp
 ·exact hk
theorem wX {l:List Oper} {b e n:Nat} (size:Nat) {xs:List Value} (hl:xs.length=n*size) (hn:n<=maxLen) (hu:Upd (.blk b (.cells xs.toArray e (0,0))) (.row e size (some ⟨b,0,none⟩) n n xs) hp hp') (h:Lst C ops Q l fr hp'):Lst C ops Q l fr hp:=fun a w ha=>h a w (ha.blk_row hl hn hu)
theorem jAe (ha:At C fr hp a w) {e size n c:Nat} {A:Option Addr} {xs:List Value} (hm:Res.row e size A n c xs∈hp) (h:A=none):n=0∧c=0:=by
 subst h
 rcases (ha.own _ hm).2 with ⟨h1,h2⟩|⟨g,cap,cur,hv,_⟩
 ·injection h1 with _ h4 h5;exact⟨h4,h5⟩
 ·injection hv with h1
  cases h1
theorem zYy (ha:At C fr hp a w) {m:Meta} (hm:mrow m∈hp) (h:m.1=none):m.2.2=[]∧m.2.1=0:=by
 obtain⟨h1,h2⟩:=jAe ha hm h;exact⟨List.eq_nil_of_length_eq_zero h1,h2⟩
theorem zEy (ha:At C fr hp a w) {m:Meta} (hm:mrow m∈hp):RdL ncell 1 w m.1 m.2.2:=zG5 ha (fun _=>rfl) hm
end
theorem zAa (f:α->β) (m:α) (mr:List α):(m::mr).reverse.map f=mr.reverse.map f++[f m]:=by simp
theorem zKk {f:Nat->α}:(List.range (k+1)).map f=(List.range k).map f++[f k]:=by rw[List.range_succ,List.map_append];rfl
theorem zQr {l:List α} {f:α->β} {x:α} (h:l[k]?=some x):(l.take (k+1)).map f=(l.take k).map f++[f x]:=by rw[List.take_add_one,h,List.map_append];rfl
theorem yF {l:List α} {L:List β} {f:α->β} (h:l.map f=L) {k:Nat} {x:α} (hx:l[k]?=some x):L[k]?=some (f x):=by rw[<-h,List.getElem?_map,hx];rfl
end
section
theorem zO5 (x:Nat):∀(n:Nat) (l:List Nat),exts (x::l) n=(exts l n).map (x::·)
 | 0,_=>rfl
 | n+1,l=>by
  show (List.range 4).flatMap (fun k=>exts (x::(l++[k])) n)=((List.range 4).flatMap fun k=>exts (l++[k]) n).map _;rw[List.map_flatMap]
  congr 1
  funext k
  exact zO5 x n (l++[k])
def lexU (j x:Nat):List (List Nat):=(List.range x).flatMap fun k=>(exts [] j).map (k::·)
theorem zMh (j x:Nat):lexU j (x+1)=lexU j x++(exts [] j).map (x::·):=by
 unfold lexU;rw[List.range_succ,List.flatMap_append,List.flatMap_singleton]
theorem zWf (j:Nat):lexU j 4=exts [] (j+1):=by
 show _=(List.range 4).flatMap fun k=>exts [k] j;unfold lexU
 congr 1
 funext k
 exact (zO5 k j []).symm
theorem zOs {j:Nat} (hj:j<=2):∀x,(lexU j x).length<=16*x
 | 0=>Nat.le_refl _
 | x+1=>by
  have h:=zOs hj x
  have h16:4^j<=16:=by
   have h:j=0∨j=1∨j=2:=om;rcases h with rfl|rfl|rfl<;>decide
  rw[zMh,List.length_append,List.length_map,wV];omega
theorem zWp (a b:List Res):Pck a (a++b):=by
 refine Pck.perm List.perm_append_comm ?_
 induction b with
 | nil=>exact Pck.refl _
 | cons x b ih=>exact Pck.skip _ ih
def AllR (n:Nat) (w:World) (e:Ending) (w':World):Prop:=∃(A:Option Addr) (c:Nat) (S:List Meta),S.reverse.map (·.2.2)=exts [] n∧e=.returned (.slice A S.length c)∧Grew w w' (.row 23 1 A S.length c (S.reverse.map mcell)::S.map mrow)
end
section
variable [I:Sys]
theorem F.ent75:Enters Tryz.prog 75:=jC Tryz.func75 rfl kr
theorem zUc {n:Nat} (h3:n<=3) (ih:∀j,j+1=n->∀w,Calls Tryz.prog 75 #[.int .i64 (j:Int)] w fun e w'=>AllR j w e w') (w:World):Calls Tryz.prog 75 #[.int .i64 (n:Int)] w fun e w'=>AllR n w e w':=by
  refine enter (N:=34) [(0,.int .i64 (n:Int))] Tryz.func75 J Tryz.ntmps75 J J (csr (lax J J (zD (csr (zA J J (zG J J J kD ?_))))))
  refine lnx (zJ J (fun hc0=>?_) (fun hc0=>?_))
  · skip
    obtain rfl:n=0:=om;refine zAo 3 1 (csr (jX (vs:=[(0,_)]) J J U35 F.ti23 J J J ?_));intro b9;exact wX (n:=1) 1 J (by unfold maxLen;omega) (.head _) (lax J J (zS (zO (zX J (fun a w ha=>jJ J J ha) (fun a w ha=>⟨some ⟨b9,0,none⟩,1,[(none,0,[])],rfl,rfl,ha.grown (.cons_cons _ (.cons_cons _ nsl))⟩)))))
  · skip
    obtain⟨j,rfl⟩:∃j,n=j+1:=⟨n-1,by omega⟩;have hj2:j<=2:=om
    have hp16:4^j<=16:=by
      have h:j=0∨j=1∨j=2:=om;rcases h with rfl|rfl|rfl<;>decide
    have hpos:0<4^j:=Nat.pow_pos (by decide);refine zP (zE (csr (lax J J (zD (csr (lax J J (zU (zAo 23 1 (xH (G:=Nat×Option Addr×Nat×List Meta) (fun g=>g.1<=4∧g.2.2.2.reverse.map (·.2.2)=lexU j g.1) (fun g=>4-g.1) (fun g=>[(0,.int .i64 ((j+1:Nat):Int)),(3,.slice g.2.1 g.2.2.2.length g.2.2.1),(4,.int .i64 (g.1:Int))]) (fun g=>.row 23 1 g.2.1 g.2.2.2.length g.2.2.1 (g.2.2.2.reverse.map mcell)::g.2.2.2.map mrow) (0,none,0,[]) ⟨Nat.zero_le _,rfl⟩ sbn pkk ?_)))))))));rintro⟨x,A3,c3,R⟩ ⟨hx0,hR⟩;dsimp only at hx0 hR ⊢;refine zD (csr (zA J J (zG J J J zHm ?_)))
    refine lnx (zJ J (fun hc1=>?_) (fun hc1=>?_))
    · skip
      have hx3:x<=3:=om;have hlx:=zOs hj2 x;refine zP (zE (zD (zU (csr (zA J J (zG (v:=.int .i64 (j:Int)) J J J (fun w=>qN w (by rw[zV _ om om];omega)) (kR (X:=Option Addr×Nat×List Meta) (vs:=[_]) (p:=fun y=>y.2.2.reverse.map (·.2.2)=exts [] j) (val:=fun y=>.slice y.1 y.2.2.length y.2.1) (rs:=fun y=>.row 23 1 y.1 y.2.2.length y.2.1 (y.2.2.reverse.map mcell)::y.2.2.map mrow) J J F.ent75 (fun a w ha=>(ih j J w).mono (fun e w' h=>by obtain⟨A',c',S',h1,h2,h3⟩:=h;exact⟨(A',c',S'),h1,h2,h3⟩)) ?_)))))));rintro⟨A5,c5,S⟩ hS;dsimp only at hS ⊢;have hSl:S.length=4^j:=by have h:=congrArg List.length hS;rw[wV] at h;simpa using h
      refine zBg (List.Perm.cons _ List.perm_append_comm) ?_;simp only[List.cons_append];refine lax J J (csr (yE A5 om ?_));intro g5 hg5;refine lax J J (zU (xH (G:=Nat×Option Addr×Nat×List Meta) (fun g=>g.1<=S.length∧g.2.2.2.reverse.map (·.2.2)=lexU j x++((exts [] j).take g.1).map (x::·)) (fun g=>S.length-g.1) (fun g=>[(0,.int .i64 ((j+1:Nat):Int)),(3,.slice g.2.1 g.2.2.2.length g.2.2.1),(4,.int .i64 (x:Int)),(5,.slice A5 S.length c5),(6,.int .i64 (g.1:Int))]) (fun g=>.row 23 1 g.2.1 g.2.2.2.length g.2.2.1 (g.2.2.2.reverse.map mcell)::.row 23 1 A5 S.length c5 (S.reverse.map mcell)::(g.2.2.2.map mrow++S.map mrow)) (0,A3,c3,R) ⟨Nat.zero_le _,by simp[hR]⟩ sbn pkk ?_));rintro⟨i,A6,c6,R⟩ ⟨hi0,hR⟩;dsimp only at hi0 hR ⊢;have hRl:R.length=(lexU j x).length+min i (4^j):=by have h:=congrArg List.length hR;simp only[List.length_append,List.length_map,List.length_take,List.length_reverse,wV] at h;exact h
      refine zD (csr (zA J J (zA J J (jP J J U35 (zG J J J jY ?_)))))
      refine lnx (zJ J (fun hc2=>?_) (fun hc2=>?_))
      · skip
        have hi:i<S.length:=om;obtain⟨m,hm⟩:∃x,S.reverse[i]?=some x:=⟨_,List.getElem?_eq_getElem (by simp;omega)⟩;have hmS:m∈S:=List.mem_reverse.1 (List.mem_of_getElem? hm);have hml:(exts [] j)[i]?=some m.2.2:=yF hS hm;have hmlen:m.2.2.length<=2:=by rw[yS _ _ _ (List.mem_of_getElem? hml),List.length_nil];omega
        refine zP (zE (zD (zU (zM (zE3 (fun a w ha=>zYy ha (m:=m) (by repeat (first|exact List.mem_append_right _ (List.mem_map_of_mem hmS)|apply List.Mem.tail))) ?_)))));intro hB;refine zA J J (zA J J (jX (vs:=[(0,_)]) J J U23 F.ti3 J J J ?_));intro b25;refine wX (n:=1) 1 J (by unfold maxLen;omega) (.head _) (zA J J (zA J J (kF (j:=i) J (show _=some (Value.slice (some ⟨g5,0,none⟩) S.length c5) from by rw[<-hg5];rfl) J Tryz.underlying35 F.ti23 J hi (kE (v:=.slice m.1 m.2.2.length m.2.1) J J F.one23 (fun a w ha=>xO ha (InR.mem (A:=A5)) hg5 (by rw[show 0+i*1=i from by omega];exact zGs hm)) (zBs (cells:=ncell) J J J Tryz.underlying23 F.ti3 J J (fun _=>rfl) zM9 (fun a w ha=>zEy ha (by repeat (first|exact List.mem_append_right _ (List.mem_map_of_mem hmS)|apply List.Mem.tail))) hB J (by unfold maxLen;omega) om ?_)))));intro A30 c30;rw[<-zCh,Nat.add_comm 1 m.2.2.length];refine jX (vs:=[(0,_)]) J J U35 F.ti23 J J J ?_;intro b31;refine kH J J J Tryz.underlying35 F.ti23 J J J (by unfold maxLen;omega) om ?_;intro A32 c32;refine zH J J (zB (zK (zE (zM (zA J J (zG J J J (fun w=>jL w (zV _ om om)) (zH J J (zB (qI (i+1,A32,c32,(A30,c30,x::m.2.2)::R) ⟨by (try dsimp only);omega,?_⟩ tdo (by dsimp only;rw[List.length_cons];repeat (first|exact Sub.nil _|refine Sub.cons J ?_)) (by dsimp only;rw[List.length_cons,zAa];simp only[List.map_cons,mrow,mcell,List.length_cons,List.cons_append];repeat (first|exact Pck.nil _|exact Pck.refl _|(apply Pck.cons;focus ((repeat (first|exact Rem.here _|apply Rem.there));done))|refine Pck.skip _ ?_)))))))))));dsimp only;rw[zAa,hR,zQr hml,List.append_assoc]
      · skip
        obtain rfl:i=S.length:=om;rw[List.take_of_length_le (by rw[wV,hSl];exact Nat.le_refl _),<-zMh] at hR;refine jT (zL (zL (jF (zK (zE (zM (zA J J (zG J J J (fun w=>jL w (zV _ om om)) (zH J J (zB (qI (x+1,A6,c6,R) ⟨by (try dsimp only);omega,hR⟩ tdo sbn (by dsimp only;exact .cons (.here _) (.skip _ (zWp _ _))))))))))))))
    · skip
      obtain rfl:x=4:=om;exact jT (zL (zL (jF (zE (csr (zA J J (lax J J (zS (zX J (fun a w ha=>jJ J J ha) (fun a w ha=>⟨A3,c3,R,by rw[hR,zWf],rfl,ha.grown (List.Sublist.refl _)⟩))))))))))

theorem zT2:∀(n:Nat),n<=3->∀w:World,Calls Tryz.prog 75 #[.int .i64 (n:Int)] w fun e w'=>AllR n w e w'
  | 0,h=>fun w=>zUc h (fun j e=>by omega) w
  | n+1,h=>fun w=>zUc h (fun j e=>by
    obtain rfl:j=n:=om
    exact zT2 j om) w
end
section
variable {i k n:Nat}
section
variable [I:Sys] {C:Ctx} {fr:List (Nat×Value)} {hp:List Res} {a:Act} {w:World} {ops:Array Oper} {Q:Exit->Act->World->Prop} {rest:List Oper}
 {d:Nat} {ty:TypeId} {pos:String} {after:Array Edge}
theorem zSa {t e:TypeId} {x y:Operand} {size bytes:Nat} {z:Value} {zs:List Value} (hm:madeCells z.cells (n*size)=zs.toArray) (hd:Nat.blt d C.N=true) (hx:ev fr x=some (.int .i64 (n:Int))) (hy:ev fr y=some (.int .i64 (n:Int))) (ht:C.P.underlying t=some (.slice e)) (hz:TI C.P e z size bytes) (hn:n<=1000) (hs:size<=100) (hb:bytes<=1000)
  (k:∀b,Lst C ops Q rest ((d,.slice (some ⟨b,0,none⟩) n n)::fr) (.row e size (some ⟨b,0,none⟩) n n zs::hp)):Lst C ops Q (⟨some d,.makeSlice t x y,ty,pos,after,none⟩::rest) fr hp:=by
 refine xP J fun a w ha=>?_;obtain⟨i,hi,hz0,hsz,hbz⟩:=hz;refine⟨zKr ..,?_⟩;have h1:n*size<=1000*100:=Nat.mul_le_mul hn hs;have h2:bytes*n<=1000*1000:=Nat.mul_le_mul hb hn
 have hlen:zs.length=n*size:=by
  have:=size_madeCells z.cells (n*size);rw[hm,List.size_toArray] at this;exact this
 have hmk:(Instr.makeSlice t (.int .i64 (n:Int)) (.int .i64 (n:Int))).run C.P w=.ok (.slice (some ⟨w.heap.size,0,none⟩) n n) (w.alloc (.cells zs.toArray e)):=by
  have h:=run_makeSlice (P:=C.P) w t e i z ht hi hz0 .i64 .i64 (n:Int) (n:Int) om (Int.le_refl _) (by rw[hsz,Int.toNat_natCast];omega) (by rw[hbz,<-Int.natCast_mul];omega) om;simp only[Int.toNat_natCast,hsz] at h;rw[h,hm]
 have hr:(execOp a.eval ⟨some d,.makeSlice t x y,ty,pos,after,none⟩).run C.P w=.ok (.value (.slice (some ⟨w.heap.size,0,none⟩) n n)) (w.alloc (.cells zs.toArray e)):=by
  simp only[execOp,ha.eval hx,ha.eval hy,Sem.run_bind,hmk,Result.andThen_ok,Sem.run_pure]
 rw[hr];refine k w.heap.size _ _ (At.put ?_ (kC hd) _);have h1:=ha.alloc (.cells zs.toArray e)
 refine⟨h1.size,h1.defs,h1.slots,h1.below,h1.base,fun r hr=>?_,?_⟩
 ·rcases List.mem_cons.1 hr with rfl|hr
  ·have h2:=h1.own _ (List.mem_cons_self ..);exact⟨hlen,.inr ⟨_,n,_,rfl,h2.1,h2.2,Nat.le_refl _,by unfold maxLen;omega,by rw[List.size_toArray,hlen],List.take_of_length_le (by show zs.length<=n*size;omega)⟩⟩
  ·exact h1.own r (List.mem_cons_of_mem _ hr)
 ·exact h1.apart
end
theorem zI5:∀n:Nat,ints (List.replicate n 0)=List.replicate n (.int .i64 0)
 | 0=>rfl
 | n+1=>by rw[List.replicate_succ,List.replicate_succ,<-zI5 n];rfl
theorem zLc (n:Nat):madeCells (Value.int .i64 0).cells n=(ints (List.replicate n 0)).toArray:=by
 rw[zI5];unfold madeCells
 apply Array.toList_inj.1
 apply List.ext_getElem?
 intro i
 by_cases hi:i<n
 ·simp[Value.cells,hi,Nat.mod_one]
 ·simp[Value.cells,hi]
def zis (l:List Int):List Value:=l.map fun n=>.int .i64 n
theorem zKo (l:List Int):(zis l).length=l.length:=by simp[zis]
theorem zKz (l:List Int) (j:Nat) (v:Int):(zis l).set j (.int .i64 v)=zis (l.set j v):=by
 unfold zis;rw[List.map_set]
theorem zWs (n:Nat):madeCells (Value.int .i64 0).cells (n*1)=(zis (List.replicate n 0)).toArray:=by
 rw[Nat.mul_one,zLc];unfold zis ints;rw[List.map_replicate,List.map_replicate]
 rfl
def ten (k:Nat):Nat:=10^k
theorem zW2 (k:Nat):ten (k+1)=ten k*10:=Nat.pow_succ 10 k
theorem zY8 (k:Nat):0<ten k:=Nat.pow_pos (by decide)
theorem zNs (h:k<=3):ten k<=1000:=Nat.pow_le_pow_right (n:=10) (by decide) h
def negK (n i:Nat):List Int:=List.replicate i (-1)++List.replicate (n-i) 0
theorem zXn (h:i<=n):(negK n i).length=n:=by simp[negK];omega
theorem zYd (h:i<n):(negK n i).set i (-1)=negK n (i+1):=by
 unfold negK;rw[show n-i=(n-(i+1))+1 from by omega,List.replicate_succ,List.set_append,if_neg (by simp),List.length_replicate,Nat.sub_self,List.set_cons_zero,List.replicate_succ',List.append_assoc]
 rfl
theorem zXf (n:Nat):negK n n=List.replicate n (-1):=by simp[negK]
def tabK (n:Nat) (cs:List Nat):Nat->List Int
 | 0=>List.replicate n (-1)
 | k+1=>(tabK n cs k).set (cs.getD k 0) (k:Int)
theorem zFb (n:Nat) (cs:List Nat):∀k,(tabK n cs k).length=n
 | 0=>List.length_replicate
 | k+1=>by
  show ((tabK n cs k).set _ _).length=n;rw[List.length_set,zFb]
def cods (n:Nat) (l:List MZ):List Nat:=l.map fun x=>cdM x.2.2 n
theorem jAm {l:List MZ} {x:MZ} (h:l[k]?=some x):(cods n l).getD k 0=cdM x.2.2 n:=by
 rw[List.getD_eq_getElem?_getD];unfold cods;rw[List.getElem?_map,h]
 rfl
end
section
variable [I:Sys]
theorem F.ent78:Enters Tryz.prog 78:=jC Tryz.func78 rfl kr
theorem zYb {A:Option Addr} {c n:Nat} {l:List MZ} (h3:n<=3) (hok:∀x∈l,MOk x.2.2) (hll:l.length<=1000) (w:World) (hM:RdMs n w A l):Calls Tryz.prog 76 #[.slice A l.length c,.int .i64 (n:Int)] w fun e w'=>∃b,e=.returned (.slice (some ⟨b,0,none⟩) (ten n) (ten n))∧Grew w w' [.row 3 1 (some ⟨b,0,none⟩) (ten n) (ten n) (zis (tabK (ten n) (cods n l) l.length))]:=by
 refine enter (N:=42) [(0,.slice A l.length c),(1,.int .i64 (n:Int))] Tryz.func76 J Tryz.ntmps76 J J (csr (lax J J (csr (lax J J (zD (csr (lax J J (zU (qR (G:=Nat) (fun k=>k<=n) (fun k=>n-k) (fun k=>[(0,.slice A l.length c),(1,.int .i64 (n:Int)),(5,.int .i64 ((ten k:Nat):Int)),(6,.int .i64 (k:Int))]) (fun k=>[]) 0 (Nat.zero_le _) sbn sbl ?_)))))))));intro k hk;(try dsimp only at hk ⊢);refine zD (csr (zA J J (zA J J (zG J J J jY ?_))))
 refine lnx (zJ J (fun hc0=>?_) (fun hc0=>?_))
 ·have h9:=zNs (show k<=3 by omega);refine zP (zE (zD (zU (zM (zA J J (zG (v:=.int .i64 ((ten (k+1):Nat):Int)) J J J (fun w=>zDc w (by rw[zV _ om om,zW2];omega)) (zH J J (zB (zK (zE (zM (zA J J (zG J J J (fun w=>jL w (zV _ om om)) (zH J J (zB (qC (k+1) om tdo sbn sbl))))))))))))))))
 ·obtain rfl:k=n:=om;have h9:=zNs h3;have h8:=zY8 k;refine jT (zL (zL (jF (zE (csr (zA J J (zSa (n:=ten k) (zWs _) J J J U23 F.ti3 h9 om om ?_)))))));intro b18;refine lax J J (zD (csr (lax J J (zU (qR (G:=Nat) (fun i=>i<=ten k) (fun i=>ten k-i) (fun i=>[(0,.slice A l.length c),(1,.int .i64 (k:Int)),(5,.int .i64 ((ten k:Nat):Int)),(7,.slice (some ⟨b18,0,none⟩) (ten k) (ten k)),(8,.int .i64 (i:Int))]) (fun i=>[.row 3 1 (some ⟨b18,0,none⟩) (ten k) (ten k) (zis (negK (ten k) i))]) 0 (Nat.zero_le _) sbn sbl ?_)))));intro i hi;(try dsimp only at hi ⊢);refine zD (csr (zA J J (zA J J (zG J J J jY ?_))))
  refine lnx (zJ J (fun hc1=>?_) (fun hc1=>?_))
  ·have hi2:i<ten k:=om;refine zP (zE (zD (zU (zM (zA J J (zA J J (kF (j:=i) J J J Tryz.underlying23 F.ti3 J hi2 (yW (A:=some ⟨b18,0,none⟩) (zis (negK (ten k) (i+1))) (show _=some (Value.pointer (some ⟨b18,0+i*1,none⟩)) from rfl) J F.ti3 J (by rw[zKo,zXn om];omega) (by rw[show 0+i*1=i from by omega,zKz,zYd hi2]) (zB (zK (zE (zM (zA J J (zG J J J (fun w=>jL w (zV _ om om)) (zH J J (zB (qC (i+1) om tdo sbn sbl)))))))))))))))))
  ·obtain rfl:i=ten k:=om;refine jT (zL (zL (jF (zE (zD (csr (lax J J (zU ?_))))))));rw[zXf];refine qR (G:=Nat) (fun i=>i<=l.length) (fun i=>l.length-i) (fun i=>[(0,.slice A l.length c),(1,.int .i64 (k:Int)),(7,.slice (some ⟨b18,0,none⟩) (ten k) (ten k)),(9,.int .i64 (i:Int))]) (fun i=>[.row 3 1 (some ⟨b18,0,none⟩) (ten k) (ten k) (zis (tabK (ten k) (cods k l) i))]) 0 (Nat.zero_le _) sbn sbl ?_;intro i hi;(try dsimp only at hi ⊢);refine zD (csr (zA J J (zA J J (jP J J U109 (zG J J J jY ?_)))))
   refine lnx (zJ J (fun hc2=>?_) (fun hc2=>?_))
   ·have hi2:i<l.length:=om;obtain⟨b,o,hAe,hb,hcell⟩:=hM.outer om;obtain⟨x,hx⟩:∃x,l[i]?=some x:=⟨_,List.getElem?_eq_getElem hi2⟩;have hxm:=List.mem_of_getElem? hx;have hin:=hM.inner x hxm;have hco:=jAm (n:=k) hx;have hlt:cdM x.2.2 k<ten k:=zI0 (hok x hxm) k;obtain⟨⟨sA,sc⟩,⟨wA,wc⟩,m⟩:=x;dsimp only at hlt hco;refine zP (zE (zD (zU (zM (zA J J (zA J J (zA J J (kF (j:=i) J (show _=some (Value.slice (some ⟨b,o,none⟩) l.length c) from by rw[<-hAe];rfl) J Tryz.underlying109 F.ti112 J hi2 (qW (l:=[.slice sA k sc,.slice wA k wc]) J J F.agg112 F.ti112 J (fun a w ha j u hu=>ha.old (hcell i _ hx j u hu) hb) (jG (v:=.int .i64 ((cdM m k:Nat):Int)) (vs:=[_]) J J F.ent78 (fun a w ha=>zHo h3 (hok _ hxm) w (hin.later ha.below)) (zA J J (kF (j:=cdM m k) J J J Tryz.underlying23 F.ti3 J hlt (yW (A:=some ⟨b18,0,none⟩) (zis (tabK (ten k) (cods k l) (i+1))) (show _=some (Value.pointer (some ⟨b18,0+cdM m k*1,none⟩)) from rfl) J F.ti3 J (by rw[zKo,zFb];omega) (by rw[show 0+cdM m k*1=cdM m k from by omega,zKz,<-hco];rfl) (zB (zK (zE (zM (zA J J (zG J J J (fun w=>jL w (zV _ om om)) (zH J J (zB (qC (i+1) om tdo sbn sbl))))))))))))))))))))))
   ·obtain rfl:i=l.length:=om;exact jT (zL (zL (jF (zE (csr (zA J J (lax J J (zS (zX J (fun a w ha=>jJ J J ha) (fun a w ha=>⟨b18,rfl,ha.grown (.cons_cons _ nsl)⟩))))))))))

end
section
variable {acc:List Mor} {c d kiln n:Nat} {cs days:List Nat} {fs:List Flt} {m x:Mor}
def addM (acc:List Mor) (m:Mor):List Mor:=if m∈acc then acc else acc++[m]
theorem zXm:x∈addM acc m↔x∈acc∨x=m:=by
 unfold addM
 split
 ·rename_i h;exact⟨.inl,fun h2=>h2.elim id fun e=>e▸h⟩
 ·rw[List.mem_append,List.mem_singleton]
theorem zSg (h:acc.Nodup):(addM acc m).Nodup:=by
 unfold addM
 split
 ·exact h
 ·rename_i h2;rw[List.nodup_append];refine⟨h,by simp,fun x hx y hy e=>h2 ?_⟩;rw[List.mem_singleton] at hy;rw[<-hy,<-e];exact hx
theorem zGx:∀(l acc:List Mor),x∈l.foldl addM acc↔x∈acc∨x∈l
 | [],acc=>by simp
 | m::l,acc=>by
  rw[List.foldl_cons,zGx l,zXm,List.mem_cons,or_assoc]
theorem zCg:∀(l acc:List Mor),acc.Nodup->(l.foldl addM acc).Nodup
 | [],_,h=>h
 | _::l,_,h=>zCg l _ (zSg h)
def nxtL (fs:List Flt) (kiln:Nat) (l:List Mor) (d:Nat):List Mor:=(stpL fs kiln l d).foldl addM []
def lvlL (fs:List Flt) (kiln:Nat) (days:List Nat):List Mor:=days.foldl (nxtL fs kiln) [start fs]
theorem zVn:lvlL fs kiln (days++[d])=nxtL fs kiln (lvlL fs kiln days) d:=by
 unfold lvlL;rw[List.foldl_append]
 rfl
theorem zO4:∀(days:List Nat) (l:List Mor) (S:Mor->Prop),(∀m,m∈l↔S m)->∀m,m∈days.foldl (nxtL fs kiln) l↔days.foldl (stp fs kiln) S m
 | [],_,_,h=>h
 | _::days,_,_,h=>zO4 days _ _ fun m=>by
  unfold nxtL;rw[zGx,zOm h];simp
theorem jEr:m∈lvlL fs kiln days↔Rch fs kiln days m:=zO4 days _ _ (fun m=>by simp) m
theorem zC2 (days:List Nat):(lvlL fs kiln days).Nodup:=by
 rcases List.eq_nil_or_concat days with rfl|⟨ds,d,rfl⟩
 ·simp[lvlL]
 ·rw[List.concat_eq_append,zVn];exact zCg _ _ List.nodup_nil
theorem zSw (h3:fs.length<=3):Thin fs.length (start fs):=fun i hi=>⟨zR5 fs h3 i hi,by
 cases h:(start fs).w.testBit i with
 | false=>rfl
 | true=>exact absurd (zUl.1 h).1 om⟩
theorem zIh {acts:List Nat} (h3:fs.length<=3) (hok:MOk x) (ht:Thin fs.length m) (hl:acts.length=fs.length) (h:dayE fs kiln m acts d=(0,x)):Thin fs.length x:=by
 obtain⟨-,-,-,rfl⟩:=jEp.1 h;refine fun i hi=>⟨zPs (fun i hi=>(ht i hi).1) _ om i hi,?_⟩
 rcases Nat.lt_or_ge i 3 with h4|h4
 ·rw[zGv h4 _ om,if_neg om];exact (ht i hi).2
 ·have h8:(dRun fs m acts d acts.length).2.w<2^i:=Nat.lt_of_lt_of_le hok.w (Nat.pow_le_pow_right (n:=2) (by decide) h4);exact Nat.testBit_lt_two_pow h8
theorem Rch.thin (h3:fs.length<=3) (hf:∀f∈fs,FltOk f) (days:List Nat):∀m,Rch fs kiln days m->Thin fs.length m:=by
 have key:∀(days:List Nat) (S:Mor->Prop),(∀m,S m->MOk m∧Thin fs.length m)->∀m,days.foldl (stp fs kiln) S m->MOk m∧Thin fs.length m:=by
  intro days
  induction days with
  | nil=>exact fun _ h=>h
  | cons d days ih =>
   intro S hS;refine ih _ fun x hx=>?_;have hok:=zUk (d:=d) (kiln:=kiln) h3 hf (fun m hm=>(hS m hm).1) x hx;obtain⟨m,hm,acts,ha,hd⟩:=hx;obtain⟨y,e,hl,-⟩:=(zFn _ _ _).1 ha;rw[List.nil_append] at e;subst e;exact⟨hok,zIh h3 hok (hS m hm).2 hl hd⟩
 refine fun m hm=>(key days _ ?_ m hm).2;rintro m rfl;exact⟨yK h3 hf _ (Nat.le_refl _),zSw h3⟩
theorem zLl:∀k,k<=cs.length->tabK n (cs++[c]) k=tabK n cs k
 | 0,_=>rfl
 | k+1,h=>by
  show (tabK n (cs++[c]) k).set _ _=(tabK n cs k).set _ _;rw[zLl k om,List.getD_eq_getElem?_getD,List.getElem?_append_left (show k<cs.length by omega),<-List.getD_eq_getElem?_getD]
theorem zWn:tabK n (cs++[c]) (cs.length+1)=(tabK n cs cs.length).set c (cs.length:Int):=by
 show (tabK n (cs++[c]) cs.length).set _ _=_;rw[zLl _ (Nat.le_refl _),List.getD_eq_getElem?_getD,List.getElem?_append_right (Nat.le_refl _),Nat.sub_self]
 rfl
theorem zNf {n c:Nat} {cs:List Nat} (hc:c<n):∀k,k<=cs.length->((tabK n cs k)[c]?=some (-1)∧c∉cs.take k)∨∃j,j<k∧cs[j]?=some c∧(tabK n cs k)[c]?=some (j:Int)
 | 0,_=>.inl ⟨by show (List.replicate n (-1:Int))[c]?=_;rw[List.getElem?_replicate,if_pos hc],by simp⟩
 | k+1,h=>by
  obtain⟨x,hx⟩:∃x,cs[k]?=some x:=⟨_,List.getElem?_eq_getElem om⟩;have hg:cs.getD k 0=x:=by rw[List.getD_eq_getElem?_getD,hx];rfl
  have e:tabK n cs (k+1)=(tabK n cs k).set x (k:Int):=by
   show (tabK n cs k).set _ _=_;rw[hg]
  rw[e,List.take_add_one,hx]
  by_cases hxc:x=c
  ·subst hxc;exact .inr ⟨k,by omega,hx,List.getElem?_set_self (by rw[zFb];exact hc)⟩
  ·rw[List.getElem?_set_ne hxc]
   rcases zNf (cs:=cs) hc k om with ⟨h1,h2⟩|⟨j,h1,h2,h3⟩
   ·refine .inl ⟨h1,fun hm=>?_⟩
    rcases List.mem_append.1 hm with hm|hm
    ·exact h2 hm
    ·simp at hm;exact hxc hm.symm
   ·exact .inr ⟨j,by omega,h2,h3⟩
end
end Go.Proofs.YteppiphdbondeaaGreat.N
