/- Parts of the walk of the law CharAgains: T14, ChL, T15, ChM, T16, T17, ChN, ChO, T18, T19, ChQ, T20, T21, ChR. -/
import Derived.Test.YteppiphdbondeaaGreatSCharAgains06
import Derived.Test.YteppiphdbondeaaGreatProg
namespace Go.Proofs.YteppiphdbondeaaGreat.N
set_option linter.unusedSectionVars false
open Go.RowKit
section
variable [I:Sys]
theorem F.agg129:aggB TP 129=true:=by unfold aggB;rw[Tryz.underlying129]
theorem F.ent96:Enters TP 96:=jD Tryz.func96 rfl kr
theorem F.ent112:Enters TP 112:=jD Tryz.func112 rfl kr
theorem F.fi99_2:FI TP 99 2 96 4:=⟨_,_,Tryz.underlying99,rfl,rfl,rfl⟩
theorem F.fi99_3:FI TP 99 3 97 5:=⟨_,_,Tryz.underlying99,rfl,rfl,rfl⟩
theorem F.one76:One TP 76:=⟨by unfold aggB;rw[Tryz.underlying76],by rw[Tryz.underlying76];simp⟩
theorem F.one96:One TP 96:=⟨by unfold aggB;rw[Tryz.underlying96],by rw[Tryz.underlying96];simp⟩
theorem F.one97:One TP 97:=⟨by unfold aggB;rw[Tryz.underlying97],by rw[Tryz.underlying97];simp⟩
theorem F.ti96:TI TP 96 (.nilFunc) 1 8:=TI.of kr
theorem F.ti97:TI TP 97 (.map none) 1 8:=TI.of kr
set_option maxRecDepth 4000 in
theorem zSn {s:Srch} (hs:s.Ok) {nn:Nat} (ih0:∀n,nn=n+1->BestC s n):BestC s nn:=by
 intro B w0 T N ds fr a w kn km sb d z0 z1 z2 zw hdn hm hkn hE ha;have hs5:=hs.d5;have hs3:=hs.f3;obtain⟨-,hsm,hzw⟩:=id hm;have hz0:z0<=4:=hsm z0 (by simp);have hz1:z1<=4:=hsm z1 (by simp);have hz2:z2<=4:=hsm z2 (by simp);dsimp only at hzw;have ha0:At ⟨TP,B,w0,N,ds⟩ fr (.blk km (KS.obj kn)::.blk sb (SOb s km 99)::T) a w:=ha;refine zMm (N:=57) [(0,pt sb),(1,.agg #[.int .i64 (z0:Int),.int .i64 (z1:Int),.int .i64 (z2:Int),.int .u8 (zw:Int),.int .i64 (d:Int)])] ha0 Tryz.func94 J Tryz.ntmps94 J J (csr (jT J J ?_));intro b2;refine jT J J ?_;intro b3;refine zW J F.ti133 ?_;intro b4;refine lnx (zG (zG (jS [] F.follows 10 J (fl 10) J (zC 0 J J J (zP J F.fi129_1 F.ti3) (zC 1 J J J (jJ J F.one3) (zC 2 J J J (jJ J F.one76) (zC 3 J J J (qD J) (zC 4 J J J (xG J F.fi99_0 F.ti78) (zC 5 J J J (xG J F.fi78_0 F.ti25) (zC 6 J J J (xG J F.fi25_2 F.ti23) (zC 7 J J J (jJ J F.one23) (zC 8 J J J (vQ J U23) (zC 9 J J J (kW J J kD) ?_)))))))))))))
 refine adn (zD (zK J (fun hc0=>?_) (fun hc0=>?_)))
 ·obtain rfl:nn=0:=om;exact zG (jS [.b b4] F.follows 9 J (fl 9) J (zC 0 J J J (jJ J F.one76) (zC 1 J J J (qD J) (zC 2 J J J (xG J F.fi99_2 F.ti96) (zC 3 J J J (jJ J F.one96) (zC 4 J J J (zP J F.fi129_0 F.ti93) (zC 5 J J J (kR J F.agg93 F.ti93) (an1 6 J (zLk (v:=.bool (s.las (⟨[z0,z1,z2],zw⟩:Mor))) (first:=[]) (cap:=s.capL) (vs:=[_]) J J J hs.el (fun a w ha=>(hE _ _ _ _ _ _ (fun r hr=>by simp[hr]) ha).la _ hm) (zB (anb (zC 7 J J J (vF (vs:=[(1,_)]) (l':=[_,_,_]) J F.ti133 F.pl133 (.cons J J (.nil _)) J) (an1 8 J (zH J J F.ti133 J (zB (anb (adn (zD (zV (zU (zLl J (fun a w ha=>by exact xC (ha:=ha) J J F.agg133 F.ti133 J) (fun a w ha'=>⟨kn,⟨hkn,fun x hx=>.inl hx⟩,rfl,ha.back (ha'.pck pkk)⟩))))))))))))))))))))))
 ·obtain⟨n,rfl⟩:∃n,nn=n+1:=⟨nn-1,by omega⟩;have ih:=ih0 n J;have hd:d+(n+1)=s.days.length:=hdn;have hdl:s.days.length-d=n+1:=om;have hI0:BI s kn n d (noOc,kn):=⟨by simp[noOc],hkn,fun e he=>.inl he⟩;refine zO (zD (zG ?_))
  rcases Classical.em ((((⟨[z0,z1,z2],zw⟩:Mor),d):Spot)∈kn.map (·.1)) with hmet|hmet
  ·refine qF (G:=Nat) (fun _=>True) (fun b5=>(6,.bool true)::[(2,pt b2),(3,pt b3),(4,pt b4),(5,pt b5)]) (fun b5=>.blk b5 (OO ((s.bst (n+1) (⟨[z0,z1,z2],zw⟩:Mor)).f) ((s.bst (n+1) (⟨[z0,z1,z2],zw⟩:Mor)).w) ((s.bst (n+1) (⟨[z0,z1,z2],zw⟩:Mor)).is) 133)::.blk b4 (OO 0 0 false 133)::.blk b3 (O5 z0 z1 z2 zw d 129)::.blk b2 (PO sb 76)::.blk km (KS.obj kn)::.blk sb (SOb s km 99)::T) ?_ ?_
   ·refine jS [] F.follows 12 J (fl 12) J ?_
    skip
    refine zC 0 J J J (jJ J F.one76) (zC 1 J J J (qD J) (zC 2 J J J (xG J F.fi99_3 F.ti97) (zC 3 J J J (jJ J F.one97) (zC 4 J J J (kR J F.agg129 F.ti129) (zC 5 J J J (zFn KS J (l:=kn) (t:=(((⟨[z0,z1,z2],zw⟩:Mor),d):Spot)) (v:=(.agg ([.int .i64 ((s.bst (n+1) (⟨[z0,z1,z2],zw⟩:Mor)).f:Int),.int .i64 ((s.bst (n+1) (⟨[z0,z1,z2],zw⟩:Mor)).w:Int),.bool (s.bst (n+1) (⟨[z0,z1,z2],zw⟩:Mor)).is]:List Value).toArray:Value)) (z:=.agg #[.int .i64 0,.int .i64 0,.bool false]) (c:=true) J J Tryz.underlying97 (hkn.spots hs) ⟨hm,by show d<_;omega⟩ hkn.nodup zero111 (InB.mem (b:=km) (o:=KS.obj kn)) (.inl (jC6 hkn hdl hmet)) true (by simp[hmet])) (anm 6 J J J (zC 7 J J J (jN J J) (zC 8 J J J (jN J J) (an1 9 J (zW J F.ti133 ?_))))))))));intro b5;exact zB (anb (an1 10 J (zH J J F.ti133 J (zB (anb (zC 11 J J J (jP J) (adn (jK b5 trivial sbn pkk))))))))
   ·rintro b5 -;(try dsimp only);exact zD (zG (csr (zA J J (lnx (qE J (csr (zZ J J F.agg133 F.ti133 (zH J J F.ti133 J (lnx (zV (zU (zLl J (fun a w ha=>by exact xC (ha:=ha) J J F.agg133 F.ti133 J) (fun a w ha'=>⟨kn,⟨hkn,fun x hx=>.inl hx⟩,rfl,ha.back (ha'.pck pkk)⟩)))))))))))))
  ·refine qF (G:=Nat) (fun _=>True) (fun b5=>(6,.bool false)::[(2,pt b2),(3,pt b3),(4,pt b4),(5,pt b5)]) (fun b5=>.blk b5 (OO 0 0 false 133)::.blk b4 (OO 0 0 false 133)::.blk b3 (O5 z0 z1 z2 zw d 129)::.blk b2 (PO sb 76)::.blk km (KS.obj kn)::.blk sb (SOb s km 99)::T) ?_ ?_
   ·refine jS [] F.follows 12 J (fl 12) J ?_
    skip
    refine zC 0 J J J (jJ J F.one76) (zC 1 J J J (qD J) (zC 2 J J J (xG J F.fi99_3 F.ti97) (zC 3 J J J (jJ J F.one97) (zC 4 J J J (kR J F.agg129 F.ti129) (zC 5 J J J (zFn KS J (l:=kn) (t:=(((⟨[z0,z1,z2],zw⟩:Mor),d):Spot)) (v:=.agg #[.int .i64 0,.int .i64 0,.bool false]) (z:=.agg #[.int .i64 0,.int .i64 0,.bool false]) (c:=true) J J Tryz.underlying97 (hkn.spots hs) ⟨hm,by show d<_;omega⟩ hkn.nodup zero111 (InB.mem (b:=km) (o:=KS.obj kn)) (.inr ⟨hmet,rfl⟩) false (by simp[hmet])) (anm 6 J J J (zC 7 J J J (jN J J) (zC 8 J J J (jN J J) (an1 9 J (zW J F.ti133 ?_))))))))));intro b5;exact zB (anb (an1 10 J (zH J J F.ti133 J (zB (anb (zC 11 J J J (jP J) (adn (jK b5 trivial sbn pkk))))))))
   ·rintro b5 -;(try dsimp only);refine zD (zG (csr (zA J J (lnx (kL J (zO (zD (zG (csr (zS J J F.one76 (xO J J (zAe J J F.fi99_0 F.ti78 (zZ (o:=0) (l:=[.slice s.fA s.fs.length s.fc,.int .i64 (s.kiln:Int),.slice s.dA s.days.length s.dc]) J J F.agg78 F.ti78 (kJ (X:=Nat) (vs:=[_]) (p:=fun _=>True) (val:=fun b1=>.func (.func 114) #[] #[pt b1]) (rs:=fun b1=>[.blk b1 (.cells #[.slice s.fA s.fs.length s.fc,.int .i64 (s.kiln:Int),.slice s.dA s.days.length s.dc] 78 (0,0))]) J J F.ent95 (fun a w ha=>(zL4 s.fA s.dA s.fc s.days.length s.dc s.kiln s.fs w).mono (fun e w' h=>by obtain⟨b1,h1,h2⟩:=h;exact⟨b1,trivial,h1,h2⟩)) ?_))))))))))))));rintro b1 -;dsimp only[List.cons_append,List.nil_append];have hlk:∀t v,look [(2,pt b2),(3,pt b3),(4,pt b4),(5,pt b5)] t=some v->look ((41,.func (.func 114) #[] #[pt b1])::(40,.agg #[.slice s.fA s.fs.length s.fc,.int .i64 (s.kiln:Int),.slice s.dA s.days.length s.dc])::(39,pt sb)::(38,pt sb)::(37,pt sb)::(35,.bool false)::(6,.bool false)::[(2,pt b2),(3,pt b3),(4,pt b4),(5,pt b5)]) t=some v:=fun t v hv=>Sub.look sbn t v hv
    refine lnx (zQ (zF6 (Y:=Oc×List (Spot×Value)) (lb:=[pt b1]) (fun y=>BI s kn n d y∧y.1=s.bst (n+1) (⟨[z0,z1,z2],zw⟩:Mor)) (fun _=>w0.output) (fun _=>none) (fun _=>.normal) (fun y=>.blk b5 (OO y.1.f y.1.w y.1.is 133)::.blk km (KS.obj y.2)::.blk b4 (OO 0 0 false 133)::.blk b3 (O5 z0 z1 z2 zw d 129)::.blk b2 (PO sb 76)::.blk sb (SOb s km 99)::.blk b1 (.cells #[.slice s.fA s.fs.length s.fc,.int .i64 (s.kiln:Int),.slice s.dA s.days.length s.dc] 78 (0,0))::T) J F.ent114 (fun _ _=>.inl ⟨rfl,rfl⟩) (fun r D rec a1 w1 hst hpe hps has hbo hsz hsl hR=>?_) (fun D y hy=>?_)))
    ·have hY:YSpL TP B w0 r (fun _=>w0.output) (fun (x:Oc×List (Spot×Value))=>.blk r (.loop rec)::.blk D (.deferred (some []))::.blk b5 (OO x.1.f x.1.w x.1.is 133)::.blk km (KS.obj x.2)::.blk b4 (OO 0 0 false 133)::.blk b3 (O5 z0 z1 z2 zw d 129)::.blk b2 (PO sb 76)::.blk sb (SOb s km 99)::T) (BPre s kn n d) (BStep s kn n d (⟨[z0,z1,z2],zw⟩:Mor)):=by
      intro x A ac acts hpre N ds fr hp ay wy hay;obtain⟨hI,hal⟩:=hpre;obtain⟨oc,kn1⟩:=x;dsimp only at hay hI;have ha2:=hay.permed (List.Perm.cons _ List.perm_append_comm);simp only[List.cons_append] at ha2;have ha1:At ⟨TP,B,w0,N,ds⟩ fr (.blk r (.loop rec)::.row 3 1 A acts.length ac (ints acts)::.blk D (.deferred (some []))::.blk b5 (OO oc.f oc.w oc.is 133)::.blk km (KS.obj kn1)::(.blk b4 (OO 0 0 false 133)::.blk b3 (O5 z0 z1 z2 zw d 129)::.blk b2 (PO sb 76)::.blk sb (SOb s km 99)::(T++hp))) ay wy:=ha2.pck pkk
      refine zJs (X:=Unit) (N:=57) (d:=42) (frC:=[(2,pt b2),(3,pt b3),(4,pt b4),(5,pt b5)]) (frB:=fun _=>(7,.slice A acts.length ac)::[(2,pt b2),(3,pt b3),(4,pt b4),(5,pt b5)]) (hp1:=fun _=>.row 3 1 A acts.length ac (ints acts)::.blk D (.deferred (some []))::.blk b5 (OO oc.f oc.w oc.is 133)::.blk km (KS.obj kn1)::(.blk b4 (OO 0 0 false 133)::.blk b3 (O5 z0 z1 z2 zw d 129)::.blk b2 (PO sb 76)::.blk sb (SOb s km 99)::(T++hp))) ha1 hst hps hsz J (fun t u hu=>hsl t u (hlk t u hu)) (by rw[has];kernel_rfl) (by rw[hbo];kernel_rfl) ?_ ?_
      ·intro K hK;refine zEy has (zL (zF J J (zB ?_)));exact fun a w ha=>hK () a w ((ha.drop_slots sbn).pck pkk)
      ·intro _;refine zEy hbo (zQ (jS [.b b5,.b km] F.follows 8 J (fl 8) J (zC 1 J J J (jJ J F.one76) (zC 2 J J J (kR J F.agg129 F.ti129) (anm 3 J J J ?_)))))
       refine qG 0 4 kr J J J J ?_ ?_
       ·refine zZ J J F.agg133 F.ti133 (zB (anb (an1 4 J ?_)));have hol:oc.f<=n+1∧oc.w<=3*n+3:=hI.le;have hsl2:=s.stp_le hs n (⟨[z0,z1,z2],zw⟩:Mor) (l:=acts) om
        refine xT (X:=List (Spot×Value)) (first:=[]) (cap:=[]) (vs:=[_,_,_]) (p:=fun kn'=>KnOk s kn'∧∀x∈kn',x∈kn1∨d+1<=x.1.2) (val:=fun _=>.agg #[.int .i64 ((s.stp n (⟨[z0,z1,z2],zw⟩:Mor) acts).f:Int),.int .i64 ((s.stp n (⟨[z0,z1,z2],zw⟩:Mor) acts).w:Int),.bool (s.stp n (⟨[z0,z1,z2],zw⟩:Mor) acts).is]) (rs:=fun kn'=>.blk km (KS.obj kn')::.blk r (.loop {rec with state:=.busy})::.row 3 1 A acts.length ac (ints acts)::.blk D (.deferred (some []))::.blk b5 (OO oc.f oc.w oc.is 133)::.blk b4 (OO 0 0 false 133)::.blk b3 (O5 z0 z1 z2 zw d 129)::.blk b2 (PO sb 76)::.blk sb (SOb s km 99)::(T++hp)) J J J F.ent96 (fun a w ha=>?_) ?_
        ·refine (zPg hs ih (T:=.blk r (.loop {rec with state:=.busy})::.row 3 1 A acts.length ac (ints acts)::.blk D (.deferred (some []))::.blk b5 (OO oc.f oc.w oc.is 133)::.blk b4 (OO 0 0 false 133)::.blk b3 (O5 z0 z1 z2 zw d 129)::.blk b2 (PO sb 76)::(T++hp)) (kn:=kn1) (km:=km) (sb:=sb) (ac:=ac) hd hm hz0 hz1 hz2 hzw hal hI.ok (hE.more (fun r hr=>by simp[hr])) ((Stays.row (c:=ac)).more (fun r hr=>by simp at hr;simp[hr])) (ha.pck pkk)).mono ?_;rintro e w' ⟨kn2,h1,h2,h3⟩;exact⟨kn2,h1,h2,h3.pck pkk⟩
        rintro kn2 ⟨hkn2,hlt2⟩;dsimp only[Srch.cells]
        generalize hoo:s.stp n (⟨[z0,z1,z2],zw⟩:Mor) acts=os at hsl2 ⊢
        refine zB (anb (an1 5 J (yV (vs:=[(0,.agg ([.int .i64 (os.f:Int),.int .i64 (os.w:Int),.bool os.is]:List Value).toArray)]) [.int .i64 (os.f:Int),.int .i64 (os.w:Int),.bool os.is] J J U186 F.ti133 J J J (Lit.agg (l1:=[.int .i64 (os.f:Int),.int .i64 (os.w:Int),.bool os.is]) (l:=[]) J J) ?_)));intro b48;refine zB (anb (an1 6 J (jE (v:=.agg #[.int .i64 ((lst2 oc os).f:Int),.int .i64 ((lst2 oc os).w:Int),.bool (lst2 oc os).is]) (vs:=[_,_,_]) J J F.ent112 (fun a w ha=>zK8 _ _ os oc om om om om w (zPs ha (InB.mem (b:=b48) (o:=.cells (Oc.cells os).toArray 133 (0,0))))) (zB (anb (an1 7 J (zH J J F.ti133 J (zB (anb (adn (zJ (zCw (hp':=.blk r (.loop {rec with state:=.busy})::.blk D (.deferred (some []))::.blk b5 (OO ((lst2 oc os).f) ((lst2 oc os).w) ((lst2 oc os).is) 133)::.blk km (KS.obj kn2)::(.blk b4 (OO 0 0 false 133)::.blk b3 (O5 z0 z1 z2 zw d 129)::.blk b2 (PO sb 76)::.blk sb (SOb s km 99)::(T++hp))) pkk ?_))))))))))))
        refine zAz hst hpe (fun a w ha=>⟨(lst2 oc os,kn2),true,⟨rfl,⟨zFk hol hsl2,hkn2,fun e he=>?_⟩,by rw[<-hoo]⟩,rfl,?_⟩)
        ·rcases hlt2 e he with h|h
         ·exact hI.late e h
         ·exact .inr h
        have ha3:=(hay.backO (x:=w0.output) ha).pck (hp':=.blk r (.loop rec)::.blk D (.deferred (some []))::.blk b5 (OO ((lst2 oc os).f) ((lst2 oc os).w) ((lst2 oc os).is) 133)::.blk km (KS.obj kn2)::(.blk b4 (OO 0 0 false 133)::.blk b3 (O5 z0 z1 z2 zw d 129)::.blk b2 (PO sb 76)::.blk sb (SOb s km 99)::(T++hp))) pkk;exact ha3.permed (by simpa using (List.perm_append_comm (l₁:=.blk r (.loop rec)::.blk D (.deferred (some []))::.blk b5 (OO ((lst2 oc os).f) ((lst2 oc os).w) ((lst2 oc os).is) 133)::.blk km (KS.obj kn2)::(.blk b4 (OO 0 0 false 133)::.blk b3 (O5 z0 z1 z2 zw d 129)::.blk b2 (PO sb 76)::.blk sb (SOb s km 99)::T)) (l₂:=hp)))
       ·have hol:oc.f<=n+1∧oc.w<=3*n+3:=hI.le;have hsl2:=s.stp_le hs n (⟨[z0,z1,z2],zw⟩:Mor) (l:=acts) om
        refine xT (X:=List (Spot×Value)) (first:=[]) (cap:=[]) (vs:=[_,_,_]) (p:=fun kn'=>KnOk s kn'∧∀x∈kn',x∈kn1∨d+1<=x.1.2) (val:=fun _=>.agg #[.int .i64 ((s.stp n (⟨[z0,z1,z2],zw⟩:Mor) acts).f:Int),.int .i64 ((s.stp n (⟨[z0,z1,z2],zw⟩:Mor) acts).w:Int),.bool (s.stp n (⟨[z0,z1,z2],zw⟩:Mor) acts).is]) (rs:=fun kn'=>.blk km (KS.obj kn')::.blk r (.loop {rec with state:=.busy})::.row 3 1 A acts.length ac (ints acts)::.blk D (.deferred (some []))::.blk b5 (OO oc.f oc.w oc.is 133)::.blk b4 (OO 0 0 false 133)::.blk b3 (O5 z0 z1 z2 zw d 129)::.blk b2 (PO sb 76)::.blk sb (SOb s km 99)::(T++hp)) J J J F.ent96 (fun a w ha=>?_) ?_
        ·refine (zPg hs ih (T:=.blk r (.loop {rec with state:=.busy})::.row 3 1 A acts.length ac (ints acts)::.blk D (.deferred (some []))::.blk b5 (OO oc.f oc.w oc.is 133)::.blk b4 (OO 0 0 false 133)::.blk b3 (O5 z0 z1 z2 zw d 129)::.blk b2 (PO sb 76)::(T++hp)) (kn:=kn1) (km:=km) (sb:=sb) (ac:=ac) hd hm hz0 hz1 hz2 hzw hal hI.ok (hE.more (fun r hr=>by simp[hr])) ((Stays.row (c:=ac)).more (fun r hr=>by simp at hr;simp[hr])) (ha.pck pkk)).mono ?_;rintro e w' ⟨kn2,h1,h2,h3⟩;exact⟨kn2,h1,h2,h3.pck pkk⟩
        rintro kn2 ⟨hkn2,hlt2⟩;dsimp only[Srch.cells]
        generalize hoo:s.stp n (⟨[z0,z1,z2],zw⟩:Mor) acts=os at hsl2 ⊢
        refine zB (anb (qG 0 5 kr J J J J ?_ ?_))
        ·refine zZ J J F.agg133 F.ti133 (zB (anb (an1 5 J (yV (vs:=[(0,.agg ([.int .i64 (os.f:Int),.int .i64 (os.w:Int),.bool os.is]:List Value).toArray)]) [.int .i64 (os.f:Int),.int .i64 (os.w:Int),.bool os.is] J J U186 F.ti133 J J J (Lit.agg (l1:=[.int .i64 (os.f:Int),.int .i64 (os.w:Int),.bool os.is]) (l:=[]) J J) ?_))));intro b48;refine zB (anb (an1 6 J (jE (v:=.agg #[.int .i64 ((lst2 oc os).f:Int),.int .i64 ((lst2 oc os).w:Int),.bool (lst2 oc os).is]) (vs:=[_,_,_]) J J F.ent112 (fun a w ha=>zK8 _ _ os oc om om om om w (zPs ha (InB.mem (b:=b48) (o:=.cells (Oc.cells os).toArray 133 (0,0))))) (zB (anb (an1 7 J (zH J J F.ti133 J (zB (anb (adn (zJ (zCw (hp':=.blk r (.loop {rec with state:=.busy})::.blk D (.deferred (some []))::.blk b5 (OO ((lst2 oc os).f) ((lst2 oc os).w) ((lst2 oc os).is) 133)::.blk km (KS.obj kn2)::(.blk b4 (OO 0 0 false 133)::.blk b3 (O5 z0 z1 z2 zw d 129)::.blk b2 (PO sb 76)::.blk sb (SOb s km 99)::(T++hp))) pkk ?_))))))))))))
         refine zAz hst hpe (fun a w ha=>⟨(lst2 oc os,kn2),true,⟨rfl,⟨zFk hol hsl2,hkn2,fun e he=>?_⟩,by rw[<-hoo]⟩,rfl,?_⟩)
         ·rcases hlt2 e he with h|h
          ·exact hI.late e h
          ·exact .inr h
         have ha3:=(hay.backO (x:=w0.output) ha).pck (hp':=.blk r (.loop rec)::.blk D (.deferred (some []))::.blk b5 (OO ((lst2 oc os).f) ((lst2 oc os).w) ((lst2 oc os).is) 133)::.blk km (KS.obj kn2)::(.blk b4 (OO 0 0 false 133)::.blk b3 (O5 z0 z1 z2 zw d 129)::.blk b2 (PO sb 76)::.blk sb (SOb s km 99)::(T++hp))) pkk;exact ha3.permed (by simpa using (List.perm_append_comm (l₁:=.blk r (.loop rec)::.blk D (.deferred (some []))::.blk b5 (OO ((lst2 oc os).f) ((lst2 oc os).w) ((lst2 oc os).is) 133)::.blk km (KS.obj kn2)::(.blk b4 (OO 0 0 false 133)::.blk b3 (O5 z0 z1 z2 zw d 129)::.blk b2 (PO sb 76)::.blk sb (SOb s km 99)::T)) (l₂:=hp)))
        ·refine yV (vs:=[(0,.agg ([.int .i64 (os.f:Int),.int .i64 (os.w:Int),.bool os.is]:List Value).toArray)]) [.int .i64 (os.f:Int),.int .i64 (os.w:Int),.bool os.is] J J U186 F.ti133 J J J (Lit.agg (l1:=[.int .i64 (os.f:Int),.int .i64 (os.w:Int),.bool os.is]) (l:=[]) J J) ?_;intro b48;refine zB (anb (an1 0 J (zZ J J F.agg133 F.ti133 (zB (anb (an1 6 J (jE (v:=.agg #[.int .i64 ((lst2 oc os).f:Int),.int .i64 ((lst2 oc os).w:Int),.bool (lst2 oc os).is]) (vs:=[_,_,_]) J J F.ent112 (fun a w ha=>zK8 _ _ os oc om om om om w (zPs ha (InB.mem (b:=b48) (o:=.cells (Oc.cells os).toArray 133 (0,0))))) (zB (anb (an1 7 J (zH J J F.ti133 J (zB (anb (adn (zJ (zCw (hp':=.blk r (.loop {rec with state:=.busy})::.blk D (.deferred (some []))::.blk b5 (OO ((lst2 oc os).f) ((lst2 oc os).w) ((lst2 oc os).is) 133)::.blk km (KS.obj kn2)::(.blk b4 (OO 0 0 false 133)::.blk b3 (O5 z0 z1 z2 zw d 129)::.blk b2 (PO sb 76)::.blk sb (SOb s km 99)::(T++hp))) pkk ?_))))))))))))))))
         refine zAz hst hpe (fun a w ha=>⟨(lst2 oc os,kn2),true,⟨rfl,⟨zFk hol hsl2,hkn2,fun e he=>?_⟩,by rw[<-hoo]⟩,rfl,?_⟩)
         ·rcases hlt2 e he with h|h
          ·exact hI.late e h
          ·exact .inr h
         have ha3:=(hay.backO (x:=w0.output) ha).pck (hp':=.blk r (.loop rec)::.blk D (.deferred (some []))::.blk b5 (OO ((lst2 oc os).f) ((lst2 oc os).w) ((lst2 oc os).is) 133)::.blk km (KS.obj kn2)::(.blk b4 (OO 0 0 false 133)::.blk b3 (O5 z0 z1 z2 zw d 129)::.blk b2 (PO sb 76)::.blk sb (SOb s km 99)::(T++hp))) pkk;exact ha3.permed (by simpa using (List.perm_append_comm (l₁:=.blk r (.loop rec)::.blk D (.deferred (some []))::.blk b5 (OO ((lst2 oc os).f) ((lst2 oc os).w) ((lst2 oc os).is) 133)::.blk km (KS.obj kn2)::(.blk b4 (OO 0 0 false 133)::.blk b3 (O5 z0 z1 z2 zw d 129)::.blk b2 (PO sb 76)::.blk sb (SOb s km 99)::T)) (l₂:=hp)))
     refine (zJk (X:=Oc×List (Spot×Value)) (o:=fun _=>w0.output) (T:=(fun (x:Oc×List (Spot×Value))=>.blk r (.loop rec)::.blk D (.deferred (some []))::.blk b5 (OO x.1.f x.1.w x.1.is 133)::.blk km (KS.obj x.2)::.blk b4 (OO 0 0 false 133)::.blk b3 (O5 z0 z1 z2 zw d 129)::.blk b2 (PO sb 76)::.blk sb (SOb s km 99)::T)) (hp:=[]) hs3 hY (x:=(noOc,kn)) (zSm _ _ (fun l hl=>by have:=vW _ _ l hl;simpa using this) hI0) (hR.pck pkk)).mono (fun e w2 h=>?_);obtain⟨x',b,hr,he,h4⟩:=h;obtain⟨_,hI2,hv2⟩:=jDx hr hI0;refine⟨⟨_,he⟩,x',⟨hI2,hv2⟩,?_⟩
     have e:rec={rec with state:=.ready,pending:=none}:=by
      obtain⟨st,pe,_,_,_,_,_,_⟩:=rec;simp only at hst hpe;subst hst;subst hpe
      rfl
     rw[e] at h4;exact h4.pck pkk
    ·obtain⟨oy,kny⟩:=y;obtain⟨hIy,hoy⟩:=hy;dsimp only at hIy hoy ⊢;refine zJ (zD (zG (jS [.b km] F.follows 7 J (fl 7) J ?_)))
     have hnot:(((⟨[z0,z1,z2],zw⟩:Mor),d):Spot)∉kny.map (·.1):=fun h=>by
      obtain⟨e,he,e1⟩:=List.mem_map.1 h
      rcases hIy.late e he with h1|h1
      ·exact hmet (List.mem_map.2 ⟨e,h1,e1⟩)
      ·rw[e1] at h1;dsimp only at h1;omega
     refine zC 0 J J J (jJ J F.one76) (zC 1 J J J (qD J) (zC 2 J J J (xG J F.fi99_3 F.ti97) (zC 3 J J J (jJ J F.one97) (zC 4 J J J (kR J F.agg129 F.ti129) (zC 5 J J J (kR J F.agg133 F.ti133) (an1 6 J (zI0 KS J (l:=kny) (t:=(((⟨[z0,z1,z2],zw⟩:Mor),d):Spot)) (v:=.agg #[.int .i64 (oy.f:Int),.int .i64 (oy.w:Int),.bool oy.is]) (.inl J) J J J Tryz.underlying97 (hIy.ok.spots hs) ⟨hm,by show d<_;omega⟩ hnot (by repeat (first|exact Upd.head _|apply Upd.tail)) (zB (anb (adn (zD (csr (zZ J J F.agg133 F.ti133 (zH J J F.ti133 J (lnx (zV ?_))))))))))))))));have hadd:=hIy.ok.add hm (show d<s.days.length by omega) hnot;rw[hdl,<-hoy] at hadd;exact zZt .ret (.inl J) (.agg #[.int .i64 (oy.f:Int),.int .i64 (oy.w:Int),.bool oy.is]) (fun a w ha=>by exact xC (ha:=ha) J J F.agg133 F.ti133 J) (fun a w ha'=>⟨kny++[((((⟨[z0,z1,z2],zw⟩:Mor),d):Spot),.agg #[.int .i64 (oy.f:Int),.int .i64 (oy.w:Int),.bool oy.is])],⟨hadd,fun x hx=>(List.mem_append.1 hx).elim (fun h=>(hIy.late x h).imp id (fun h=>by omega)) (fun h=>.inr (by simp at h;rw[h];exact Nat.le_refl _))⟩,by rw[<-hoy];rfl,ha.back (ha'.pck pkk)⟩)

end
section
variable {A:List Res} {B n:Nat} {P:Program} {R:Ending->World->Prop} {fn:Func} {l:List Nat} {m:Mor} {w0:World} {x1 x2 x3 x4 x5 x6 x7:Res}
def colD (D:Nat):Deferred:={target:=.collected D,args:=#[]}
def dblk (D:Nat):Res:=.blk D (.deferred (some []))
def dnone (D:Nat):Res:=.blk D (.deferred none)
section
variable [I:Sys] {fr:LV} {hp:List Res} {N:Nat}
theorem zHo {ds:List Deferred} {x:Value} {a:Act}:∀(pend done:List Nat) (w:World),
  (∀w,At ⟨P,B,w0,N,ds⟩ fr ((pend.reverse++done).map dnone++hp) a w->ResV P fn a.tmps x w∧R (.returned x) w)->At ⟨P,B,w0,N,ds⟩ fr (pend.map dblk++(done.map dnone++hp)) a w->Leaves P fn a.tmps R (pend.map colD) .returning w
 | [],done,w,k,ha=>by
  obtain⟨h1,h2⟩:=k w (by simpa using ha)
  exact⟨x,h1,h2⟩
 | D::pend,done,w,k,ha=>by
  refine zIt (by simp) fun v₁ hv=>?_;have ha1:=ha.rely hv;have hD:=(ha1.own (dblk D) (by simp)).2
  have at2:At ⟨P,B,w0,N,ds⟩ fr (dnone D::(pend.map dblk++(done.map dnone++hp))) a (v₁.putObj D (.deferred none)):=by
   refine ha1.turn (r:=dblk D) (Upd.head _) ⟨rfl,rfl,rfl,by simp,fun k _ hk=>World.putObj_heap_other (fun e=>hk (by rw[e];rfl))⟩ ⟨(ha1.own (dblk D) (by simp)).1,?_⟩ (fun k hk=>.inl hk);exact World.putObj_heap_same (Array.getElem?_eq_some_iff.1 hD).1
  refine⟨_,run_takeDeferred hD,zHo pend (D::done) _ (fun w hw=>k w (by simpa using hw)) ?_⟩;exact at2.permed (by simpa using (List.perm_middle (a:=dnone D) (l₁:=pend.map dblk) (l₂:=done.map dnone++hp)).symm)
theorem zVs {Ds:List Nat} (x:Value)
  (hr:∀a w,At ⟨P,B,w0,N,Ds.map colD⟩ fr hp a w->ResV P fn a.tmps x w) (k:∀a w,At ⟨P,B,w0,N,Ds.map colD⟩ fr hp a w->R (.returned x) w) :
  Ex ⟨P,B,w0,N,Ds.map colD⟩ (bodyPostD P fn R) .ret fr (Ds.map dblk++hp):=by
 intro a w ha;show Leaves P fn a.tmps R a.defers .returning w;rw[ha.defs];refine zHo (x:=x) (hp:=hp) Ds [] w (fun w hw=>?_) (by simpa using ha);have h2:At ⟨P,B,w0,N,Ds.map colD⟩ fr hp a w:=hw.drop_res (List.sublist_append_right ..);exact⟨hr a w h2,k a w h2⟩
end
section
variable [I:Sys] {C:Ctx} {fr:LV} {hp hp':List Res} {a:Act} {w:World} {Q:QT} {e:Exit}
theorem zK9 (h:hp.Perm hp') (k:Ex C Q e fr hp'):Ex C Q e fr hp:=fun a w ha=>k a w (ha.permed h)
end
section
variable [I:Sys]
theorem zGv {s:Srch} (hs:s.Ok):∀n,BestC s n
 | 0=>zSn hs fun n h=>by cases h
 | n+1=>zSn hs fun n' h=>by
  obtain rfl:n=n':=om;exact zGv hs n
theorem zS6 {C:Ctx} {fr:LV} {hp:List Res} {Q:QT} {c:Code} (e size:Nat) (k:Cod C c Q fr (.row e size none 0 0 []::hp)):Cod C c Q fr hp:=fun a w ha=>k a w (ha.add_nil e size)
end
theorem perm8 {x8 m:Res} {B:List Res}:(x1::x2::x3::x4::x5::x6::x7::x8::m::(A++B)).Perm (x1::x2::x3::x4::x5::x6::x7::x8::(A++m::B)):=List.Perm.append_left [x1,x2,x3,x4,x5,x6,x7,x8] List.perm_middle.symm
theorem perm7c {B:List Res}:(x1::x2::x3::x4::x5::x6::x7::(A++B)).Perm (A++(x1::x2::x3::x4::x5::x6::x7::B)):=List.perm_append_comm_assoc [x1,x2,x3,x4,x5,x6,x7] A B
abbrev Meta:Type:=Option Addr×Nat×List Nat
def mcell (m:Meta):Value:=.slice m.1 m.2.2.length m.2.1
def mrow (m:Meta):Res:=.row 3 1 m.1 m.2.2.length m.2.1 (ints m.2.2)
section
variable (s:Srch)
def Srch.pick (n:Nat) (m:Mor):List Nat:=((exts [] s.fs.length).find? fun l=>decide (s.stp n m l=s.bst (n+1) m)).getD []
def Srch.nxt (n:Nat) (m:Mor) (l:List Nat):Nat×Mor:=dayE s.fs s.kiln m l (s.days.getD (s.days.length-(n+1)) 0)
def Srch.planL:Nat->Mor->List (List Nat)
 | 0,_=>[]
 | n+1,m=>s.pick n m::planL n (s.nxt n m (s.pick n m)).2
end
theorem zMt {g:List Nat->Oc}:∀(ls:List (List Nat)) (o:Oc),(ls.foldl (fun o l=>lst2 o (g l)) o)=o∨∃l∈ls,(ls.foldl (fun o l=>lst2 o (g l)) o)=g l
 | [],o=>.inl rfl
 | l::ls,o=>by
  rcases zMt (g:=g) ls (lst2 o (g l)) with h|⟨l',hl',h⟩
  ·by_cases e:oless (g l) o=true
   ·right;exact⟨l,by simp,by rw[List.foldl_cons,h];unfold lst2;rw[if_pos e]⟩
   ·left;rw[List.foldl_cons,h];unfold lst2;rw[if_neg e]
  ·exact .inr ⟨l',by simp[hl'],h⟩
theorem Srch.has {s:Srch} (h:(s.bst (n+1) m).is=true):∃l∈exts [] s.fs.length,s.stp n m l=s.bst (n+1) m:=by
 rw[s.bst_succ] at h ⊢
 rcases zMt (g:=s.stp n m) (exts [] s.fs.length) noOc with e|⟨l,hl,e⟩
 ·rw[e] at h;cases h
 ·exact⟨l,hl,e.symm⟩
theorem Srch.stp_is {s:Srch} (h:(s.stp n m l).is=true):(s.nxt n m l).1=0∧(s.bst n (s.nxt n m l).2).is=true∧s.alw (s.days.length-(n+1)) l=true:=by
 unfold Srch.stp stpO at h;unfold Srch.nxt
 split at h
 ·cases h
 ·rename_i h1
  split at h
  ·cases h
  ·rename_i h2;exact⟨by simpa using h2,h,by simpa using h1⟩
theorem Srch.pick_of {s:Srch} (h:(exts [] s.fs.length).find? (fun l=>decide (s.stp n m l=s.bst (n+1) m))=some l):s.pick n m=l:=by
 unfold Srch.pick;rw[h]
 rfl
theorem jDe {s:Srch} (hs:s.Ok) (hm:MOk m) (hl:l.length<=s.fs.length):MOk (s.nxt n m l).2:=by
 letI:Sys:=nSys TP (Cp 0 158 msgM) 0
 exact (yQ hs.ff hm hl hs.f3).1
structure Fnd where
 A:Option Addr
 c:Nat
 l:List Nat
 oA:Option Addr
 oc:Nat
abbrev PX:Type:=Option Fnd×List (Spot×Value)
def PPre (s:Srch) (x:PX) (l:List Nat):Prop:=x.1=none∧KnOk s x.2∧l.length=s.fs.length
def PStep (s:Srch) (n:Nat) (m:Mor) (_x:PX) (l:List Nat) (x':PX) (b:Bool):Prop:=KnOk s x'.2∧((b=true∧x'.1=none∧s.stp n m l≠s.bst (n+1) m)∨(b=false∧∃y,x'.1=some y∧y.l=l∧s.stp n m l=s.bst (n+1) m))
theorem zSx {s:Srch}:∀(ls:List (List Nat)) (x:PX),(∀l∈ls,l.length=s.fs.length)->x.1=none->KnOk s x.2->Ready (PPre s) (PStep s n m) x ls
 | [],_,_,_,_=>trivial
 | l::ls,x,hl,hx,hk=>⟨⟨hx,hk,hl l (by simp)⟩,fun x' hx'=>zSx ls x' (fun l h=>hl l (by simp[h])) (by
  rcases hx'.2 with h|h
  ·exact h.2.1
  ·cases h.1) hx'.1⟩
theorem jDm {s:Srch} {ls:List (List Nat)} {x x':PX} {b:Bool} (h:Runs (PStep s n m) x ls x' b) (hk:KnOk s x.2) (hx:x.1=none):KnOk s x'.2∧((x'.1=none∧∀l∈ls,s.stp n m l≠s.bst (n+1) m)∨∃y,x'.1=some y∧y.l∈ls∧ls.find? (fun l=>decide (s.stp n m l=s.bst (n+1) m))=some y.l):=by
 induction h with
 | nil x=>exact⟨hk,.inl ⟨hx,fun l hl=>by cases hl⟩⟩
 | cons h1 _ ih =>
  obtain⟨h2,⟨_,h3,h4⟩|⟨h3,_⟩⟩:=h1
  ·obtain⟨h5,⟨h6,h7⟩|⟨y,h6,h7,h8⟩⟩:=ih h2 h3
   ·exact⟨h5,.inl ⟨h6,fun l hl=>by
     rcases List.mem_cons.1 hl with rfl|hl
     ·exact h4
     ·exact h7 l hl⟩⟩
   ·exact⟨h5,.inr ⟨y,h6,by simp[h7],by rw[List.find?_cons_of_neg (by simpa using h4)];exact h8⟩⟩
  ·cases h3
 | stop h1 =>
  obtain⟨h2,⟨h3,_⟩|⟨_,y,h4,rfl,h5⟩⟩:=h1
  ·cases h3
  ·exact⟨h2,.inr ⟨y,h4,by simp,by rw[List.find?_cons_of_pos (by simpa using h5)]⟩⟩
end
section
abbrev OQ (o:Oc):Obj:=OO o.f o.w o.is 133
set_option linter.unusedSectionVars false
variable [I:Sys]
theorem F.one35:One TP 35:=⟨by unfold aggB;rw[Tryz.underlying35],by rw[Tryz.underlying35];simp⟩
theorem F.ti35:TI TP 35 (.slice none 0 0) 1 24:=TI.of kr
set_option maxRecDepth 4000 in
theorem zE8 {s:Srch} (hs:s.Ok) {B:Nat} {w0:World} {T:List Res} {N:Nat} {ds:List Deferred} {fr:LV} {a:Act} {w:World} {kn:List (Spot×Value)} {km sb:Nat} (hkn:KnOk s kn) (hE:Stays B w0 T s.Env) (ha:At ⟨TP,B,w0,N,ds⟩ fr (.blk km (KS.obj kn)::.blk sb (.cells (s.cells km).toArray 99 (0,0))::T) a w):Calls TP 57 #[pt sb] w fun e w'=>∃kn' oA oc mr,(((s.bst s.days.length (start s.fs)).is=true∧mr.reverse.map (·.2.2)=s.planL s.days.length (start s.fs)∧e=.returned (.tuple #[.slice oA mr.length oc,.int .i64 (((s.bst s.days.length (start s.fs)).f:Nat):Int),.bool true]))∨((s.bst s.days.length (start s.fs)).is=false∧mr=[]∧e=.returned (.tuple #[.slice none 0 0,.int .i64 0,.bool false])))∧KnOk s kn'∧At ⟨TP,B,w0,N,ds⟩ fr (.row 23 1 oA mr.length oc (mr.reverse.map mcell)::.blk km (KS.obj kn')::.blk sb (.cells (s.cells km).toArray 99 (0,0))::(mr.map mrow++T)) a w':=by
 have hs5:=hs.d5;have hs3:=hs.f3;have hm0:MOk (start s.fs):=wC hs3 hs.ff _ (Nat.le_refl _);obtain⟨x0,x1,x2,xw,hx,hx0,hx1,hx2,hxw⟩:=hm0.form;have hb0:=s.bst_le hs s.days.length (start s.fs);have ha0:At ⟨TP,B,w0,N,ds⟩ fr (.blk km (KS.obj kn)::.blk sb (SOb s km 99)::T) a w:=ha;refine zMm (N:=83) [(0,pt sb)] ha0 Tryz.func57 J Tryz.ntmps57 J J (csr (jT J J ?_));intro b1;refine zF J J (zF J J (lax J J (csr (zS J J F.one76 (xO J J (zAe J J F.fi99_0 F.ti78 (zZ (o:=0) (l:=[.slice s.fA s.fs.length s.fc,.int .i64 (s.kiln:Int),.slice s.dA s.days.length s.dc]) J J F.agg78 F.ti78 (jE (v:=.agg (V4 x0 x1 x2 xw).toArray) (vs:=[_]) J J F.ent66 (fun a w ha=>(zFf s.fA s.dA s.fc s.days.length s.dc s.kiln s.fs hs3 hs.ff w (hE _ _ _ _ _ _ (fun r hr=>by simp[hr]) ha).rf).mono (fun e w' h=>⟨h.1.trans (by rw[hx];rfl),h.2⟩)) (kM (vs:=[(0,_),(1,_)]) (l':=[_,_,_,_,_]) J J F.ti129 F.pl129 (.cons J J (.cons J J (.nil _))) J (zW J F.ti129 ?_))))))))));intro b5;refine zH J J F.ti129 J (lnx (csr (zS J J F.one76 (zZ J J F.agg129 F.ti129 ?_))))
 refine xT (X:=List (Spot×Value)) (first:=[]) (cap:=[]) (vs:=[_,_]) (p:=fun kn'=>KnOk s kn') (val:=fun _=>.agg #[.int .i64 ((s.bst s.days.length (start s.fs)).f:Int),.int .i64 ((s.bst s.days.length (start s.fs)).w:Int),.bool (s.bst s.days.length (start s.fs)).is]) (rs:=fun kn'=>.blk km (KS.obj kn')::.blk sb (SOb s km 99)::.blk b5 (.cells #[.int .i64 (x0:Int),.int .i64 (x1:Int),.int .i64 (x2:Int),.int .u8 (xw:Int),.int .i64 0] 129 (0,0))::.blk b1 (PO sb 76)::T) J J J F.ent94 (fun a w ha=>?_) ?_
 ·refine (zGv hs s.days.length B w0 (.blk b5 (.cells #[.int .i64 (x0:Int),.int .i64 (x1:Int),.int .i64 (x2:Int),.int .u8 (xw:Int),.int .i64 0] 129 (0,0))::.blk b1 (PO sb 76)::T) _ _ _ _ _ kn km sb 0 x0 x1 x2 xw om ⟨rfl,by simp;omega,hxw⟩ hkn (hE.more (fun r hr=>by simp[hr])) (ha.pck pkk)).mono ?_;rintro e w' ⟨kn',h1,h2,h3⟩;exact⟨kn',h1.1,h2.trans (by rw[hx];rfl),h3.pck pkk⟩
 rintro kn1 hkn1;dsimp only[Srch.cells]
 generalize ho0:s.bst s.days.length (start s.fs)=o0 at hb0 ⊢
 refine zW J F.ti133 ?_;intro b6;refine zH J J F.ti133 J (lnx (zG (csr (zI J J F.fi133_1 F.ti4 (zS J J F.one4 ?_)))))
 refine qC J J (lnx (kH J (fun hc0=>?_) (fun hc0=>?_)))
 ·exact csr (zF J J (zF J J (lax J J (zV (zU (zLl J (fun a w ha=>xB J J J J ha) (fun a w ha'=>⟨kn1,none,0,[],.inr ⟨by simpa using hc0,rfl,rfl⟩,hkn1,ha.back ((ha'.add_nil 23 1).pck pkk)⟩)))))))
 ·have his:(s.bst (s.days.length-0) (start s.fs)).is=true:=by rw[Nat.sub_zero,ho0];simpa using hc0
  refine zO (zD (csr (zW J F.ti35 ?_)));intro b7;refine lnx (zS6 23 1 (zLx (zD (zG (zQ (zD3 (T:=Mor×Nat×List (Spot×Value)×List Meta×Option Addr×Nat×List Nat) (fun g=>g.2.1<=s.days.length∧MOk g.1∧KnOk s g.2.2.1∧g.2.2.2.1.length=g.2.1∧(s.bst (s.days.length-g.2.1) g.1).is=true∧s.planL s.days.length (start s.fs)=g.2.2.2.1.reverse.map (·.2.2)++s.planL (s.days.length-g.2.1) g.1) (fun g=>s.days.length-g.2.1) (fun g=>⟨TP,B,w0,83,g.2.2.2.2.2.2.map colD⟩) (fun g=>[(1,pt b1),(5,pt b5),(6,pt b6),(7,pt b7)]) (fun g=>.blk b5 (.cells (Spot.cells (g.1,g.2.1)).toArray 129 (0,0))::.blk b7 (.cells #[.slice g.2.2.2.2.1 g.2.1 g.2.2.2.2.2.1] 35 (0,0))::.row 23 1 g.2.2.2.2.1 g.2.1 g.2.2.2.2.2.1 (g.2.2.2.1.reverse.map mcell)::.blk b6 (OO o0.f o0.w o0.is 133)::.blk b1 (PO sb 76)::.blk km (KS.obj g.2.2.1)::.blk sb (SOb s km 99)::(g.2.2.2.2.2.2.map dblk++(g.2.2.2.1.map mrow++T))) (fun _=>rfl) ((⟨[x0,x1,x2],xw⟩:Mor),0,kn1,[],none,0,[]) ⟨Nat.zero_le _,hx▸hm0,hkn1,rfl,hx▸his,by rw[hx];rfl⟩ (by rfl) sbn pkk ?_))))));rintro⟨m,k,kn2,mr,oA,oc,Ds⟩ ⟨hk,hm,hkn2,hmr,hbi,hpl⟩;dsimp only at hk hm hkn2 hmr hbi hpl ⊢;obtain⟨z0,z1,z2,zw,rfl,hz0,hz1,hz2,hzw⟩:=hm.form;rw[show Spot.cells ((⟨[z0,z1,z2],zw⟩:Mor),k)=[.int .i64 (z0:Int),.int .i64 (z1:Int),.int .i64 (z2:Int),.int .u8 (zw:Int),.int .i64 (k:Int)] from rfl];refine zG (zG (jS [] F.follows 10 J (fl 10) J (zC 0 J J J (zP J F.fi129_1 F.ti3) (zC 1 J J J (jJ J F.one3) (zC 2 J J J (jJ J F.one76) (zC 3 J J J (qD J) (zC 4 J J J (xG J F.fi99_0 F.ti78) (zC 5 J J J (xG J F.fi78_0 F.ti25) (zC 6 J J J (xG J F.fi25_2 F.ti23) (zC 7 J J J (jJ J F.one23) (zC 8 J J J (vQ J U23) (zC 9 J J J (kW J J jY) ?_))))))))))))
  refine adn (zD (zK J (fun hc1=>?_) (fun hc1=>?_)))
  ·obtain⟨n,hn⟩:∃n,s.days.length-k=n+1:=⟨s.days.length-k-1,by omega⟩;rw[hn] at hbi hpl;have hbo2:=s.bst_le hs (n+1) (⟨[z0,z1,z2],zw⟩:Mor);obtain⟨sugar,hsx⟩:∃x,s.days[k]?=some x:=⟨_,List.getElem?_eq_getElem om⟩;have hxs:sugar<=12:=hs.dd sugar (List.mem_of_getElem? hsx);refine zO (zD (zQ (zVb (csr (zS J J F.one76 (zZ J J F.agg129 F.ti129 (yD (φ:=∃db dbo,s.dA=some ⟨db,dbo,none⟩) (fun a w ha=>zLh (hE _ _ _ _ _ _ (fun r hr=>by simp[hr]) ha).rd om) (fun hdA=>?_))))))));obtain⟨db,dbo,hdA⟩:=hdA
   refine xT (X:=List (Spot×Value)) (first:=[]) (cap:=[]) (vs:=[_,_]) (p:=fun kn'=>KnOk s kn') (val:=fun _=>.agg #[.int .i64 ((s.bst (n+1) (⟨[z0,z1,z2],zw⟩:Mor)).f:Int),.int .i64 ((s.bst (n+1) (⟨[z0,z1,z2],zw⟩:Mor)).w:Int),.bool (s.bst (n+1) (⟨[z0,z1,z2],zw⟩:Mor)).is]) (rs:=fun kn'=>.blk b5 (O5 z0 z1 z2 zw k 129)::.blk b7 (.cells #[.slice oA k oc] 35 (0,0))::.row 23 1 oA k oc (mr.reverse.map mcell)::.blk b6 (OO o0.f o0.w o0.is 133)::.blk b1 (PO sb 76)::.blk km (KS.obj kn')::.blk sb (SOb s km 99)::(Ds.map dblk++(mr.map mrow++T))) J J J F.ent94 (fun a w ha=>?_) ?_
   ·refine (zGv hs (n+1) B w0 (.blk b5 (O5 z0 z1 z2 zw k 129)::.blk b7 (.cells #[.slice oA k oc] 35 (0,0))::.row 23 1 oA k oc (mr.reverse.map mcell)::.blk b6 (OO o0.f o0.w o0.is 133)::.blk b1 (PO sb 76)::(Ds.map dblk++(mr.map mrow++T))) _ _ _ _ _ kn2 km sb k z0 z1 z2 zw om hm hkn2 (hE.more (fun r hr=>by simp[hr])) (ha.pck pkk)).mono ?_;rintro e w' ⟨kn',h1,h2,h3⟩;exact⟨kn',h1.1,h2,h3.pck pkk⟩
   rintro kn3 hkn3;dsimp only[Srch.cells];refine zW J F.ti133 ?_;intro b8;refine zH J J F.ti133 J (lnx (zXd (fr':=[(1,pt b1),(5,pt b5),(6,pt b6),(7,pt b7),(8,pt b8)]) sbn (List.Sublist.refl _) (zLx (zD (zG (zVm (zD (csr (zS J J F.one76 (xO J J (zAe J J F.fi99_0 F.ti78 (zZ (o:=0) (l:=[.slice s.fA s.fs.length s.fc,.int .i64 (s.kiln:Int),.slice s.dA s.days.length s.dc]) J J F.agg78 F.ti78 (kJ (X:=Nat) (vs:=[_]) (p:=fun _=>True) (val:=fun b1=>.func (.func 114) #[] #[pt b1]) (rs:=fun b1=>[.blk b1 (.cells #[.slice s.fA s.fs.length s.fc,.int .i64 (s.kiln:Int),.slice s.dA s.days.length s.dc] 78 (0,0))]) J J F.ent95 (fun a w ha=>(zL4 s.fA s.dA s.fc s.days.length s.dc s.kiln s.fs w).mono (fun e w' h=>by obtain⟨b1,h1,h2⟩:=h;exact⟨b1,trivial,h1,h2⟩)) ?_)))))))))))));rintro bl -;dsimp only[List.cons_append,List.nil_append];have hlk:∀t v,look [(1,pt b1),(5,pt b5),(6,pt b6),(7,pt b7),(8,pt b8)] t=some v->look ((41,.func (.func 114) #[] #[pt bl])::(40,.agg #[.slice s.fA s.fs.length s.fc,.int .i64 (s.kiln:Int),.slice s.dA s.days.length s.dc])::(39,pt sb)::(38,pt sb)::(37,pt sb)::[(1,pt b1),(5,pt b5),(6,pt b6),(7,pt b7),(8,pt b8)]) t=some v:=fun t v hv=>Sub.look sbn t v hv
   refine lnx (zQ (zF6 (Y:=Fnd×List (Spot×Value)) (lb:=[pt bl]) (fun y=>(KnOk s y.2∧y.1.l∈exts [] s.fs.length∧(exts [] s.fs.length).find? (fun l=>decide (s.stp n (⟨[z0,z1,z2],zw⟩:Mor) l=s.bst (n+1) (⟨[z0,z1,z2],zw⟩:Mor)))=some y.1.l)) (fun _=>w0.output) (fun _=>some (.exit 2)) (fun _=>.exit 2) (fun y=>.blk b5 (.cells (Spot.cells ((s.nxt n (⟨[z0,z1,z2],zw⟩:Mor) y.1.l).2,k+1)).toArray 129 (0,0))::.blk b7 (.cells #[.slice y.1.oA (k+1) y.1.oc] 35 (0,0))::.row 23 1 y.1.oA (k+1) y.1.oc (mr.reverse.map mcell++[mcell (y.1.A,y.1.c,y.1.l)])::.blk km (KS.obj y.2)::mrow (y.1.A,y.1.c,y.1.l)::.blk b8 (OQ (s.bst (n+1) (⟨[z0,z1,z2],zw⟩:Mor)))::.blk b6 (OO o0.f o0.w o0.is 133)::.blk b1 (PO sb 76)::.blk sb (SOb s km 99)::(Ds.map dblk++(mr.map mrow++T))) J F.ent114 (fun _ _=>.inr ⟨_,rfl,rfl⟩) (fun r D rec a1 w1 hst hpe hps has hbo hsz hsl hR=>?_) (fun D y hy=>?_)))
   ·have hY:YSpL TP B w0 r (fun _=>w0.output) (fun (x:PX)=>match x.1 with|none=>.blk r (.loop rec)::.blk D (.deferred (some []))::.blk b5 (O5 z0 z1 z2 zw k 129)::.blk b7 (.cells #[.slice oA k oc] 35 (0,0))::.row 23 1 oA k oc (mr.reverse.map mcell)::.blk km (KS.obj x.2)::.blk b8 (OQ (s.bst (n+1) (⟨[z0,z1,z2],zw⟩:Mor)))::.blk b6 (OO o0.f o0.w o0.is 133)::.blk b1 (PO sb 76)::.blk sb (SOb s km 99)::(Ds.map dblk++(mr.map mrow++T))|some y=>.blk r (.loop {rec with state:=.done,pending:=some (.exit 2)})::.blk D (.deferred (some []))::.blk b5 (.cells (Spot.cells ((s.nxt n (⟨[z0,z1,z2],zw⟩:Mor) y.l).2,k+1)).toArray 129 (0,0))::.blk b7 (.cells #[.slice y.oA (k+1) y.oc] 35 (0,0))::.row 23 1 y.oA (k+1) y.oc (mr.reverse.map mcell++[mcell (y.A,y.c,y.l)])::.blk km (KS.obj x.2)::mrow (y.A,y.c,y.l)::.blk b8 (OQ (s.bst (n+1) (⟨[z0,z1,z2],zw⟩:Mor)))::.blk b6 (OO o0.f o0.w o0.is 133)::.blk b1 (PO sb 76)::.blk sb (SOb s km 99)::(Ds.map dblk++(mr.map mrow++T))) (PPre s) (PStep s n (⟨[z0,z1,z2],zw⟩:Mor)):=by
     intro x A ac acts hpre N ds fr hp ay wy hay;obtain⟨hx0,hkk,hal⟩:=hpre;obtain⟨fo,kn4⟩:=x;dsimp only at hx0 hkk;subst hx0;dsimp only at hay;have ha2:=hay.permed (List.Perm.cons _ List.perm_append_comm);simp only[List.cons_append] at ha2;have ha1:At ⟨TP,B,w0,N,ds⟩ fr (.blk r (.loop rec)::.row 3 1 A acts.length ac (ints acts)::.blk D (.deferred (some []))::.blk b5 (O5 z0 z1 z2 zw k 129)::.blk b7 (.cells #[.slice oA k oc] 35 (0,0))::.row 23 1 oA k oc (mr.reverse.map mcell)::.blk km (KS.obj kn4)::.blk b8 (OQ (s.bst (n+1) (⟨[z0,z1,z2],zw⟩:Mor)))::.blk b6 (OO o0.f o0.w o0.is 133)::.blk b1 (PO sb 76)::.blk sb (SOb s km 99)::((Ds.map dblk++(mr.map mrow++T))++hp)) ay wy:=ha2.pck pkk
     refine zJs (X:=Unit) (N:=83) (d:=42) (frC:=[(1,pt b1),(5,pt b5),(6,pt b6),(7,pt b7),(8,pt b8)]) (frB:=fun _=>(9,.slice A acts.length ac)::[(1,pt b1),(5,pt b5),(6,pt b6),(7,pt b7),(8,pt b8)]) (hp1:=fun _=>.row 3 1 A acts.length ac (ints acts)::.blk D (.deferred (some []))::.blk b5 (O5 z0 z1 z2 zw k 129)::.blk b7 (.cells #[.slice oA k oc] 35 (0,0))::.row 23 1 oA k oc (mr.reverse.map mcell)::.blk km (KS.obj kn4)::.blk b8 (OQ (s.bst (n+1) (⟨[z0,z1,z2],zw⟩:Mor)))::.blk b6 (OO o0.f o0.w o0.is 133)::.blk b1 (PO sb 76)::.blk sb (SOb s km 99)::((Ds.map dblk++(mr.map mrow++T))++hp)) ha1 hst hps hsz J (fun t u hu=>hsl t u (hlk t u hu)) (by rw[has];kernel_rfl) (by rw[hbo];kernel_rfl) ?_ ?_
     ·intro K hK;refine zEy has (zL (zF J J (zB ?_)));exact fun a w ha=>hK () a w ((ha.drop_slots sbn).pck pkk)
     ·intro _;refine zEy hbo (zQ (zG (zG (jS [.b km] F.follows 6 J (fl 6) J (zC 0 J J J (jJ J F.one76) (zC 1 J J J (kR J F.agg129 F.ti129) (anm 2 J J J (zC 4 J J J (kR J F.agg133 F.ti133) (an1 3 J ?_)))))))));have hsl2:=s.stp_le hs n (⟨[z0,z1,z2],zw⟩:Mor) (l:=acts) om
      refine xT (X:=List (Spot×Value)) (first:=[]) (cap:=[]) (vs:=[_,_,_]) (p:=fun kn'=>KnOk s kn') (val:=fun _=>.agg #[.int .i64 ((s.stp n (⟨[z0,z1,z2],zw⟩:Mor) acts).f:Int),.int .i64 ((s.stp n (⟨[z0,z1,z2],zw⟩:Mor) acts).w:Int),.bool (s.stp n (⟨[z0,z1,z2],zw⟩:Mor) acts).is]) (rs:=fun kn'=>.blk km (KS.obj kn')::.blk r (.loop {rec with state:=.busy})::.row 3 1 A acts.length ac (ints acts)::.blk D (.deferred (some []))::.blk b5 (O5 z0 z1 z2 zw k 129)::.blk b7 (.cells #[.slice oA k oc] 35 (0,0))::.row 23 1 oA k oc (mr.reverse.map mcell)::.blk b8 (OQ (s.bst (n+1) (⟨[z0,z1,z2],zw⟩:Mor)))::.blk b6 (OO o0.f o0.w o0.is 133)::.blk b1 (PO sb 76)::.blk sb (SOb s km 99)::((Ds.map dblk++(mr.map mrow++T))++hp)) J J J F.ent96 (fun a w ha=>?_) ?_
      ·refine (zPg hs (zGv hs n) (T:=.blk r (.loop {rec with state:=.busy})::.row 3 1 A acts.length ac (ints acts)::.blk D (.deferred (some []))::.blk b5 (O5 z0 z1 z2 zw k 129)::.blk b7 (.cells #[.slice oA k oc] 35 (0,0))::.row 23 1 oA k oc (mr.reverse.map mcell)::.blk b8 (OQ (s.bst (n+1) (⟨[z0,z1,z2],zw⟩:Mor)))::.blk b6 (OO o0.f o0.w o0.is 133)::.blk b1 (PO sb 76)::((Ds.map dblk++(mr.map mrow++T))++hp)) (kn:=kn4) (km:=km) (sb:=sb) (ac:=ac) (d:=k) om hm hz0 hz1 hz2 hzw hal hkk (hE.more (fun r hr=>by simp[hr])) ((Stays.row (c:=ac)).more (fun r hr=>by simp at hr;simp[hr])) (ha.pck pkk)).mono ?_;rintro e w' ⟨kn',h1,h2,h3⟩;exact⟨kn',h1.1,h2,h3.pck pkk⟩
      rintro kn6 hkn6;dsimp only[Srch.cells]
      generalize hoo:s.stp n (⟨[z0,z1,z2],zw⟩:Mor) acts=os at hsl2 ⊢
      refine zB (anb (zC 5 J J J (zLn (u:=Oc.val os) (u':=Oc.val (s.bst (n+1) (⟨[z0,z1,z2],zw⟩:Mor))) J J (zTs om om om om _ _)) ?_))
      refine adn (zD (zK J (fun hc2=>?_) (fun hc2=>?_)))
      ·refine jV (zN (zY (zCw (hp':=.blk r (.loop {rec with state:=.busy})::.blk D (.deferred (some []))::.blk b5 (O5 z0 z1 z2 zw k 129)::.blk b7 (.cells #[.slice oA k oc] 35 (0,0))::.row 23 1 oA k oc (mr.reverse.map mcell)::.blk km (KS.obj kn6)::.blk b8 (OQ (s.bst (n+1) (⟨[z0,z1,z2],zw⟩:Mor)))::.blk b6 (OO o0.f o0.w o0.is 133)::.blk b1 (PO sb 76)::.blk sb (SOb s km 99)::((Ds.map dblk++(mr.map mrow++T))++hp)) pkk (zAz hst hpe (fun a w ha=>⟨(none,kn6),true,⟨hkn6,.inl ⟨rfl,rfl,by rw[hoo];exact hc2⟩⟩,rfl,?_⟩)))));exact ((hay.backO (x:=w0.output) ha).pck (hp':=.blk r (.loop rec)::.blk D (.deferred (some []))::.blk b5 (O5 z0 z1 z2 zw k 129)::.blk b7 (.cells #[.slice oA k oc] 35 (0,0))::.row 23 1 oA k oc (mr.reverse.map mcell)::.blk km (KS.obj kn6)::.blk b8 (OQ (s.bst (n+1) (⟨[z0,z1,z2],zw⟩:Mor)))::.blk b6 (OO o0.f o0.w o0.is 133)::.blk b1 (PO sb 76)::.blk sb (SOb s km 99)::((Ds.map dblk++(mr.map mrow++T))++hp)) pkk).permed (by simpa using (List.perm_append_comm (l₁:=.blk r (.loop rec)::.blk D (.deferred (some []))::.blk b5 (O5 z0 z1 z2 zw k 129)::.blk b7 (.cells #[.slice oA k oc] 35 (0,0))::.row 23 1 oA k oc (mr.reverse.map mcell)::.blk km (KS.obj kn6)::.blk b8 (OQ (s.bst (n+1) (⟨[z0,z1,z2],zw⟩:Mor)))::.blk b6 (OO o0.f o0.w o0.is 133)::.blk b1 (PO sb 76)::.blk sb (SOb s km 99)::(Ds.map dblk++(mr.map mrow++T))) (l₂:=hp)))
      ·have heq:s.stp n (⟨[z0,z1,z2],zw⟩:Mor) acts=s.bst (n+1) (⟨[z0,z1,z2],zw⟩:Mor):=by rw[hoo];simpa using hc2
       have hglen:acts.length<=s.fs.length:=om;obtain⟨hok2,-⟩:=yQ (fs:=s.fs) (kiln:=s.kiln) (m:=(⟨[z0,z1,z2],zw⟩:Mor)) (acts:=acts) (sugar:=sugar) hs.ff hm hglen hs.f3;have htry:∀w,RdL Flt.cells 4 w s.fA s.fs->RdL ncell 1 w A acts->Calls TP 97 #[.agg #[.slice s.fA s.fs.length s.fc,.int .i64 (s.kiln:Int),.slice s.dA s.days.length s.dc],.agg (V4 z0 z1 z2 zw).toArray,.slice A acts.length ac,.int .i64 (sugar:Int)] w (fun e w'=>e=.returned (.tuple #[(dayE s.fs s.kiln (⟨[z0,z1,z2],zw⟩:Mor) acts sugar).2.val,.int .i64 (((dayE s.fs s.kiln (⟨[z0,z1,z2],zw⟩:Mor) acts sugar).1:Nat):Int)])∧Grew w w' []):=fun w hF hA=>zN2 s.fA s.dA A s.fc s.days.length s.dc ac s.kiln s.fs hs.f3 hs.ff z0 z1 z2 zw hz0 hz1 hz2 hzw acts hglen sugar hxs w hF hA
       have hnx:s.nxt n (⟨[z0,z1,z2],zw⟩:Mor) acts=dayE s.fs s.kiln (⟨[z0,z1,z2],zw⟩:Mor) acts sugar:=by
        unfold Srch.nxt;rw[show s.days.length-(n+1)=k from by omega,show s.days.getD k 0=sugar from by rw[List.getD_eq_getElem?_getD,hsx];rfl]
       generalize dayE s.fs s.kiln (⟨[z0,z1,z2],zw⟩:Mor) acts sugar=st at hok2 htry hnx ⊢
       obtain⟨er,nm⟩:=st;dsimp only at hok2 htry hnx ⊢;obtain⟨y0,y1,y2,yw,rfl,hy0,hy1,hy2,hyw⟩:=hok2.form
       refine zO (zD (zG (qF (G:=Nat) (fun _=>True) (fun b10=>(9,.slice A acts.length ac)::(10,pt b10)::[(1,pt b1),(5,pt b5),(6,pt b6),(7,pt b7),(8,pt b8)]) (fun b10=>.blk b10 (.cells (V4 y0 y1 y2 yw).toArray 93 (0,0))::.blk r (.loop {rec with state:=.busy})::.row 3 1 A acts.length ac (ints acts)::.blk D (.deferred (some []))::.blk b5 (O5 z0 z1 z2 zw k 129)::.blk b7 (.cells #[.slice oA k oc] 35 (0,0))::.row 23 1 oA k oc (mr.reverse.map mcell)::.blk km (KS.obj kn6)::.blk b8 (OQ (s.bst (n+1) (⟨[z0,z1,z2],zw⟩:Mor)))::.blk b6 (OO o0.f o0.w o0.is 133)::.blk b1 (PO sb 76)::.blk sb (SOb s km 99)::((Ds.map dblk++(mr.map mrow++T))++hp)) ?_ ?_)))
       ·refine jS [] F.follows 24 J (fl 24) J (zC 0 J J J (jJ J F.one76) (zC 1 J J J (qD J) (zC 2 J J J (xG J F.fi99_0 F.ti78) (zC 3 J J J (kR (o:=0) (l:=[.slice s.fA s.fs.length s.fc,.int .i64 (s.kiln:Int),.slice s.dA s.days.length s.dc]) J F.agg78 F.ti78) (zC 4 J J J (zP J F.fi129_0 F.ti93) (zC 5 J J J (kR J F.agg93 F.ti93) (anm 6 J J J (zC 7 J J J (jJ J F.one76) (zC 8 J J J (qD J) (zC 9 J J J (xG J F.fi99_0 F.ti78) (zC 10 J J J (xG J F.fi78_0 F.ti25) (zC 11 J J J (xG J F.fi25_2 F.ti23) (zC 12 J J J (jJ J F.one23) (zC 13 J J J (zP J F.fi129_1 F.ti3) (zC 14 J J J (jJ J F.one3) (zC 15 J J J (jG (j:=k) (show _=some (Value.slice (some ⟨db,dbo,none⟩) s.days.length s.dc) from by rw[<-hdA];rfl) J Tryz.underlying23 F.ti3 J (show k<s.days.length by omega)) (zC 16 J J J (jC (v:=.int .i64 (sugar:Int)) J F.one3 (fun a w ha=>zL2 (by have h:=(hE _ _ _ _ _ _ (fun r hr=>by simp[hr]) ha).rd;rw[hdA] at h;exact h) hsx)) ?_)))))))))))))))))
        refine qG 17 21 kr J J J J ?_ ?_
        ·refine jE (v:=.tuple #[.agg (V4 y0 y1 y2 yw).toArray,.int .i64 (er:Int)]) (vs:=[_,_,_,_]) J J F.ent97 (fun a w ha=>(htry w (hE _ _ _ _ _ _ (fun r hr=>by simp[hr]) ha).rf (Stays.row (c:=ac) _ _ _ _ _ _ (fun r hr=>by simp at hr;simp[hr]) ha)).mono (fun e w' h=>⟨h.1.trans J,h.2⟩)) (zB (anb (anm 18 J J J (zC 19 J J J (jN J J) (zC 20 J J J (jN J J) (an1 21 J (zW J F.ti93 ?_)))))));intro b10;exact zB (anb (an1 22 J (zH J J F.ti93 J (zB (anb (zC 23 J J J (jP J) (adn (jK b10 trivial sbn pkk))))))))
        ·refine zW J F.ti93 ?_;intro b10;exact zB (anb (an1 17 J (jE (v:=.tuple #[.agg (V4 y0 y1 y2 yw).toArray,.int .i64 (er:Int)]) (vs:=[_,_,_,_]) J J F.ent97 (fun a w ha=>(htry w (hE _ _ _ _ _ _ (fun r hr=>by simp[hr]) ha).rf (Stays.row (c:=ac) _ _ _ _ _ _ (fun r hr=>by simp at hr;simp[hr]) ha)).mono (fun e w' h=>⟨h.1.trans J,h.2⟩)) (zB (anb (anm 18 J J J (zC 19 J J J (jN J J) (zC 20 J J J (jN J J) (an1 22 J (zH J J F.ti93 J (zB (anb (zC 23 J J J (jP J) (adn (jK b10 trivial sbn pkk)))))))))))))))
       ·rintro b10 -;(try dsimp only)
        refine zD (zG (qF (G:=Option Addr×Nat) (fun _=>True) (fun x=>[]) (fun x=>.blk r (.loop {rec with state:=.busy})::.blk D (.deferred (some []))::.blk b5 (.cells #[.int .i64 (y0:Int),.int .i64 (y1:Int),.int .i64 (y2:Int),.int .u8 (yw:Int),.int .i64 ((k+1:Nat):Int)] 129 (0,0))::.blk b7 (.cells #[.slice x.1 (k+1) x.2] 35 (0,0))::.row 23 1 x.1 (k+1) x.2 (mr.reverse.map mcell++[mcell (A,ac,acts)])::.blk km (KS.obj kn6)::.row 3 1 A acts.length ac (ints acts)::.blk b8 (OQ (s.bst (n+1) (⟨[z0,z1,z2],zw⟩:Mor)))::.blk b6 (OO o0.f o0.w o0.is 133)::.blk b1 (PO sb 76)::.blk sb (SOb s km 99)::((Ds.map dblk++(mr.map mrow++T))++hp)) ?_ ?_))
        ·refine jS [.b b7,.b b5,.r oA] F.follows 11 J (fl 11) J (anm 1 J J J (zC 4 J J J (kR J F.agg93 F.ti93) (zC 5 J J J (zP J F.fi129_1 F.ti3) ?_)))
         refine zV8 (l3:=#[false,true,false,false,true,true,true,false,false,false,false]) 0 2 6 kr J J J J J J ?_ ?_ ?_
         ·refine zS J J F.one35 ?_
          refine zB (anb (qG 2 6 kr J J J J ?_ ?_))
          ·refine kB (vs:=[(0,_)]) J J U35 F.ti23 J J J ?_;intro b72
           refine zB (anb (qG 3 6 kr J J J J ?_ ?_))
           ·refine kI J J J Tryz.underlying35 F.ti23 J J J (by unfold maxLen;omega) om ?_;intro A3 c3
            refine zB (anb (qG 6 9 kr J J J J ?_ ?_))
            ·exact zS J J F.one3 (zB (anb (zC 7 J J J (kW (v:=.int .i64 ((k+1:Nat):Int)) J J bdP) (zC 8 J J J (vF (vs:=[(0,_),(1,_)]) (l':=[_,_,_,_,_]) J F.ti129 F.pl129 (.cons J J (.cons J J (.nil _))) J) (an1 9 J (zH J J F.ti35 J (zB (anb (an1 10 J (zH J J F.ti129 J (zB (anb (adn (jK (A3,c3) trivial sbn pkk))))))))))))))
            ·exact zH J J F.ti35 J (zB (anb (an1 6 J (zS J J F.one3 (zB (anb (zC 7 J J J (kW (v:=.int .i64 ((k+1:Nat):Int)) J J bdP) (zC 8 J J J (vF (vs:=[(0,_),(1,_)]) (l':=[_,_,_,_,_]) J F.ti129 F.pl129 (.cons J J (.cons J J (.nil _))) J) (an1 10 J (zH J J F.ti129 J (zB (anb (adn (jK (A3,c3) trivial sbn pkk))))))))))))))
           ·refine zS J J F.one3 (zB (anb (zC 7 J J J (kW (v:=.int .i64 ((k+1:Nat):Int)) J J bdP) (zC 8 J J J (vF (vs:=[(0,_),(1,_)]) (l':=[_,_,_,_,_]) J F.ti129 F.pl129 (.cons J J (.cons J J (.nil _))) J) (an1 3 J (kI J J J Tryz.underlying35 F.ti23 J J J (by unfold maxLen;omega) om ?_))))));intro A3 c3;exact zB (anb (an1 9 J (zH J J F.ti35 J (zB (anb (an1 10 J (zH J J F.ti129 J (zB (anb (adn (jK (A3,c3) trivial sbn pkk)))))))))))
          ·refine zS J J F.one3 (zB (anb (zC 7 J J J (kW (v:=.int .i64 ((k+1:Nat):Int)) J J bdP) (zC 8 J J J (vF (vs:=[(0,_),(1,_)]) (l':=[_,_,_,_,_]) J F.ti129 F.pl129 (.cons J J (.cons J J (.nil _))) J) (an1 2 J (kB (vs:=[(0,_)]) J J U35 F.ti23 J J J ?_))))));intro b72;refine zB (anb (an1 3 J (kI J J J Tryz.underlying35 F.ti23 J J J (by unfold maxLen;omega) om ?_)));intro A3 c3;exact zB (anb (an1 9 J (zH J J F.ti35 J (zB (anb (an1 10 J (zH J J F.ti129 J (zB (anb (adn (jK (A3,c3) trivial sbn pkk)))))))))))
         ·refine kB (vs:=[(0,_)]) J J U35 F.ti23 J J J ?_;intro b72
          refine zB (anb (qG 0 6 kr J J J J ?_ ?_))
          ·refine zS J J F.one35 ?_
           refine zB (anb (qG 3 6 kr J J J J ?_ ?_))
           ·refine kI J J J Tryz.underlying35 F.ti23 J J J (by unfold maxLen;omega) om ?_;intro A3 c3
            refine zB (anb (qG 6 9 kr J J J J ?_ ?_))
            ·exact zS J J F.one3 (zB (anb (zC 7 J J J (kW (v:=.int .i64 ((k+1:Nat):Int)) J J bdP) (zC 8 J J J (vF (vs:=[(0,_),(1,_)]) (l':=[_,_,_,_,_]) J F.ti129 F.pl129 (.cons J J (.cons J J (.nil _))) J) (an1 9 J (zH J J F.ti35 J (zB (anb (an1 10 J (zH J J F.ti129 J (zB (anb (adn (jK (A3,c3) trivial sbn pkk))))))))))))))
            ·exact zH J J F.ti35 J (zB (anb (an1 6 J (zS J J F.one3 (zB (anb (zC 7 J J J (kW (v:=.int .i64 ((k+1:Nat):Int)) J J bdP) (zC 8 J J J (vF (vs:=[(0,_),(1,_)]) (l':=[_,_,_,_,_]) J F.ti129 F.pl129 (.cons J J (.cons J J (.nil _))) J) (an1 10 J (zH J J F.ti129 J (zB (anb (adn (jK (A3,c3) trivial sbn pkk))))))))))))))
           ·refine zS J J F.one3 (zB (anb (zC 7 J J J (kW (v:=.int .i64 ((k+1:Nat):Int)) J J bdP) (zC 8 J J J (vF (vs:=[(0,_),(1,_)]) (l':=[_,_,_,_,_]) J F.ti129 F.pl129 (.cons J J (.cons J J (.nil _))) J) (an1 3 J (kI J J J Tryz.underlying35 F.ti23 J J J (by unfold maxLen;omega) om ?_))))));intro A3 c3;exact zB (anb (an1 9 J (zH J J F.ti35 J (zB (anb (an1 10 J (zH J J F.ti129 J (zB (anb (adn (jK (A3,c3) trivial sbn pkk)))))))))))
          ·refine zS J J F.one3 (zB (anb (zC 7 J J J (kW (v:=.int .i64 ((k+1:Nat):Int)) J J bdP) (zC 8 J J J (vF (vs:=[(0,_),(1,_)]) (l':=[_,_,_,_,_]) J F.ti129 F.pl129 (.cons J J (.cons J J (.nil _))) J) (an1 0 J (zS J J F.one35 (zB (anb (an1 3 J (kI J J J Tryz.underlying35 F.ti23 J J J (by unfold maxLen;omega) om ?_))))))))));intro A3 c3;exact zB (anb (an1 9 J (zH J J F.ti35 J (zB (anb (an1 10 J (zH J J F.ti129 J (zB (anb (adn (jK (A3,c3) trivial sbn pkk)))))))))))
         ·refine zS J J F.one3 (zB (anb (zC 7 J J J (kW (v:=.int .i64 ((k+1:Nat):Int)) J J bdP) (zC 8 J J J (vF (vs:=[(0,_),(1,_)]) (l':=[_,_,_,_,_]) J F.ti129 F.pl129 (.cons J J (.cons J J (.nil _))) J) ?_))))
          refine qG 0 2 kr J J J J ?_ ?_
          ·refine zS J J F.one35 (zB (anb (an1 2 J (kB (vs:=[(0,_)]) J J U35 F.ti23 J J J ?_))));intro b72;refine zB (anb (an1 3 J (kI J J J Tryz.underlying35 F.ti23 J J J (by unfold maxLen;omega) om ?_)));intro A3 c3;exact zB (anb (an1 9 J (zH J J F.ti35 J (zB (anb (an1 10 J (zH J J F.ti129 J (zB (anb (adn (jK (A3,c3) trivial sbn pkk)))))))))))
          ·refine kB (vs:=[(0,_)]) J J U35 F.ti23 J J J ?_;intro b72;refine zB (anb (an1 0 J (zS J J F.one35 (zB (anb (an1 3 J (kI J J J Tryz.underlying35 F.ti23 J J J (by unfold maxLen;omega) om ?_)))))));intro A3 c3;exact zB (anb (an1 9 J (zH J J F.ti35 J (zB (anb (an1 10 J (zH J J F.ti129 J (zB (anb (adn (jK (A3,c3) trivial sbn pkk)))))))))))
        ·rintro⟨A3,c3⟩ -;(try dsimp only);refine zD (jV (wE J (zCw (hp':=.blk r (.loop {rec with state:=.busy})::.blk D (.deferred (some []))::.blk b5 (.cells #[.int .i64 (y0:Int),.int .i64 (y1:Int),.int .i64 (y2:Int),.int .u8 (yw:Int),.int .i64 ((k+1:Nat):Int)] 129 (0,0))::.blk b7 (.cells #[.slice A3 (k+1) c3] 35 (0,0))::.row 23 1 A3 (k+1) c3 (mr.reverse.map mcell++[mcell (A,ac,acts)])::.blk km (KS.obj kn6)::.row 3 1 A acts.length ac (ints acts)::.blk b8 (OQ (s.bst (n+1) (⟨[z0,z1,z2],zw⟩:Mor)))::.blk b6 (OO o0.f o0.w o0.is 133)::.blk b1 (PO sb 76)::.blk sb (SOb s km 99)::((Ds.map dblk++(mr.map mrow++T))++hp)) pkk (zQx (j:=.exit 2) J (fun a w ha=>⟨(some ⟨A,ac,acts,A3,c3⟩,kn6),false,⟨hkn6,.inr ⟨rfl,_,rfl,rfl,heq⟩⟩,rfl,?_⟩)))));have ha5:=At.permed (hp':=hp++(.blk r (.loop {rec with state:=.done,pending:=some (.exit 2)})::.blk D (.deferred (some []))::.blk b5 (.cells #[.int .i64 (y0:Int),.int .i64 (y1:Int),.int .i64 (y2:Int),.int .u8 (yw:Int),.int .i64 ((k+1:Nat):Int)] 129 (0,0))::.blk b7 (.cells #[.slice A3 (k+1) c3] 35 (0,0))::.row 23 1 A3 (k+1) c3 (mr.reverse.map mcell++[mcell (A,ac,acts)])::.blk km (KS.obj kn6)::.row 3 1 A acts.length ac (ints acts)::.blk b8 (OQ (s.bst (n+1) (⟨[z0,z1,z2],zw⟩:Mor)))::.blk b6 (OO o0.f o0.w o0.is 133)::.blk b1 (PO sb 76)::.blk sb (SOb s km 99)::(Ds.map dblk++(mr.map mrow++T)):List Res)) (show At _ fr ((.blk r (.loop {rec with state:=.done,pending:=some (.exit 2)})::.blk D (.deferred (some []))::.blk b5 (.cells #[.int .i64 (y0:Int),.int .i64 (y1:Int),.int .i64 (y2:Int),.int .u8 (yw:Int),.int .i64 ((k+1:Nat):Int)] 129 (0,0))::.blk b7 (.cells #[.slice A3 (k+1) c3] 35 (0,0))::.row 23 1 A3 (k+1) c3 (mr.reverse.map mcell++[mcell (A,ac,acts)])::.blk km (KS.obj kn6)::.row 3 1 A acts.length ac (ints acts)::.blk b8 (OQ (s.bst (n+1) (⟨[z0,z1,z2],zw⟩:Mor)))::.blk b6 (OO o0.f o0.w o0.is 133)::.blk b1 (PO sb 76)::.blk sb (SOb s km 99)::(Ds.map dblk++(mr.map mrow++T)):List Res)++hp) _ _ from (hay.backO (x:=w0.output) ha).pck (hp':=.blk r (.loop {rec with state:=.done,pending:=some (.exit 2)})::.blk D (.deferred (some []))::.blk b5 (.cells #[.int .i64 (y0:Int),.int .i64 (y1:Int),.int .i64 (y2:Int),.int .u8 (yw:Int),.int .i64 ((k+1:Nat):Int)] 129 (0,0))::.blk b7 (.cells #[.slice A3 (k+1) c3] 35 (0,0))::.row 23 1 A3 (k+1) c3 (mr.reverse.map mcell++[mcell (A,ac,acts)])::.blk km (KS.obj kn6)::.row 3 1 A acts.length ac (ints acts)::.blk b8 (OQ (s.bst (n+1) (⟨[z0,z1,z2],zw⟩:Mor)))::.blk b6 (OO o0.f o0.w o0.is 133)::.blk b1 (PO sb 76)::.blk sb (SOb s km 99)::((Ds.map dblk++(mr.map mrow++T))++hp)) pkk) List.perm_append_comm;dsimp only;rw[hnx];exact ha5
    refine (zJk (X:=PX) (o:=fun _=>w0.output) (T:=(fun (x:PX)=>match x.1 with|none=>.blk r (.loop rec)::.blk D (.deferred (some []))::.blk b5 (O5 z0 z1 z2 zw k 129)::.blk b7 (.cells #[.slice oA k oc] 35 (0,0))::.row 23 1 oA k oc (mr.reverse.map mcell)::.blk km (KS.obj x.2)::.blk b8 (OQ (s.bst (n+1) (⟨[z0,z1,z2],zw⟩:Mor)))::.blk b6 (OO o0.f o0.w o0.is 133)::.blk b1 (PO sb 76)::.blk sb (SOb s km 99)::(Ds.map dblk++(mr.map mrow++T))|some y=>.blk r (.loop {rec with state:=.done,pending:=some (.exit 2)})::.blk D (.deferred (some []))::.blk b5 (.cells (Spot.cells ((s.nxt n (⟨[z0,z1,z2],zw⟩:Mor) y.l).2,k+1)).toArray 129 (0,0))::.blk b7 (.cells #[.slice y.oA (k+1) y.oc] 35 (0,0))::.row 23 1 y.oA (k+1) y.oc (mr.reverse.map mcell++[mcell (y.A,y.c,y.l)])::.blk km (KS.obj x.2)::mrow (y.A,y.c,y.l)::.blk b8 (OQ (s.bst (n+1) (⟨[z0,z1,z2],zw⟩:Mor)))::.blk b6 (OO o0.f o0.w o0.is 133)::.blk b1 (PO sb 76)::.blk sb (SOb s km 99)::(Ds.map dblk++(mr.map mrow++T)))) (hp:=[]) hs3 hY (x:=(none,kn3)) (zSx _ _ (fun l hl=>by have:=vW _ _ l hl;simpa using this) J hkn3) (hR.pck pkk)).mono (fun e w2 h=>?_);obtain⟨⟨fo,kn5⟩,b',hr,he,h4⟩:=h
    obtain⟨hk5,⟨_,hno⟩|⟨y,hy1,hy2,hy3⟩⟩:=jDm hr hkn3 J
    ·obtain⟨l,hl,hle⟩:=Srch.has hbi;exact absurd hle (hno l hl)
    ·dsimp only at hk5 hy1;subst hy1;refine⟨⟨_,he⟩,(y,kn5),⟨hk5,hy2,hy3⟩,?_⟩;dsimp only at h4;exact h4.pck pkk
   ·obtain⟨⟨yA,yc,yl,yoA,yoc⟩,kn5⟩:=y;obtain⟨hk5,hy2,hy3⟩:=hy;dsimp only at hk5 hy2 hy3 ⊢;refine zY (zKl (zJ (zCw (hp':=.blk b5 (.cells (Spot.cells ((s.nxt n (⟨[z0,z1,z2],zw⟩:Mor) yl).2,k+1)).toArray 129 (0,0))::.blk b7 (.cells #[.slice yoA (k+1) yoc] 35 (0,0))::.row 23 1 yoA (k+1) yoc (mr.reverse.map mcell++[mcell (yA,yc,yl)])::.blk b6 (OO o0.f o0.w o0.is 133)::.blk b1 (PO sb 76)::.blk km (KS.obj kn5)::.blk sb (SOb s km 99)::dblk D::mrow (yA,yc,yl)::(Ds.map dblk++(mr.map mrow++T))) pkk (zK9 (hp':=.blk b5 (.cells (Spot.cells ((s.nxt n (⟨[z0,z1,z2],zw⟩:Mor) yl).2,k+1)).toArray 129 (0,0))::.blk b7 (.cells #[.slice yoA (k+1) yoc] 35 (0,0))::.row 23 1 yoA (k+1) yoc (mr.reverse.map mcell++[mcell (yA,yc,yl)])::.blk b6 (OO o0.f o0.w o0.is 133)::.blk b1 (PO sb 76)::.blk km (KS.obj kn5)::.blk sb (SOb s km 99)::dblk D::(Ds.map dblk++(mrow (yA,yc,yl)::(mr.map mrow++T)))) perm8 ?_))))
    have hst2:=Srch.stp_is (s:=s) (n:=n) (m:=(⟨[z0,z1,z2],zw⟩:Mor)) (l:=yl) (by
     have h9:=List.find?_some hy3;simp only[decide_eq_true_eq] at h9
     rw[h9];exact hbi)
    have hyl:=vW _ _ _ hy2
    refine zBg ((s.nxt n (⟨[z0,z1,z2],zw⟩:Mor) yl).2,k+1,kn5,(yA,yc,yl)::mr,yoA,yoc,D::Ds) J ⟨by (try dsimp only);omega,jDe hs hm (by simp at hyl;omega),hk5,by simp[hmr],?_,?_⟩ tdo sbn ?_
    ·dsimp only;rw[show s.days.length-(k+1)=n from by omega];exact hst2.2.1
    ·dsimp only;rw[hpl,show s.days.length-(k+1)=n from by omega];rw[show s.planL (n+1) (⟨[z0,z1,z2],zw⟩:Mor)=s.pick n (⟨[z0,z1,z2],zw⟩:Mor)::s.planL n (s.nxt n (⟨[z0,z1,z2],zw⟩:Mor) (s.pick n (⟨[z0,z1,z2],zw⟩:Mor))).2 from rfl,Srch.pick_of hy3];simp
    dsimp only;rw[List.reverse_cons,List.map_append];exact pkk
  ·subst hmr;have hkl:mr.length=s.days.length:=om;have hpl2:s.planL s.days.length (start s.fs)=mr.reverse.map (·.2.2):=by rw[hpl,hkl,Nat.sub_self];simp[Srch.planL]
   exact jV (zN (zN (zY (zD (zG (jS [] F.follows 7 J (fl 7) J (zC 0 J J J (jJ J F.one35) (zC 1 J J J (zP J F.fi133_0 F.ti131) (zC 2 J J J (zP J F.fi131_0 F.ti3) (zC 3 J J J (jJ J F.one3) (zC 4 J J J (jP J) (zC 5 J J J (jP J) (zC 6 J J J (jP J) (adn (zD (zV (zK9 (hp':=Ds.map dblk++(.blk b5 (.cells (Spot.cells ((⟨[z0,z1,z2],zw⟩:Mor),mr.length)).toArray 129 (0,0))::.blk b7 (.cells #[.slice oA mr.length oc] 35 (0,0))::.row 23 1 oA mr.length oc (mr.reverse.map mcell)::.blk b6 (OO o0.f o0.w o0.is 133)::.blk b1 (PO sb 76)::.blk km (KS.obj kn2)::.blk sb (SOb s km 99)::(mr.map mrow++T))) perm7c (zVs (.tuple #[.slice oA mr.length oc,.int .i64 (o0.f:Int),.bool true]) (fun a w ha=>xB J J J J ha) (fun a w ha'=>⟨kn2,oA,oc,mr,.inl ⟨by rw[Nat.sub_zero,ho0] at his;exact his,hpl2.symm,rfl⟩,hkn2,ha.back (ha'.pck pkk)⟩)))))))))))))))))))

end
section
open Go.Conc
variable {P:Program} {b dc fc kiln n:Nat} {dA fA:Option Addr} {days:List Nat} {e k t:TypeId} {es:Array MapEntry} {fs:List Flt} {w w':World} {x:Operand}
section
variable [I:Sys] {C:Ctx} {fr:LV} {hp hp':List Res} {ops:Array Oper} {Q:QT} {rest:List Oper} {d:Nat} {dst:Option Nat} {ty:TypeId} {pos:String} {after:Array Edge}
theorem zHq {y y':Operand} {A:Option Addr} {len cap k m:Nat} {kd kd':IntKind} {z:Value} (hx:ev fr x=some (.slice A len cap)) (hy:ev fr y=some (.int kd (k:Int))) (hy':ev fr y'=some (.int kd' (k:Int)))
  (ht:C.P.underlying t=some (.slice e)) (he:TI C.P e z n m) (hle:k<=cap):Yld C ⟨dst,.slice t x none (some y) (some y'),ty,pos,after,none⟩ fr hp (.slice A k k):=by
 obtain⟨i',hi',_,hs,_⟩:=he;refine⟨rfl,fun a w ha=>⟨zF7 ..,?_⟩⟩;have hu:=ht;rw[<-zP4 ht] at hu;have h1:(0:Int)<=(k:Int):=om;have h2:((k:Int)<=(cap:Int)):=om;have h3:¬cap<k:=om;have hsz:(sizeOf e).run C.P w=.ok n w:=by simp[sizeOf,typeInfo,hi',hs]
 simp only[execOp,ha.eval hx,Option.map,ha.eval hy,ha.eval hy',Sem.run_bind,run_sliceAt_slice _ _ _ _ _ _ hu]
 cases A with
 | none=>simp[Instr.slice,run_underlying ht,Instr.sliceBounds,Instr.sliceBound,asIntOf,h1,hle,hsz]
 | some p =>
  have hp0:p.add 0=p:=by unfold Addr.add;split<;>simp_all
  simp[Instr.slice,run_underlying ht,Instr.sliceBounds,Instr.sliceBound,asIntOf,h1,hle,hsz,hp0]
theorem zRf (ht:P.underlying t=some (.map k e)) (cs:Array Bool) (w:World) (hb:w.heap[b]?=some (.map es n)):(builtin .len #[t] ty cs #[.map (some b)]).run P w=.ok (.value (.int .i64 (es.size:Int))) w:=by
 simp[builtin,Builtin.len_,run_underlying ht,MapKept.run_getObj_map hb,goInt]
theorem zRn (hx:ev fr x=some (.map (some b))) (ht:C.P.underlying t=some (.map k e)) (hb:Res.blk b (.map es n)∈hp) :
  Yld C ⟨dst,.call {callee:=.builtin .len,args:=#[x],argTypes:=#[t]},ty,pos,after,none⟩ fr hp (.int .i64 (es.size:Int)):=by
 refine⟨rfl,fun a w ha=>⟨yL fun _=>zJm,?_⟩⟩;have:=zRf (P:=C.P) (ty:=ty) ht (w:=w) (es:=es) (n:=n) (b:=b);simp only[execOp,resolve,ha.eval hx,Sem.run_bind,Sem.run_pure,Result.andThen_ok,invoke,List.map_toArray,List.map_cons,List.map_nil];exact this _ (ha.mem_blk hb)
end
theorem zOy {α:Type} (K:KT P k α) (l:List (α×Value)):((idxd l).map K.ent).toArray.size=l.length:=by simp[zJg]
structure ChV (fs:List Flt) (kiln:Nat) (days:List Nat):Prop where
 f1:1<=fs.length
 f3:fs.length<=3
 ff:∀f∈fs,FltOk f
 k3:kiln<=3
 d1:1<=days.length
 d4:days.length<=4
 dd:∀n∈days,n<=12
def toZs (l:List Nat):List Int:=l.map fun (n:Nat)=>(n:Int)
theorem chk0 (h:ChV fs kiln days):chk (fs.map Flt.toZ) kiln (toZs days)=0:=by
 obtain⟨h1,h3,hf,hk,d1,d4,dd⟩:=h;unfold chk toZs;simp only[List.length_map];have e1:szd (fs.length:Int) 1 3=0:=by unfold szd;rw[if_neg om,if_neg om]
 have e2:szd (days.length:Int) 1 4=0:=by unfold szd;rw[if_neg om,if_neg om]
 have e3:(fs.map Flt.toZ).any (fun f=>chkF f != 0)=false:=by
  rw[List.any_eq_false];intro f hfm;obtain⟨g,hg,rfl⟩:=List.mem_map.1 hfm;obtain⟨a1,a2,a3,a4⟩:=hf g hg
  have:chkF g.toZ=0:=by
   unfold chkF btw Flt.toZ;rw[if_pos];simp;omega
  simp[this]
 have e4:(days.map fun (n:Nat)=>(n:Int)).any (fun n=>!btw n 0 12)=false:=by
  rw[List.any_eq_false];intro n hn;obtain⟨g,hg,rfl⟩:=List.mem_map.1 hn;have:=dd g hg;unfold btw;simp;omega
 have e5:btw (kiln:Int) 0 3=true:=by unfold btw;simp;omega
 rw[e1,e2,e3,e4,e5]
 rfl
def anyS (fA dA:Option Addr) (fc dc kiln:Nat) (fs:List Flt) (days:List Nat):Srch:=⟨fA,dA,fc,dc,kiln,fs,days,92,93,[],[],fun _ _=>true,fun _=>true⟩
def bstA (fs:List Flt) (kiln:Nat) (days:List Nat):Oc:=bstO (fun _ _=>true) (fun _=>true) fs kiln days days.length (start fs)
def planA (fs:List Flt) (kiln:Nat) (days:List Nat):List (List Nat):=(anyS none none 0 0 kiln fs days).planL days.length (start fs)
theorem zPa:∀n m,(anyS fA dA fc dc kiln fs days).planL n m=(anyS none none 0 0 kiln fs days).planL n m
 | 0,_=>rfl
 | n+1,_m=>congrArg (List.cons _) (zPa n _)
section
variable [I:Sys]
theorem zRs (hF:RdL Flt.cells 4 w fA fs) (hD:RdL ncell 1 w dA days):(anyS fA dA fc dc kiln fs days).Env w :=
 ⟨hF,hD,fun A c d acts _ _ _=>zWh _ A _ c w,fun m hm=>by
  obtain⟨a,b,c,x,rfl,_⟩:=hm.form
  exact zU2 a b c x w⟩
theorem zM0 (hF:RdL Flt.cells 4 w fA fs) (hD:RdL ncell 1 w dA days):Stays w.heap.size w [] (anyS fA dA fc dc kiln fs days).Env :=
 fun _ _ _ _ _ _w' _ ha=>zRs (hF.later ha.below) (hD.later ha.below)
theorem zG0 (h:ChV fs kiln days):(anyS fA dA fc dc kiln fs days).Ok:=⟨h.f3,h.ff,Nat.le_succ_of_le h.d4,h.dd,jD Tryz.func92 rfl (by kernel_rfl),jD Tryz.func93 rfl (by kernel_rfl)⟩
class ReaC where
 low:Nat
 reach:∀{fA dA eA:Option Addr} {fc nd dc kiln ec:Nat} {fs:List Flt} {days gl:List Nat} (_:fs.length<=3) (_:∀f∈fs,FltOk f) (_:∀n∈days,n<=12) (_:days.length<=5) (w:World) (_:low<=w.heap.size) (_:w.output=gout [0])
  (_:∀b∈gl,∃cs t,w.heap[b]?=some (.cells cs t (0,0))∧0<cs.size) (_:0<fs.length->∃g o x,g∈gl∧fA=some ⟨g,o,x⟩) (_:RdL Flt.cells 4 w fA fs) (_:RdL ncell 1 w eA days),
  Calls TP 84 #[(CG fA fs.length fc kiln dA nd dc),.slice eA days.length ec] w fun e w'=>∃l b,e=.returned (.map (some b))∧l.Nodup∧(∀m,m∈l↔Rch fs kiln days m)∧(∀m∈l,MOk m)∧Grew w w' [.blk b (KM.obj (tr l))]
def RdC [R:ReaC] (w:World):Prop:=R.low<=w.heap.size∧w.output=gout [0]
theorem RdC.later [R:ReaC] {B:Nat} (h:RdC w) (hb:Below B w w'):RdC w':=⟨Nat.le_trans h.1 hb.size,hb.output.trans h.2⟩
def Lendy (w:World) (fA:Option Addr) (fs:List Flt):Prop:=0<fs.length->∃g o x cs t,fA=some ⟨g,o,x⟩∧w.heap[g]?=some (.cells cs t (0,0))∧0<cs.size
theorem Lendy.later (h:Lendy w fA fs) (hb:Below w.heap.size w w'):Lendy w' fA fs:=fun hl=>by
 obtain⟨g,o,x,cs,t,h1,h2,h3⟩:=h hl;exact⟨g,o,x,cs,t,h1,by rw[hb.block g (Array.getElem?_eq_some_iff.1 h2).1];exact h2,h3⟩
theorem jCu [R:ReaC] {eA:Option Addr} {nd ec:Nat} (h3:fs.length<=3) (hf:∀f∈fs,FltOk f) (hd:∀n∈days,n<=12) (hl:days.length<=5) (w:World) (hR:RdC w) (hL:Lendy w fA fs) (hF:RdL Flt.cells 4 w fA fs) (hD:RdL ncell 1 w eA days) :
  Calls TP 84 #[(CG fA fs.length fc kiln dA nd dc),.slice eA days.length ec] w fun e w'=>∃l b,e=.returned (.map (some b))∧l.Nodup∧(∀m,m∈l↔Rch fs kiln days m)∧(∀m∈l,MOk m)∧Grew w w' [.blk b (KM.obj (tr l))]:=by
 by_cases h0:0<fs.length
 ·obtain⟨g,o,x,cs,t,h1,h2,h4⟩:=hL h0;exact R.reach (gl:=[g]) h3 hf hd hl w hR.1 hR.2 (fun b hb=>by simp at hb;subst hb;exact⟨cs,t,h2,h4⟩) (fun _=>⟨g,o,x,by simp,h1⟩) hF hD
 ·exact R.reach (gl:=[]) h3 hf hd hl w hR.1 hR.2 (fun b hb=>by cases hb) (fun h=>absurd h h0) hF hD
end
instance reaC_main (low:Nat) : @ReaC (zSys TP (Cp low 158 msgM)):=@ReaC.mk (zSys TP (Cp low 158 msgM)) low fun h1 h2 h3 h4 w h5 h6 h7 h8 h9 h10=>@jAm (zSys TP (Cp low 158 msgM)) low _ _ _ _ _ _ _ _ _ _ _ h1 h2 h3 h4 w h5 h6 h7 h8 h9 h10
end
section
variable [I:Sys]
theorem F.agg25:aggB TP 25=true:=by unfold aggB;rw[Tryz.underlying25]
theorem F.ent33:Enters TP 33:=jD Tryz.func33 rfl kr
theorem F.ent56:Enters TP 56:=jD Tryz.func56 rfl kr
theorem F.ent57:Enters TP 57:=jD Tryz.func57 rfl kr
theorem F.pl78:Places TP 78 [(0,3)]:=.inl ⟨_,Tryz.underlying78,by kernel_rfl⟩
set_option maxRecDepth 4000 in
theorem zYe {fA dA:Option Addr} {fc dc kiln:Nat} {fs:List Flt} {days:List Nat} (hc:ChV fs kiln days) (w:World) (hF:RdL Flt.cells 4 w fA fs) (hD:RdL ncell 1 w dA days):Calls TP 15 #[(CG fA fs.length fc kiln dA days.length dc)] w fun e w'=>∃oA oc mr,(((bstA fs kiln days).is=true∧mr.reverse.map (·.2.2)=planA fs kiln days∧e=.returned (.tuple #[.slice oA mr.length oc,.int .i64 (((bstA fs kiln days).f:Nat):Int),.int .i64 0]))∨((bstA fs kiln days).is=false∧mr=[]∧e=.returned (.tuple #[.slice none 0 0,.int .i64 0,.int .i64 11])))∧Grew w w' (.row 23 1 oA mr.length oc (mr.reverse.map mcell)::mr.map mrow):=by
 refine enter (N:=26) [(0,(CG fA fs.length fc kiln dA days.length dc))] Tryz.func15 J Tryz.ntmps15 J J (csr (jT J J ?_));intro b1;refine zF J J (zF J J (lax J J (zG (csr (zZ J J F.agg25 F.ti25 ?_)))))
 refine jE (v:=.int .i64 0) (vs:=[_]) J J F.ent33 (fun a w ha=>by
  have h:=zAk (fA:=fA) (dA:=dA) (fc:=fc) (dc:=dc) (fs:=fs.map Flt.toZ) (kiln:=(kiln:Int)) (days:=toZs days) (by have:=hc.f3;simp;omega) (by have:=hc.d4;simp[toZs];omega) w (RdL.mapped Flt.toZ (hF.later ha.below) (fun _=>rfl)) (RdL.mapped (fun (n:Nat)=>(n:Int)) (hD.later ha.below) (fun _=>rfl));rw[chk0 hc] at h
  simpa[toZs] using h) ?_
 refine lax J J (csr (zA J J (zE J J J kT ?_)))
 refine lnx (zK J (fun hc0=>?_) (fun hc0=>?_))
 ·exact absurd J hc0
  done
 ·refine zO (zD (zG ?_))
  rcases his:(bstA fs kiln days).is with _|_
  ·refine zL (zZ J J F.agg25 F.ti25 (kM (vs:=[(0,_)]) (l':=[_,_,_]) J J F.ti78 F.pl78 (.cons J J (.nil _)) J (kJ (X:=Nat×Nat) (vs:=[_]) (p:=fun _=>True) (val:=fun g=>.pointer (some ⟨g.1,0,none⟩)) (rs:=fun g=>[.blk g.1 (.cells #[.slice fA fs.length fc,.int .i64 (kiln:Int),.slice dA days.length dc,.func (.func 92) #[] #[],.func (.func 93) #[] #[],.map (some g.2)] 99 (0,0)),.blk g.2 (KS.obj [])]) J J F.ent56 (fun a w ha=>(zHy fA dA fc days.length dc kiln fs w).mono (fun e w' h=>by obtain⟨b,km,h1,h2⟩:=h;exact⟨(b,km),trivial,h1,h2⟩)) ?_)));rintro⟨sb,km⟩ -;dsimp only[List.cons_append,List.nil_append]
   refine xT (X:=Option Addr×Nat×List Meta×List (Spot×Value)) (first:=[]) (cap:=[]) (vs:=[_]) (p:=fun g=>g.2.2.1=[]) (val:=fun g=>.tuple #[.slice none 0 0,.int .i64 0,.bool false]) (rs:=fun g=>.row 23 1 g.1 g.2.2.1.length g.2.1 (g.2.2.1.reverse.map mcell)::.blk km (KS.obj g.2.2.2)::.blk sb (.cells #[.slice fA fs.length fc,.int .i64 (kiln:Int),.slice dA days.length dc,.func (.func 92) #[] #[],.func (.func 93) #[] #[],.map (some km)] 99 (0,0))::(g.2.2.1.map mrow++[.blk b1 (CO fA fs.length fc kiln dA days.length dc 25)])) J J J F.ent57 (fun a w ha=>?_) ?_
   ·refine (zE8 (s:=(anyS fA dA fc dc kiln fs days)) (zG0 hc) (T:=[.blk b1 (CO fA fs.length fc kiln dA days.length dc 25)]) (km:=km) (sb:=sb) (KnOk.nil _) ((zM0 hF hD).more (fun r hr=>by cases hr)) (ha.pck pkk)).mono ?_;rintro e w' ⟨kn',oA,oc,mr,hcase,hk,hA⟩
    rcases hcase with ⟨h1,h2,h3⟩|⟨h1,h2,h3⟩
    ·exact absurd (his.symm.trans h1) (by simp)
    ·exact⟨(oA,oc,mr,kn'),h2,h3,hA⟩
   rintro⟨oA,oc,mr,kn'⟩ hp;dsimp only at hp ⊢;exact zA J J (jF J J J (jF J J J (jF J J J (zF J J (zF J J (lax J J (zG (csr (zA J J (qC J J (lnx (qE J (csr (zF J J (zF J J (lax J J (zV (zU (zX J (fun a w ha=>xB J J J J ha) (fun a w ha=>⟨oA,oc,mr,.inr ⟨rfl,hp,rfl⟩,ha.grown (.cons_cons _ (.cons _ (.cons _ (List.sublist_append_left ..))))⟩))))))))))))))))))))
  ·refine zL (zZ J J F.agg25 F.ti25 (kM (vs:=[(0,_)]) (l':=[_,_,_]) J J F.ti78 F.pl78 (.cons J J (.nil _)) J (kJ (X:=Nat×Nat) (vs:=[_]) (p:=fun _=>True) (val:=fun g=>.pointer (some ⟨g.1,0,none⟩)) (rs:=fun g=>[.blk g.1 (.cells #[.slice fA fs.length fc,.int .i64 (kiln:Int),.slice dA days.length dc,.func (.func 92) #[] #[],.func (.func 93) #[] #[],.map (some g.2)] 99 (0,0)),.blk g.2 (KS.obj [])]) J J F.ent56 (fun a w ha=>(zHy fA dA fc days.length dc kiln fs w).mono (fun e w' h=>by obtain⟨b,km,h1,h2⟩:=h;exact⟨(b,km),trivial,h1,h2⟩)) ?_)));rintro⟨sb,km⟩ -;dsimp only[List.cons_append,List.nil_append]
   refine xT (X:=Option Addr×Nat×List Meta×List (Spot×Value)) (first:=[]) (cap:=[]) (vs:=[_]) (p:=fun g=>g.2.2.1.reverse.map (·.2.2)=planA fs kiln days) (val:=fun g=>.tuple #[.slice g.1 g.2.2.1.length g.2.1,.int .i64 (((bstA fs kiln days).f:Nat):Int),.bool true]) (rs:=fun g=>.row 23 1 g.1 g.2.2.1.length g.2.1 (g.2.2.1.reverse.map mcell)::.blk km (KS.obj g.2.2.2)::.blk sb (.cells #[.slice fA fs.length fc,.int .i64 (kiln:Int),.slice dA days.length dc,.func (.func 92) #[] #[],.func (.func 93) #[] #[],.map (some km)] 99 (0,0))::(g.2.2.1.map mrow++[.blk b1 (CO fA fs.length fc kiln dA days.length dc 25)])) J J J F.ent57 (fun a w ha=>?_) ?_
   ·refine (zE8 (s:=(anyS fA dA fc dc kiln fs days)) (zG0 hc) (T:=[.blk b1 (CO fA fs.length fc kiln dA days.length dc 25)]) (km:=km) (sb:=sb) (KnOk.nil _) ((zM0 hF hD).more (fun r hr=>by cases hr)) (ha.pck pkk)).mono ?_;rintro e w' ⟨kn',oA,oc,mr,hcase,hk,hA⟩
    rcases hcase with ⟨h1,h2,h3⟩|⟨h1,h2,h3⟩
    ·exact⟨(oA,oc,mr,kn'),h2.trans (zPa _ _),h3,hA⟩
    ·exact absurd (his.symm.trans h1) (by simp)
   rintro⟨oA,oc,mr,kn'⟩ hp;dsimp only at hp ⊢;exact zA J J (jF J J J (jF J J J (jF J J J (zF J J (zF J J (lax J J (zG (csr (zA J J (qC J J (lnx (kL J (zO (zD (csr (zA J J (zA J J (zF J J (zF J J (lax J J (zV (zX J (fun a w ha=>xB J J J J ha) (fun a w ha=>⟨oA,oc,mr,.inl ⟨rfl,hp,rfl⟩,ha.grown (.cons_cons _ (.cons _ (.cons _ (List.sublist_append_left ..))))⟩)))))))))))))))))))))))

theorem jAx [R:ReaC] {fA dA:Option Addr} {fc dc kiln:Nat} {fs:List Flt} {days:List Nat} (hc:ChV fs kiln days) (hcap:days.length<=dc) (w:World) (hR:RdC w) (hL:Lendy w fA fs) (hF:RdL Flt.cells 4 w fA fs) (hD:RdL ncell 1 w dA days):Calls TP 37 #[(CG fA fs.length fc kiln dA days.length dc)] w fun e w'=>((∃d,d<days.length∧(∀j,j<d->∃m,Rch fs kiln (days.take (j+1)) m)∧(∀m,¬Rch fs kiln (days.take (d+1)) m)∧e=.returned (.tuple #[.int .i64 (d:Int),.int .i64 0]))∨((∀j,j<days.length->∃m,Rch fs kiln (days.take (j+1)) m)∧e=.returned (.tuple #[.int .i64 0,.int .i64 11])))∧Grew w w' []:=by
 refine enter (N:=31) [(0,(CG fA fs.length fc kiln dA days.length dc))] Tryz.func37 J Tryz.ntmps37 J J (csr (jT J J ?_));intro b1;refine zF J J (lax J J (zG (csr (zZ J J F.agg25 F.ti25 ?_))))
 refine jE (v:=.int .i64 0) (vs:=[_]) J J F.ent33 (fun a w ha=>by
  have h:=zAk (fA:=fA) (dA:=dA) (fc:=fc) (dc:=dc) (fs:=fs.map Flt.toZ) (kiln:=(kiln:Int)) (days:=toZs days) (by have:=hc.f3;simp;omega) (by have:=hc.d4;simp[toZs];omega) w (RdL.mapped Flt.toZ (hF.later ha.below) (fun _=>rfl)) (RdL.mapped (fun (n:Nat)=>(n:Int)) (hD.later ha.below) (fun _=>rfl));rw[chk0 hc] at h
  simpa[toZs] using h) ?_
 refine lax J J (csr (zA J J (zE J J J kT ?_)))
 refine lnx (zK J (fun hc0=>?_) (fun hc0=>?_))
 ·exact absurd J hc0
  done
 ·refine zO (zD (zG (csr (zI J J F.fi25_2 F.ti23 (zS J J F.one23 (jR J J U23 (zA J J (lnx (zQ (qT (G:=Nat) (fun k=>k<=days.length∧∀j,j<k->∃m,Rch fs kiln (days.take (j+1)) m) (fun k=>days.length-k) (fun k=>[(1,pt b1),(13,.int .i64 (days.length:Int)),(14,.int .i64 (k:Int))]) (fun k=>[.blk b1 (CO fA fs.length fc kiln dA days.length dc 25)]) 0 ⟨Nat.zero_le _,fun j hj=>absurd hj (Nat.not_lt_zero _)⟩ sbn sbl ?_))))))))));intro k hk;(try dsimp only at hk ⊢);refine csr (zE J J J jY ?_)
  refine lnx (zG (zK J (fun hc1=>?_) (fun hc1=>?_)))
  ·have hd4:=hc.d4;obtain⟨hkl,hkall⟩:=hk;have hdc:days.length<=dc:=hcap;refine zO (zD (zG (zQ (csr (zA J J (lax J J (zG (jS [] F.follows 12 J (fl 12) J (zC 0 J J J (kR J F.agg25 F.ti25) (zC 1 J J J (vF (vs:=[(0,_)]) (l':=[_,_,_]) J F.ti78 F.pl78 (.cons J J (.nil _)) J) (zC 2 J J J (zP J F.fi25_2 F.ti23) (zC 3 J J J (jJ J F.one23) (anm 4 J J J (zC 5 J J J (kW (v:=.int .i64 ((k+1:Nat):Int)) J J bdP) (anm 6 J J J (zC 7 J J J (kW (v:=.int .i64 ((k+1:Nat):Int)) J J bdP) (zC 8 J J J (zHq (k:=k+1) J J J U23 F.ti3 om) (an1 9 J ?_))))))))))))))))))
   refine kJ (X:=List Mor×Nat) (vs:=[_,_]) (p:=fun g=>(∀m,m∈g.1↔Rch fs kiln (days.take (k+1)) m)) (val:=fun g=>.map (some g.2)) (rs:=fun g=>[.blk g.2 (KM.obj (tr g.1))]) J J F.ent84 (fun a w ha=>?_) ?_
   ·have hlen:(days.take (k+1)).length=k+1:=by rw[List.length_take];omega
    have h:=jCu (dA:=dA) (nd:=days.length) (dc:=dc) (fc:=fc) (kiln:=kiln) (days:=days.take (k+1)) (eA:=dA) (ec:=k+1) hc.f3 hc.ff (fun n hn=>hc.dd n (List.mem_of_mem_take hn)) om w (hR.later ha.below) (hL.later ha.below) (hF.later ha.below) ((hD.later ha.below).take (k+1));rw[hlen] at h;refine h.mono ?_;rintro e w' ⟨l,b,h1,_,h2,_,h3⟩;exact⟨(l,b),h2,h1,h3⟩
   rintro⟨l,mb⟩ hl;dsimp only[List.cons_append,List.nil_append] at hl ⊢;refine zB (anb (an1 10 J (jBp J J (zRn J Tryz.underlying122 (InB.mem (b:=mb) (o:=KM.obj (tr l)))) (zB (anb (zC 11 J J J (kW J J kD) ?_))))))
   refine adn (zD (zK J (fun hc2=>?_) (fun hc2=>?_)))
   ·have hl0:l.length=0:=by rw[zOy,zPi] at hc2;omega
    have hln:l=[]:=List.length_eq_zero_iff.1 hl0;exact csr (zA J J (zF J J (lax J J (zV (jW (zU (zU (jW (zU (zX J (fun a w ha=>xN J J J ha) (fun a w ha=>⟨.inl ⟨k,by omega,hkall,fun m hm=>(by have:=(hl m).2 hm;rw[hln] at this;cases this),rfl⟩,ha.grown nsl⟩)))))))))))
   ·have hlp:0<l.length:=by rw[zOy,zPi] at hc2;omega
    obtain⟨m0,hm0⟩:∃m,m∈l:=List.exists_mem_of_length_pos hlp;refine zO (zJ (zD (zL (zE J J J bdO (zA J J (zB (kS (k+1) ⟨by omega,fun j hj=>?_⟩ tdo sbn pkk)))))))
    rcases Nat.lt_or_ge j k with h|h
    ·exact hkall j h
    ·obtain rfl:j=k:=om;exact⟨m0,(hl m0).1 hm0⟩
  ·obtain⟨hkl,hkall⟩:=hk;obtain rfl:k=days.length:=om;exact jV (zN (zN (zY (zD (csr (zF J J (lax J J (zV (zX J (fun a w ha=>xN J J J ha) (fun a w ha=>⟨.inr ⟨hkall,rfl⟩,ha.grown nsl⟩))))))))))

end
section
variable {A:Option Addr} {w:World} {x:Int}
abbrev MetaZ:Type:=Option Addr×Nat×List Int
def zmcell (m:MetaZ):Value:=.slice m.1 m.2.2.length m.2.1
structure RdZ (w:World) (A:Option Addr) (ms:List MetaZ):Prop where
 outer:RdL (fun m=>[zmcell m]) 1 w A ms
 inner:∀m∈ms,RdL zcell 1 w m.1 m.2.2
theorem RdZ.later [I:Sys] {w':World} {ms:List MetaZ} (h:RdZ w A ms) (hb:Below w.heap.size w w'):RdZ w' A ms:=⟨h.outer.later hb,fun m hm=>(h.inner m hm).later hb⟩
def strs (fs:List Flt) (m:Mor):List Nat:=m.s.take fs.length
def badK (l:List Int):Bool:=l.any fun n=>!btw n 0 3
def natL (l:List Int):List Nat:=l.map Int.toNat
def wk (fs:List Flt) (kiln:Nat) (days:List Nat):List (List Int)->Nat->Mor->Nat×List (List Nat)×Nat
 | [],_,_=>(0,[],0)
 | l::ls,d,m =>
  if szd l.length fs.length fs.length≠0 then (szd l.length fs.length fs.length,[],0)
  else if badK l=true then (8,[],0)
  else if (dayE fs kiln m (natL l) (days.getD d 0)).1≠0 then ((dayE fs kiln m (natL l) (days.getD d 0)).1,[],0)
  else if (wk fs kiln days ls (d+1) (dayE fs kiln m (natL l) (days.getD d 0)).2).1≠0 then ((wk fs kiln days ls (d+1) (dayE fs kiln m (natL l) (days.getD d 0)).2).1,[],0)
  else (0,strs fs (dayE fs kiln m (natL l) (days.getD d 0)).2::(wk fs kiln days ls (d+1) (dayE fs kiln m (natL l) (days.getD d 0)).2).2.1,spF (natL l)+(wk fs kiln days ls (d+1) (dayE fs kiln m (natL l) (days.getD d 0)).2).2.2)
def workE (fs:List Flt) (kiln:Nat) (days:List Nat) (plan:List (List Int)):Nat×List (List Nat)×Nat :=
 if szd plan.length days.length days.length≠0 then (szd plan.length days.length days.length,[],0)
 else if (wk fs kiln days plan 0 (start fs)).1≠0 then ((wk fs kiln days plan 0 (start fs)).1,[],0)
 else (0,strs fs (start fs)::(wk fs kiln days plan 0 (start fs)).2.1,(wk fs kiln days plan 0 (start fs)).2.2)
structure WkI (fs:List Flt) (kiln:Nat) (days:List Nat) (plan:List (List Int)) (k:Nat) (m:Mor) (fires:Nat) (out:List (List Nat)):Prop where
 le:k<=plan.length
 ok:MOk m
 code:(wk fs kiln days plan 0 (start fs)).1=(wk fs kiln days (plan.drop k) k m).1
 res:(wk fs kiln days (plan.drop k) k m).1=0->(wk fs kiln days plan 0 (start fs)).2.1=out++(wk fs kiln days (plan.drop k) k m).2.1∧(wk fs kiln days plan 0 (start fs)).2.2=fires+(wk fs kiln days (plan.drop k) k m).2.2
 fle:fires<=k
theorem WkI.first {fs:List Flt} {kiln:Nat} {days:List Nat} {plan:List (List Int)} (h:MOk (start fs)):WkI fs kiln days plan 0 (start fs) 0 []:=⟨Nat.zero_le _,h,rfl,fun _=>⟨rfl,by simp⟩,Nat.le_refl _⟩
section
variable {fs:List Flt} {kiln:Nat} {days:List Nat} {plan:List (List Int)} {k:Nat} {m:Mor} {fires:Nat} {out:List (List Nat)} {l:List Int}
theorem zIf (hl:plan[k]?=some l):plan.drop k=l::plan.drop (k+1):=by
 obtain⟨h,e⟩:=List.getElem?_eq_some_iff.1 hl;rw[List.drop_eq_getElem_cons h,e]
theorem WkI.short (h:WkI fs kiln days plan k m fires out) (hl:plan[k]?=some l) (h1:szd l.length fs.length fs.length≠0):(wk fs kiln days plan 0 (start fs)).1=szd l.length fs.length fs.length:=by
 rw[h.code,zIf hl];unfold wk;rw[if_pos h1]
theorem WkI.sort (h:WkI fs kiln days plan k m fires out) (hl:plan[k]?=some l) (h1:¬szd l.length fs.length fs.length≠0) (h2:badK l=true):(wk fs kiln days plan 0 (start fs)).1=8:=by
 rw[h.code,zIf hl];unfold wk;rw[if_neg h1,if_pos h2]
theorem WkI.day (h:WkI fs kiln days plan k m fires out) (hl:plan[k]?=some l) (h1:¬szd l.length fs.length fs.length≠0) (h2:badK l=false) (h3:(dayE fs kiln m (natL l) (days.getD k 0)).1≠0):(wk fs kiln days plan 0 (start fs)).1=(dayE fs kiln m (natL l) (days.getD k 0)).1:=by
 rw[h.code,zIf hl];unfold wk;rw[if_neg h1,if_neg (by rw[h2];simp),if_pos h3]
theorem WkI.next (h:WkI fs kiln days plan k m fires out) (hl:plan[k]?=some l) (h1:¬szd l.length fs.length fs.length≠0) (h2:badK l=false) (h3:¬(dayE fs kiln m (natL l) (days.getD k 0)).1≠0) (hok:MOk (dayE fs kiln m (natL l) (days.getD k 0)).2) :
  WkI fs kiln days plan (k+1) (dayE fs kiln m (natL l) (days.getD k 0)).2 (fires+spF (natL l)) (out++[strs fs (dayE fs kiln m (natL l) (days.getD k 0)).2]):=by
 have hk:=(List.getElem?_eq_some_iff.1 hl).1
 have e:wk fs kiln days (plan.drop k) k m=if (wk fs kiln days (plan.drop (k+1)) (k+1) (dayE fs kiln m (natL l) (days.getD k 0)).2).1≠0 then ((wk fs kiln days (plan.drop (k+1)) (k+1) (dayE fs kiln m (natL l) (days.getD k 0)).2).1,[],0)
   else (0,strs fs (dayE fs kiln m (natL l) (days.getD k 0)).2::(wk fs kiln days (plan.drop (k+1)) (k+1) (dayE fs kiln m (natL l) (days.getD k 0)).2).2.1,spF (natL l)+(wk fs kiln days (plan.drop (k+1)) (k+1) (dayE fs kiln m (natL l) (days.getD k 0)).2).2.2):=by
  rw[zIf hl]
  conv=>lhs;unfold wk
  rw[if_neg h1,if_neg (by rw[h2];simp),if_neg h3]
 have hs:=zAt (natL l)
 refine⟨by omega,hok,?_,fun h0=>?_,by have:=h.fle;omega⟩
 ·rw[h.code,e]
  split
  ·rfl
  ·rename_i h4;simp at h4;exact h4.symm
 ·have h4:(wk fs kiln days (plan.drop k) k m).1=0:=by rw[e,if_neg (by simpa using h0)]
  obtain⟨r1,r2⟩:=h.res h4;rw[r1,r2,e,if_neg (by simpa using h0)];simp;omega
theorem WkI.last (h:WkI fs kiln days plan k m fires out) (hk:k=plan.length):(wk fs kiln days plan 0 (start fs))=(0,out,fires):=by
 subst hk;have h1:=h.code;have h2:=h.res;rw[List.drop_length] at h1 h2;obtain⟨r1,r2⟩:=h2 J;exact Prod.ext h1 (Prod.ext (by rw[r1];simp[wk]) (by rw[r2];simp[wk]))
end
theorem zXi {l:List Int} {k:Nat} (hx:l[k]?=some x) (h:badK (l.take k)=false) (hb:btw x 0 3=true):badK (l.take (k+1))=false:=by
 unfold badK at h ⊢;rw[List.take_add_one,hx,List.any_append,h];simp[hb]
theorem zVd {l:List Int} {k:Nat} (hx:l[k]?=some x) (hb:btw x 0 3=false):badK l=true:=List.any_eq_true.2 ⟨x,List.mem_of_getElem? hx,by simp[hb]⟩
theorem zXb {l:List Int} (h:badK l=false):l=(natL l).map fun (n:Nat)=>(n:Int):=by
 unfold badK at h;rw[List.any_eq_false] at h;unfold natL;rw[List.map_map];refine (List.map_id l).symm.trans (List.map_congr_left fun x hx=>?_);have:=h x hx;unfold btw at this;simp at this;simp;omega
theorem RdL.nats {l:List Int} (h:RdL zcell 1 w A l) (hb:badK l=false):RdL ncell 1 w A (natL l):=fun hl=>by
 have e:=zXb hb;obtain⟨b,o,h1,h2,h3⟩:=h (by rw[e];simpa using hl);refine⟨b,o,h1,h2,fun k x hk j u hu=>?_⟩;refine h3 k (x:Int) (by rw[e,List.getElem?_map,hk];rfl) j u hu
theorem zWa {z0 z1 z2:Nat} {w:Value} {n j:Nat} {u:Value} (h:(ints ([z0,z1,z2].take n))[j]?=some u):[Value.int .i64 (z0:Int),.int .i64 (z1:Int),.int .i64 (z2:Int),w][j]?=some u:=by
 unfold ints at h;rw[List.getElem?_map] at h;obtain⟨x,hx,rfl⟩:=Option.map_eq_some_iff.1 h
 have h2:[z0,z1,z2][j]?=some x:=by
  rw[List.getElem?_take] at hx
  split at hx
  ·exact hx
  ·cases hx
 rcases j with _|_|_|j
 ·simp at h2 ⊢;omega
 ·simp at h2 ⊢;omega
 ·simp at h2 ⊢;omega
 ·simp at h2
end
section
section
variable [I:Sys] {C:Ctx} {fr:LV} {hp hp':List Res} {dst:Option Nat} {ty:TypeId} {pos:String} {after:Array Edge}
theorem zTl {x:Operand} {s ft:TypeId} {f off:Nat} {vs:List Value} {v:Value} (hx:ev fr x=some (.agg vs.toArray)) (hf:FI C.P s f ft off) (ho:One C.P ft) (hv:vs[off]?=some v):Yld C ⟨dst,.field s x f,ty,pos,after,none⟩ fr hp v:=by
 obtain⟨fs,fd,h1,h2,h3,h4⟩:=hf;refine⟨rfl,fun a w ha=>⟨zNd ..,?_⟩⟩;have hag:(isAgg fd.type).run C.P w=.ok false w:=by rw[h3];exact zAb ho.1 ho.2 w
 have hv':vs[fd.offset]?=some v:=by rw[h4];exact hv
 simp[execOp,ha.eval hx,Instr.field,run_underlying h1,h2,asAgg,part,hag,hv']
end
end
section
variable [I:Sys]
theorem F.ent102:Enters TP 102:=jD Tryz.func102 rfl kr
theorem zWj (fA dA:Option Addr) (fc nd dc kiln:Nat) (fs:List Flt) (h3:fs.length<=3) (z0 z1 z2 zw:Nat) (w:World):Calls TP 102 #[(CG fA fs.length fc kiln dA nd dc),.agg (V4 z0 z1 z2 zw).toArray] w fun e w'=>∃A c,e=.returned (.slice A fs.length c)∧Grew w w' [.row 3 1 A fs.length c (ints ([z0,z1,z2].take fs.length))]:=by
 refine enter (N:=13) [(0,(CG fA fs.length fc kiln dA nd dc)),(1,.agg (V4 z0 z1 z2 zw).toArray)] Tryz.func102 J Tryz.ntmps102 J J (csr (jT J J ?_));intro b2;refine jT J J ?_;intro b3;refine lax J J (csr (zDz J U23 F.ti3 ?_));intro b5;refine zBv 1 (.head _) (zI J J F.fi93_0 F.ti90 (zI J J F.fi78_0 F.ti25 (zI J J F.fi25_0 F.ti22 (zS J J F.one22 (jR J J U22 (zNy J J J Tryz.underlying90 F.ti3 h3 ?_))))))
 refine zKn (l:=[z0,z1,z2].take fs.length) J J J U23 F.ti3 J (fun a w ha j u hu=>by
  have h9:=ha.mem_blk (InB.mem (b:=b3) (o:=.cells (V4 z0 z1 z2 zw).toArray 93 (0,0)));rw[xW,cell_of_row w b3 _ _ _ _ h9];have h8:=zWa (w:=.int .u8 (zw:Int)) hu
  simpa using h8) (by simp;omega) (by unfold maxLen;omega) om ?_
 intro A1 c1;exact lax J J (zV (zX J (rsO J J) (fun a w ha=>⟨A1,c1,by rw[Nat.zero_add],by rw[Nat.zero_add] at ha;exact ha.grown (.cons_cons _ nsl)⟩)))

theorem zYm {fA dA pA:Option Addr} {fc dc pc kiln:Nat} {fs:List Flt} {days:List Nat} {ms:List MetaZ} (hc:ChV fs kiln days) (hml0:ms.length<1000000) (hms:∀m∈ms,m.2.2.length<1000000) (w:World) (hF:RdL Flt.cells 4 w fA fs) (hD:RdL ncell 1 w dA days) (hP:RdZ w pA ms):Calls TP 80 #[(CG fA fs.length fc kiln dA days.length dc),.slice pA ms.length pc] w fun e w'=>∃(oA:Option Addr) (oc:Nat) (mr:List Meta),mr.reverse.map (·.2.2)=(workE fs kiln days (ms.map (·.2.2))).2.1∧e=.returned (.tuple #[.slice oA mr.length oc,.int .i64 (((workE fs kiln days (ms.map (·.2.2))).2.2:Nat):Int),.int .i64 (((workE fs kiln days (ms.map (·.2.2))).1:Nat):Int)])∧Grew w w' (.row 23 1 oA mr.length oc (mr.reverse.map mcell)::mr.map mrow):=by
 have hm0:MOk (start fs):=wC hc.f3 hc.ff _ (Nat.le_refl _);obtain⟨x0,x1,x2,xw,hx,hx0,hx1,hx2,hxw⟩:=hm0.form;obtain⟨db,dbo,hdA⟩:=zLh hD hc.d1;refine enter (N:=100) [(0,(CG fA fs.length fc kiln dA days.length dc)),(1,.slice pA ms.length pc)] Tryz.func80 J Tryz.ntmps80 J J (csr (jT J J ?_));intro b2;refine zF J J (zF J J (lax J J (zG (csr (zA J J (jR J J U35 (zI J J F.fi78_0 F.ti25 (zI J J F.fi25_2 F.ti23 (zS J J F.one23 (jR J J U23 (zI J J F.fi78_0 F.ti25 (zI J J F.fi25_2 F.ti23 (zS J J F.one23 (jR J J U23 (jE (v:=.int .i64 ((szd ms.length (days.length) (days.length):Nat):Int)) (vs:=[_,_,_]) J J F.ent82 (fun a w ha=>zH5 (ms.length) (days.length) (days.length) w) (lax J J (csr (zA J J (zE J J J kT ?_)))))))))))))))))))
 refine lnx (zK J (fun hc0=>?_) (fun hc0=>?_))
 ·exact csr (zA J J (zF J J (zF J J (lax J J (zV (zU (zX J (fun a w ha=>xB J J J J ha) (fun a w ha=>⟨none,0,[],by rw[show workE fs kiln days (ms.map (·.2.2))=(szd ms.length days.length days.length,[],0) from by unfold workE;rw[List.length_map,if_pos om]];rfl,by rw[show workE fs kiln days (ms.map (·.2.2))=(szd ms.length days.length days.length,[],0) from by unfold workE;rw[List.length_map,if_pos om]];rfl,(ha.add_nil 23 1).grown (.cons_cons _ nsl)⟩))))))))
 ·skip
  refine zO (zD (csr (zZ J J F.agg78 F.ti78 (jE (v:=.agg (V4 x0 x1 x2 xw).toArray) (vs:=[_]) J J F.ent66 (fun a w ha=>(zFf fA dA fc days.length dc kiln fs hc.f3 hc.ff w (hF.later ha.below)).mono (fun e w' h=>⟨h.1.trans (by rw[hx];rfl),h.2⟩)) (zW J F.ti93 ?_)))));intro b8;refine zH J J F.ti93 J (lnx (csr (zZ J J F.agg78 F.ti78 (zZ J J F.agg93 F.ti93 ?_))))
  refine kJ (X:=Option Addr×Nat) (vs:=[_,_]) (p:=fun _=>True) (val:=fun g=>.slice g.1 ([x0,x1,x2].take fs.length).length g.2) (rs:=fun g=>[mrow (g.1,g.2,[x0,x1,x2].take fs.length)]) J J F.ent102 (fun a w ha=>(zWj fA dA fc days.length dc kiln fs hc.f3 x0 x1 x2 xw w).mono (fun e w' h=>by
   obtain⟨A,c,h1,h2⟩:=h;have hlt:([x0,x1,x2].take fs.length).length=fs.length:=by have:=hc.f3;simp;omega
   exact⟨(A,c),trivial,by rw[hlt];exact h1,by unfold mrow;dsimp only;rw[hlt];exact h2⟩)) ?_
  rintro⟨A1,c1⟩ -;dsimp only[List.cons_append,List.nil_append];refine kB (vs:=[(0,_)]) J J U35 F.ti23 J J J ?_;intro b37;refine zOn (.head _) (lax J J (csr (lax J J (zG (csr (zA J J (jR J J Tryz.underlying35 (zA J J (lnx (zQ (qU (G:=Mor×Nat×Nat×List Meta×Option Addr×Nat×List (List Nat)) (fun g=>WkI fs kiln days (ms.map (·.2.2)) g.2.1 g.1 g.2.2.1 g.2.2.2.2.2.2∧g.2.2.2.1.reverse.map (·.2.2)=strs fs (start fs)::g.2.2.2.2.2.2∧g.2.2.2.1.length=g.2.1+1) (fun g=>ms.length-g.2.1) (fun g=>[(2,pt b2),(8,pt b8),(9,.slice g.2.2.2.2.1 g.2.2.2.1.length g.2.2.2.2.2.1),(10,.int .i64 (g.2.2.1:Int)),(38,.slice pA ms.length pc),(39,.int .i64 (ms.length:Int)),(40,.int .i64 (g.2.1:Int))]) (fun g=>.blk b8 (.cells (Mor.cells g.1).toArray 93 (0,0))::.row 23 1 g.2.2.2.2.1 g.2.2.2.1.length g.2.2.2.2.2.1 (g.2.2.2.1.reverse.map mcell)::.blk b2 (CO fA fs.length fc kiln dA days.length dc 78)::g.2.2.2.1.map mrow) ((⟨[x0,x1,x2],xw⟩:Mor),0,0,[(A1,c1,[x0,x1,x2].take fs.length)],some ⟨b37,0,none⟩,1,[]) ⟨hx▸WkI.first hm0,by rw[hx];rfl,rfl⟩ sbn pkk ?_)))))))))));rintro⟨m,k,fires,mr,oA,oc,out⟩ ⟨hI,hmr,hml⟩;dsimp only at hI hmr hml ⊢;obtain⟨z0,z1,z2,zw,rfl,hz0,hz1,hz2,hzw⟩:=hI.ok.form;have hfle:=hI.fle;have hkle:=hI.le;rw[List.length_map] at hkle;have hd4:=hc.d4;rw[show Mor.cells (⟨[z0,z1,z2],zw⟩:Mor)=(V4 z0 z1 z2 zw) from rfl];refine csr (zE J J J jY ?_)
  refine lnx (zG (zK J (fun hc1=>?_) (fun hc1=>?_)))
  ·have hk':k<ms.length:=om;obtain⟨pb,po,rfl,hpb,hpc⟩:=hP.outer om;obtain⟨me,hme⟩:∃x,ms[k]?=some x:=⟨_,List.getElem?_eq_getElem hk'⟩;have hin:=hP.inner me (List.mem_of_getElem? hme);have hmlen:=hms me (List.mem_of_getElem? hme);obtain⟨lA,lc,l⟩:=me;dsimp only at hin hmlen;have hpl:(ms.map (·.2.2))[k]?=some l:=by rw[List.getElem?_map,hme];rfl
   have hml2:ms.length=days.length:=by unfold szd at hc0;split at hc0;omega;split at hc0;omega;omega
   obtain⟨sugar,hsx⟩:∃x,days[k]?=some x:=⟨_,List.getElem?_eq_getElem om⟩;have hxs:sugar<=12:=hc.dd sugar (List.mem_of_getElem? hsx);refine zO (zD (zG (zQ (csr (zA J J (jO (j:=k) J J J U35 F.ti23 J hk' (jM (v:=.slice lA l.length lc) J J F.one23 (fun a w ha=>ha.old (hpc k _ hme 0 _ J) hpb) (zF J J (lax J J (zG (csr (zA J J (jR J J U23 (zI J J F.fi78_0 F.ti25 (zI J J F.fi25_0 F.ti22 (zS J J F.one22 (jR J J U22 (zI J J F.fi78_0 F.ti25 (zI J J F.fi25_0 F.ti22 (zS J J F.one22 (jR J J U22 (jE (v:=.int .i64 ((szd l.length (fs.length) (fs.length):Nat):Int)) (vs:=[_,_,_]) J J F.ent82 (fun a w ha=>zH5 (l.length) (fs.length) (fs.length) w) (lax J J (csr (zA J J (zE J J J kT ?_))))))))))))))))))))))))))
   refine lnx (zK J (fun hc2=>?_) (fun hc2=>?_))
   ·exact csr (zA J J (zF J J (zF J J (lax J J (zV (zU (jW (zU (zU (jW (zU (zX J (fun a w ha=>xB J J J J ha) (fun a w ha=>⟨none,0,[],by rw[show workE fs kiln days (ms.map (·.2.2))=(szd l.length fs.length fs.length,[],0) from by unfold workE;rw[List.length_map,if_neg om,hI.short hpl om,if_pos om]];rfl,by rw[show workE fs kiln days (ms.map (·.2.2))=(szd l.length fs.length fs.length,[],0) from by unfold workE;rw[List.length_map,if_neg om,hI.short hpl om,if_pos om]];rfl,(ha.add_nil 23 1).grown (.cons_cons _ nsl)⟩)))))))))))))
   ·have hc2:¬szd l.length fs.length fs.length≠0:=om;refine zO (zD (zG (csr (zA J J (jR J J U23 (zA J J (lnx (zQ (qT (G:=Nat) (fun j=>j<=l.length∧badK (l.take j)=false) (fun j=>l.length-j) (fun j=>(11,.int .i64 (k:Int))::(12,.slice lA l.length lc)::(59,.slice lA l.length lc)::(60,.int .i64 (l.length:Int))::(61,.int .i64 (j:Int))::[(2,pt b2),(8,pt b8),(9,.slice oA mr.length oc),(10,.int .i64 (fires:Int)),(38,.slice (some ⟨pb,po,none⟩) ms.length pc),(39,.int .i64 (ms.length:Int)),(40,.int .i64 (k:Int))]) (fun j=>.blk b8 (.cells (V4 z0 z1 z2 zw).toArray 93 (0,0))::.row 23 1 oA mr.length oc (mr.reverse.map mcell)::.blk b2 (CO fA fs.length fc kiln dA days.length dc 78)::mr.map mrow) 0 ⟨Nat.zero_le _,rfl⟩ sbn sbl ?_)))))))));intro j ⟨hj,hbk⟩;(try dsimp only at hj hbk ⊢);refine csr (zE J J J jY ?_)
    refine lnx (zG (zK J (fun hc3=>?_) (fun hc3=>?_)))
    ·have hj':j<l.length:=om;obtain⟨lb,lo,rfl,hlb,hlcell⟩:=hin om;obtain⟨x,hxj⟩:∃x,l[j]?=some x:=⟨_,List.getElem?_eq_getElem hj'⟩;refine zO (zD (zG (zQ (csr (jO (j:=j) J J J U23 F.ti3 J hj' (jM (v:=.int .i64 x) J J F.one3 (fun a w ha=>ha.old (hlcell j _ hxj 0 _ J) hlb) (lax J J (csr (zA J J (jE (v:=.bool (btw x (0) (3))) (vs:=[_,_,_]) J J F.ent68 (fun a w ha=>yT (x) (0) (3) w) ?_))))))))))
     refine qC J J (lnx (kH J (fun hc4=>?_) (fun hc4=>?_)))
     ·exact csr (zF J J (zF J J (lax J J (zV (jW (zU (zU (jW (zU (jW (zU (zU (jW (zU (zX J (fun a w ha=>xB J J J J ha) (fun a w ha=>⟨none,0,[],by rw[show workE fs kiln days (ms.map (·.2.2))=(8,[],0) from by unfold workE;rw[List.length_map,if_neg om,hI.sort hpl hc2 (zVd hxj (by simpa using hc4)),if_pos om]];rfl,by rw[show workE fs kiln days (ms.map (·.2.2))=(8,[],0) from by unfold workE;rw[List.length_map,if_neg om,hI.sort hpl hc2 (zVd hxj (by simpa using hc4)),if_pos om]];rfl,(ha.add_nil 23 1).grown (.cons_cons _ nsl)⟩))))))))))))))))
     ·refine zO (zJ (zD (zL (zE J J J bdO (zA J J (zB (kV (j+1) ⟨by omega,zXi hxj hbk (by simpa using hc4)⟩ tdo sbn sbl)))))))
    ·have hbk2:badK l=false:=by rw[List.take_of_length_le om] at hbk;exact hbk
     have hnl:(natL l).length=l.length:=by simp[natL]
     have hszl:l.length=fs.length:=by unfold szd at hc2;split at hc2;omega;split at hc2;omega;omega
     have hglen:(natL l).length<=fs.length:=om;obtain⟨hok2,-⟩:=yQ (fs:=fs) (kiln:=kiln) (m:=(⟨[z0,z1,z2],zw⟩:Mor)) (acts:=natL l) (sugar:=sugar) hc.ff hI.ok hglen hc.f3
     have htry:∀w,RdL Flt.cells 4 w fA fs->RdL ncell 1 w lA (natL l)->Calls TP 97 #[(CG fA fs.length fc kiln dA days.length dc),.agg (V4 z0 z1 z2 zw).toArray,.slice lA l.length lc,.int .i64 (sugar:Int)] w (fun e w'=>e=.returned (.tuple #[(dayE fs kiln (⟨[z0,z1,z2],zw⟩:Mor) (natL l) sugar).2.val,.int .i64 (((dayE fs kiln (⟨[z0,z1,z2],zw⟩:Mor) (natL l) sugar).1:Nat):Int)])∧Grew w w' []):=fun w hF hA=>by
      have h9:=zN2 fA dA lA fc days.length dc lc kiln fs hc.f3 hc.ff z0 z1 z2 zw hz0 hz1 hz2 hzw (natL l) hglen sugar hxs w hF hA;rw[hnl] at h9;exact h9
     have hgd:days.getD k 0=sugar:=by rw[List.getD_eq_getElem?_getD,hsx];rfl
     have hday:=fun h=>hI.day (l:=l) hpl hc2 hbk2 h;have hnext:=fun h h'=>hI.next (l:=l) hpl hc2 hbk2 h h';rw[hgd] at hday hnext
     generalize dayE fs kiln (⟨[z0,z1,z2],zw⟩:Mor) (natL l) sugar=st at hok2 htry hday hnext ⊢
     obtain⟨er,nm⟩:=st;dsimp only at hok2 htry hday hnext ⊢;obtain⟨y0,y1,y2,yw,rfl,hy0,hy1,hy2,hyw⟩:=hok2.form;have hsf:=zAt (natL l)
     refine jV (zN (zN (zY (zD (zG (qF (G:=Nat) (fun _=>True) (fun b16=>(11,.int .i64 (k:Int))::(12,.slice lA l.length lc)::(16,pt b16)::(17,.int .i64 (er:Int))::[(2,pt b2),(8,pt b8),(9,.slice oA mr.length oc),(10,.int .i64 (fires:Int)),(38,.slice (some ⟨pb,po,none⟩) ms.length pc),(39,.int .i64 (ms.length:Int)),(40,.int .i64 (k:Int))]) (fun b16=>.blk b16 (.cells (V4 y0 y1 y2 yw).toArray 93 (0,0))::.blk b8 (.cells (V4 z0 z1 z2 zw).toArray 93 (0,0))::.row 23 1 oA mr.length oc (mr.reverse.map mcell)::.blk b2 (CO fA fs.length fc kiln dA days.length dc 78)::mr.map mrow) ?_ ?_))))))
     ·refine jS [] F.follows 16 J (fl 16) J (zC 0 J J J (kR J F.agg78 F.ti78) (zC 1 J J J (kR J F.agg93 F.ti93) (anm 2 J J J (zC 3 J J J (zP J F.fi78_0 F.ti25) (zC 4 J J J (zP J F.fi25_2 F.ti23) (zC 5 J J J (jJ J F.one23) (anm 6 J J J (zC 7 J J J (jG (j:=k) (show _=some (Value.slice (some ⟨db,dbo,none⟩) days.length dc) from by rw[<-hdA];rfl) J Tryz.underlying23 F.ti3 J (show k<days.length by omega)) (zC 8 J J J (jC (v:=.int .i64 (sugar:Int)) J F.one3 (fun a w ha=>zL2 (by have h:=hD.later ha.below;rw[hdA] at h;exact h) hsx)) ?_)))))))))
      refine qG 9 13 kr J J J J ?_ ?_
      ·refine jE (v:=.tuple #[.agg (V4 y0 y1 y2 yw).toArray,.int .i64 (er:Int)]) (vs:=[_,_,_,_]) J J F.ent97 (fun a w ha=>(htry w (hF.later ha.below) (RdL.nats (hin.later ha.below) hbk2)).mono (fun e w' h=>⟨h.1.trans J,h.2⟩)) (zB (anb (anm 10 J J J (zC 11 J J J (jN J J) (zC 12 J J J (jN J J) (an1 13 J (zW J F.ti93 ?_)))))));intro b16;exact zB (anb (an1 14 J (zH J J F.ti93 J (zB (anb (zC 15 J J J (jP J) (adn (jK b16 trivial sbn pkk))))))))
      ·refine zW J F.ti93 ?_;intro b16;exact zB (anb (an1 9 J (jE (v:=.tuple #[.agg (V4 y0 y1 y2 yw).toArray,.int .i64 (er:Int)]) (vs:=[_,_,_,_]) J J F.ent97 (fun a w ha=>(htry w (hF.later ha.below) (RdL.nats (hin.later ha.below) hbk2)).mono (fun e w' h=>⟨h.1.trans J,h.2⟩)) (zB (anb (anm 10 J J J (zC 11 J J J (jN J J) (zC 12 J J J (jN J J) (an1 14 J (zH J J F.ti93 J (zB (anb (zC 15 J J J (jP J) (adn (jK b16 trivial sbn pkk)))))))))))))))
     ·rintro b16 -;(try dsimp only);refine zD (zG (csr (zA J J (zE J J J kT ?_))))
      refine lnx (zK J (fun hc5=>?_) (fun hc5=>?_))
      ·exact csr (zA J J (zF J J (zF J J (lax J J (zV (zU (jW (zU (zU (jW (zU (zX J (fun a w ha=>xB J J J J ha) (fun a w ha=>⟨none,0,[],by rw[show workE fs kiln days (ms.map (·.2.2))=(er,[],0) from by unfold workE;rw[List.length_map,if_neg om,hday om,if_pos om]];rfl,by rw[show workE fs kiln days (ms.map (·.2.2))=(er,[],0) from by unfold workE;rw[List.length_map,if_neg om,hday om,if_pos om]];rfl,(ha.add_nil 23 1).grown (.cons_cons _ nsl)⟩)))))))))))))
      ·refine zO (zD (zG (jS [.b b8] F.follows 8 J (fl 8) J (zC 0 J J J (kR J F.agg93 F.ti93) (anm 1 J J J (anm 2 J J J (an1 3 J (jE (v:=.agg #[.int .i64 ((spF (natL l):Nat):Int),.int .i64 ((spW (natL l):Nat):Int)]) (vs:=[_]) J J F.ent103 (fun a w ha=>by have h9:=zRv lA lc (natL l) (by have:=hc.f3;omega) w (RdL.nats (hin.later ha.below) hbk2);rw[hnl] at h9;exact h9) (zB (anb (zC 4 J J J (zTl (vs:=[.int .i64 ((spF (natL l):Nat):Int),.int .i64 ((spW (natL l):Nat):Int)]) J F.fi131_0 F.one3 J) (zC 5 J J J (kW (v:=.int .i64 ((fires+spF (natL l):Nat):Int)) J J bdP) (an1 6 J (zH J J F.ti93 J (zB (anb (zC 7 J J J (jP J) (adn (zD (zL (zA J J (zZ J J F.agg78 F.ti78 (zZ J J F.agg93 F.ti93 ?_)))))))))))))))))))))))
       refine kJ (X:=Option Addr×Nat) (vs:=[_,_]) (p:=fun _=>True) (val:=fun g=>.slice g.1 ([y0,y1,y2].take fs.length).length g.2) (rs:=fun g=>[mrow (g.1,g.2,[y0,y1,y2].take fs.length)]) J J F.ent102 (fun a w ha=>(zWj fA dA fc days.length dc kiln fs hc.f3 y0 y1 y2 yw w).mono (fun e w' h=>by
        obtain⟨A,c,h1,h2⟩:=h;have hlt:([y0,y1,y2].take fs.length).length=fs.length:=by have:=hc.f3;simp;omega
        exact⟨(A,c),trivial,by rw[hlt];exact h1,by unfold mrow;dsimp only;rw[hlt];exact h2⟩)) ?_
       rintro⟨A2,c2⟩ -;dsimp only[List.cons_append,List.nil_append];refine kB (vs:=[(0,_)]) J J U35 F.ti23 J J J ?_;intro b95;refine kI J J J Tryz.underlying35 F.ti23 J J J (by unfold maxLen;omega) om ?_;intro A3 c3;refine zF J J (zB (zJ (zD (zL (zE J J J bdO (zA J J (zB ?_)))))));have hlt:([y0,y1,y2].take fs.length).length=fs.length:=by have:=hc.f3;simp;omega
       refine kS ((⟨[y0,y1,y2],yw⟩:Mor),k+1,fires+spF (natL l),(A2,c2,[y0,y1,y2].take fs.length)::mr,A3,c3,out++[strs fs ⟨[y0,y1,y2],yw⟩]) ⟨hnext om ⟨rfl,by simp;omega,hyw⟩,by rw[List.reverse_cons,List.map_append,hmr];rfl,by simp[hml]⟩ tdo (by (try dsimp only);exact sbn) (by (try dsimp only);rw[List.reverse_cons,List.map_append];exact pkk)
  ·have hkl:k=(ms.map (·.2.2)).length:=by rw[List.length_map];omega
   have hlast:=hI.last hkl;have hwe:workE fs kiln days (ms.map (·.2.2))=(0,strs fs (start fs)::out,fires):=by unfold workE;rw[List.length_map,if_neg om,hlast,if_neg (by simp)]
   exact jV (zN (zN (zY (zD (csr (zA J J (zA J J (zF J J (zF J J (lax J J (zV (zX J (fun a w ha=>xB J J J J ha) (fun a w ha=>⟨oA,oc,mr,by rw[hwe];exact hmr,by rw[hwe];rfl,ha.grown (.cons _ (.cons_cons _ (.cons _ (List.Sublist.refl _))))⟩)))))))))))))

theorem F.ent80:Enters TP 80:=jD Tryz.func80 rfl kr
theorem zYa {fA dA pA:Option Addr} {fc dc pc kiln:Nat} {fs:List Flt} {days:List Nat} {ms:List MetaZ} (hc:ChV fs kiln days) (hml0:ms.length<1000000) (hms:∀m∈ms,m.2.2.length<1000000) (w:World) (hF:RdL Flt.cells 4 w fA fs) (hD:RdL ncell 1 w dA days) (hP:RdZ w pA ms):Calls TP 31 #[(CG fA fs.length fc kiln dA days.length dc),.slice pA ms.length pc] w fun e w'=>∃(oA:Option Addr) (oc:Nat) (mr:List Meta),mr.reverse.map (·.2.2)=(workE fs kiln days (ms.map (·.2.2))).2.1∧e=.returned (.tuple #[.slice oA mr.length oc,.int .i64 (((workE fs kiln days (ms.map (·.2.2))).2.2:Nat):Int),.int .i64 (((workE fs kiln days (ms.map (·.2.2))).1:Nat):Int)])∧Grew w w' (.row 23 1 oA mr.length oc (mr.reverse.map mcell)::mr.map mrow):=by
 refine enter (N:=20) [(0,(CG fA fs.length fc kiln dA days.length dc)),(1,.slice pA ms.length pc)] Tryz.func31 J Tryz.ntmps31 J J (csr (jT J J ?_));intro b2;refine zF J J (zF J J (lax J J (zG (csr (zZ J J F.agg25 F.ti25 ?_)))))
 refine jE (v:=.int .i64 0) (vs:=[_]) J J F.ent33 (fun a w ha=>by
  have h:=zAk (fA:=fA) (dA:=dA) (fc:=fc) (dc:=dc) (fs:=fs.map Flt.toZ) (kiln:=(kiln:Int)) (days:=toZs days) (by have:=hc.f3;simp;omega) (by have:=hc.d4;simp[toZs];omega) w (RdL.mapped Flt.toZ (hF.later ha.below) (fun _=>rfl)) (RdL.mapped (fun (n:Nat)=>(n:Int)) (hD.later ha.below) (fun _=>rfl));rw[chk0 hc] at h
  simpa[toZs] using h) ?_
 refine lax J J (csr (zA J J (zE J J J kT ?_)))
 refine lnx (zK J (fun hc0=>?_) (fun hc0=>?_))
 ·exact absurd J hc0
  done
 ·refine zO (zD (csr (zZ J J F.agg25 F.ti25 (kM (vs:=[(0,_)]) (l':=[_,_,_]) J J F.ti78 F.pl78 (.cons J J (.nil _)) J (zA J J ?_)))))
  refine kJ (X:=Option Addr×Nat×List Meta) (vs:=[_,_]) (p:=fun g=>g.2.2.reverse.map (·.2.2)=(workE fs kiln days (ms.map (·.2.2))).2.1) (val:=fun g=>.tuple #[.slice g.1 g.2.2.length g.2.1,.int .i64 (((workE fs kiln days (ms.map (·.2.2))).2.2:Nat):Int),.int .i64 (((workE fs kiln days (ms.map (·.2.2))).1:Nat):Int)]) (rs:=fun g=>.row 23 1 g.1 g.2.2.length g.2.1 (g.2.2.reverse.map mcell)::g.2.2.map mrow) J J F.ent80 (fun a w ha=>(zYm hc hml0 hms w (hF.later ha.below) (hD.later ha.below) (hP.later ha.below)).mono (fun e w' h=>by
   obtain⟨oA,oc,mr,h1,h2,h3⟩:=h
   exact⟨(oA,oc,mr),h1,h2,h3⟩)) ?_
  rintro⟨oA,oc,mr⟩ hmr;dsimp only[List.cons_append,List.nil_append] at hmr ⊢;exact jF J J J (jF J J J (jF J J J (zF J J (zF J J (lax J J (zV (zX J (fun a w ha=>xB J J J J ha) (fun a w ha=>⟨oA,oc,mr,hmr,rfl,ha.grown (.cons_cons _ (List.sublist_append_left ..))⟩))))))))

end
section
def alwF (f day:Nat) (bu:Bool) (d:Nat) (acts:List Nat):Bool:=decide (d≠day)||(decide (acts.getD f 0=3)==bu)
theorem zOi {P:Program} {t:TypeId} (ht:P.underlying t=some .bool) (u v:Bool) (x y:Operand) (w:World):(do eqGuard .eql t x y (.bool u) (.bool v);binOp .eql t (.bool u) (.bool v):Sem Value).run P w=.ok (.bool (u==v)) w:=by
 have hg:(eqGuard .eql t x y (.bool u) (.bool v)).run P w=.ok () w:=by simp[eqGuard]
 have hb:(binOp .eql t (.bool u) (.bool v)).run P w=.ok (.bool (u==v)) w:=by
  show (do pure (.bool (<-Op.equal t (.bool u) (.bool v))):Sem Value).run P w=_
  have he:(Op.equal t (.bool u) (.bool v)).run P w=.ok (u==v) w:=by
   show (Op.equalIn (9999+1) t (.bool u) (.bool v)).run P w=_;unfold Op.equalIn;simp only[Sem.run_bind,run_underlying ht,Result.andThen_ok];simp
  simp only[Sem.run_bind,he,Result.andThen_ok,Sem.run_pure]
 simp only[Sem.run_bind,hg,Result.andThen_ok,hb]
def firS (fA dA:Option Addr) (fc dc kiln:Nat) (fs:List Flt) (days:List Nat) (f day:Nat) (bu:Bool) (b6 b5 b7:Nat):Srch:=⟨fA,dA,fc,dc,kiln,fs,days,100,93,[.pointer (some ⟨b6,0,none⟩),.pointer (some ⟨b5,0,none⟩),.pointer (some ⟨b7,0,none⟩)],[],alwF f day bu,fun _=>true⟩
def bstF (fs:List Flt) (kiln:Nat) (days:List Nat) (f day:Nat) (bu:Bool):Oc:=bstO (alwF f day bu) (fun _=>true) fs kiln days days.length (start fs)

theorem zLc {w:World} {p:Addr} {v:Value} (h:w.cell? p=some v):p.block<w.heap.size:=by
 rcases Nat.lt_or_ge p.block w.heap.size with h1|h1
 ·exact h1
 ·unfold World.cell? at h;rw[Array.getElem?_eq_none h1] at h;simp at h
def verdO (a b:Oc):Nat×Nat :=
 if a.is=false∧b.is=false then (0,11)
 else if a.is=false∨(b.is=true∧b.f<a.f) then (2,0)
 else if b.is=false∨(a.is=true∧a.f<b.f) then (1,0) else (3,0)
end
section
variable [I:Sys]
variable {b5 b6 b7 day dc f fc kiln:Nat} {bu:Bool} {dA fA:Option Addr} {days:List Nat} {fs:List Flt}
theorem zBw (k:Nat) (hk:k<=3) (w:World):Calls TP 70 #[.int .i64 (k:Int)] w fun e w'=>e=.returned (.int .i64 (if k=3 then 3 else if k=2 then 1 else 2))∧Grew w w' []:=by
 refine enter (N:=9) [(0,.int .i64 (k:Int))] Tryz.func70 J Tryz.ntmps70 J J (csr (lax J J (zG (csr (zA J J (zE (v:=.int .i64 (3-(k:Int))) J J J (fun w=>qK w (kC _ om om)) (lnx (zQ (csr (zE J J J kD ?_))))))))))
 refine lax J J (zK J (fun hc0=>?_) (fun hc0=>?_))
 ·exact csr (lax J J (zV (jW (zU (zX J (rsO J J) (fun a w ha=>⟨by rw[if_pos om],ha.grown nsl⟩))))))
 ·refine csr (zE J J J kD ?_)
  refine lax J J (zK J (fun hc1=>?_) (fun hc1=>?_))
  ·exact csr (lax J J (zV (jW (zU (zX J (rsO J J) (fun a w ha=>⟨by rw[if_neg om,if_pos om],ha.grown nsl⟩))))))
  ·exact zO (zJ (zD (csr (lax J J (zV (zX J (rsO J J) (fun a w ha=>⟨by rw[if_neg om,if_neg om],ha.grown nsl⟩)))))))

theorem zZc {A:Option Addr} {c d:Nat} {acts:List Nat} (hf:f<acts.length) (hl:acts.length<=3) (w:World) (hA:RdL ncell 1 w A acts) (h6:w.cell? ⟨b6,0,none⟩=some (.int .i64 (day:Int))) (h5:w.cell? ⟨b5,0,none⟩=some (.int .i64 (f:Int))) (h7:w.cell? ⟨b7,0,none⟩=some (.bool bu)):Calls TP 100 #[.int .i64 (d:Int),.slice A acts.length c,pt b6,pt b5,pt b7] w fun e w'=>e=.returned (.bool (alwF f day bu d acts))∧Grew w w' []:=by
 obtain⟨b,o,hA0,hb,hcell⟩:=hA om;obtain⟨x,hx⟩:∃x,acts[f]?=some x:=⟨_,List.getElem?_eq_getElem hf⟩;refine enter (N:=20) [(0,.int .i64 (d:Int)),(1,.slice A acts.length c),(2,pt b6),(3,pt b5),(4,pt b7)] Tryz.func100 J Tryz.ntmps100 J J (csr (lax J J (zG (jS [] F.follows 13 J (fl 13) J (anm 0 J J J (zC 1 J J J (jC (v:=.int .i64 (day:Int)) J F.one3 (fun a w ha=>ha.old h6 (zLc h6))) (zC 2 J J J (kW J J kT) (anm 3 J J J ?_))))))))
 refine zGw (t:=11) J (fun hg11=>?_) (fun hg11=>?_)
 ·exact atf 4 J J J J J (atf 5 J J J J J (atf 6 J J J J J (atf 7 J J J J J (atf 8 J J J J J (atf 9 J J J J J (atf 10 J J J J J (zC 11 J J J (xQ J J) (zC 12 J J J (jP J) (adn (zD (zV (zX J (rsO J J) (fun a w ha=>⟨by unfold alwF;rw[show decide (d≠day)=true from by simp;omega];rfl,ha.grown nsl⟩)))))))))))))
 ·exact ato 4 J J J J J (kF J) (ato 5 J J J J J (jC (v:=.int .i64 (f:Int)) J F.one3 (fun a w ha=>ha.old h5 (zLc h5))) (ato 6 J J J J J (jG (j:=f) (show _=some (Value.slice (some ⟨b,o,none⟩) acts.length c) from by rw[<-hA0];rfl) J Tryz.underlying23 F.ti3 J (show f<acts.length by omega)) (ato 7 J J J J J (jC (v:=.int .i64 (x:Int)) J F.one3 (fun a w ha=>ha.old (hcell f x hx 0 _ J) hb)) (ato 8 J J J J J (kW J J kD) (ato 9 J J J J J (jC (v:=.bool bu) J F.one4 (fun a w ha=>ha.old h7 (zLc h7))) (ato 10 J J J J J (zLn J J (zOi Tryz.underlying4 _ _ _ _)) (zC 11 J J J (qH J J) (zC 12 J J J (jP J) (adn (zD (zV (zX J (rsO J J) (fun a w ha=>⟨by unfold alwF;rw[List.getD_eq_getElem?_getD,hx,show decide (d≠day)=false from by simp;omega];simp;rw[show decide ((x:Int)=3)=decide (x=3) from by rw[decide_eq_decide];omega],ha.grown nsl⟩)))))))))))))

theorem jD1 (h:ChV fs kiln days):(firS fA dA fc dc kiln fs days f day bu b6 b5 b7).Ok:=⟨h.f3,h.ff,Nat.le_succ_of_le h.d4,h.dd,jD Tryz.func100 rfl (by kernel_rfl),jD Tryz.func93 rfl (by kernel_rfl)⟩
theorem zVh {w:World} (hc:ChV fs kiln days) (hf:f<fs.length) (hF:RdL Flt.cells 4 w fA fs) (hD:RdL ncell 1 w dA days) :
  Stays w.heap.size w [.blk b6 (.cells #[.int .i64 (day:Int)] 3 (0,0)),.blk b5 (.cells #[.int .i64 (f:Int)] 3 (0,0)),.blk b7 (.cells #[.bool bu] 4 (0,0))] (firS fA dA fc dc kiln fs days f day bu b6 b5 b7).Env:=fun _ _ _ _ _ w' hr ha=>⟨hF.later ha.below,hD.later ha.below,fun A c d acts hA hl _=>zZc (by have:acts.length=fs.length:=hl;omega) (by have:acts.length=fs.length:=hl;have:=hc.f3;omega) w' hA (qY (ha.mem_blk (hr (.blk b6 (.cells #[.int .i64 (day:Int)] 3 (0,0))) (by simp))) J) (qY (ha.mem_blk (hr (.blk b5 (.cells #[.int .i64 (f:Int)] 3 (0,0))) (by simp))) J) (qY (ha.mem_blk (hr (.blk b7 (.cells #[.bool bu] 4 (0,0))) (by simp))) J),fun m hm=>by
  obtain⟨a,b,c,x,rfl,_⟩:=hm.form
  exact zU2 a b c x w'⟩

set_option maxRecDepth 4000 in
theorem zR5 (hc:ChV fs kiln days) (hf:f<fs.length) (w:World) (hF:RdL Flt.cells 4 w fA fs) (hD:RdL ncell 1 w dA days):Calls TP 69 #[(CG fA fs.length fc kiln dA days.length dc),.int .i64 (f:Int),.int .i64 (day:Int),.bool bu] w fun e w'=>e=.returned (.tuple #[.int .i64 (((bstF fs kiln days f day bu).f:Nat):Int),.bool (bstF fs kiln days f day bu).is])∧Grew w w' []:=by
 have hm0:MOk (start fs):=wC hc.f3 hc.ff _ (Nat.le_refl _);obtain⟨x0,x1,x2,xw,hx,hx0,hx1,hx2,hxw⟩:=hm0.form;refine enter (N:=31) [(0,(CG fA fs.length fc kiln dA days.length dc)),(1,.int .i64 (f:Int)),(2,.int .i64 (day:Int)),(3,.bool bu)] Tryz.func69 J Tryz.ntmps69 J J (csr (jT J J ?_));intro b4;refine jT J J ?_;intro b5;refine jT J J ?_;intro b6;refine jT J J ?_;intro b7;refine zF J J (lax J J (csr (zZ J J F.agg78 F.ti78 (kJ (X:=Nat×Nat) (vs:=[_]) (p:=fun _=>True) (val:=fun g=>.pointer (some ⟨g.1,0,none⟩)) (rs:=fun g=>[.blk g.1 (.cells #[.slice fA fs.length fc,.int .i64 (kiln:Int),.slice dA days.length dc,.func (.func 92) #[] #[],.func (.func 93) #[] #[],.map (some g.2)] 99 (0,0)),.blk g.2 (KS.obj [])]) J J F.ent56 (fun a w ha=>(zHy fA dA fc days.length dc kiln fs w).mono (fun e w' h=>by obtain⟨b,km,h1,h2⟩:=h;exact⟨(b,km),trivial,h1,h2⟩)) ?_))));rintro⟨sb,km⟩ -;dsimp only[List.cons_append,List.nil_append];refine lax J J (csr (zA J J (wG (fs:=[]) (cs:=[_,_,_]) J J J (xO J J (zAe J J F.fi99_1 F.ti95 (zH J J F.ti95 J (lnx (csr (zA J J (zA J J (xO J J (zAe J J F.fi99_0 F.ti78 (zZ (o:=0) (l:=(CA fA fs.length fc kiln dA days.length dc)) J J F.agg78 F.ti78 (jE (v:=.agg (V4 x0 x1 x2 xw).toArray) (vs:=[_]) J J F.ent66 (fun a w ha=>(zFf fA dA fc days.length dc kiln fs hc.f3 hc.ff w (hF.later ha.below)).mono (fun e w' h=>⟨h.1.trans (by rw[hx];rfl),h.2⟩)) (kM (vs:=[(0,_),(1,_)]) (l':=[_,_,_,_,_]) J J F.ti129 F.pl129 (.cons J J (.cons J J (.nil _))) J ?_)))))))))))))))
 refine xT (X:=List (Spot×Value)) (first:=[]) (cap:=[]) (vs:=[_,_]) (p:=fun _=>True) (val:=fun _=>.agg #[.int .i64 ((bstF fs kiln days f day bu).f:Int),.int .i64 ((bstF fs kiln days f day bu).w:Int),.bool (bstF fs kiln days f day bu).is]) (rs:=fun kn'=>[.blk km (KS.obj kn'),.blk sb (.cells #[.slice fA fs.length fc,.int .i64 (kiln:Int),.slice dA days.length dc,.func (.func 100) #[] #[pt b6,pt b5,pt b7],.func (.func 93) #[] #[],.map (some km)] 99 (0,0)),.blk b6 (.cells #[.int .i64 (day:Int)] 3 (0,0)),.blk b5 (.cells #[.int .i64 (f:Int)] 3 (0,0)),.blk b7 (.cells #[.bool bu] 4 (0,0)),.blk b4 (CO fA fs.length fc kiln dA days.length dc 78)]) J J J F.ent94 (fun a w ha=>?_) ?_
 ·refine (zGv (s:=(firS fA dA fc dc kiln fs days f day bu b6 b5 b7)) (jD1 hc) days.length _ _ ([.blk b6 (.cells #[.int .i64 (day:Int)] 3 (0,0)),.blk b5 (.cells #[.int .i64 (f:Int)] 3 (0,0)),.blk b7 (.cells #[.bool bu] 4 (0,0)),.blk b4 (CO fA fs.length fc kiln dA days.length dc 78)]) _ _ _ _ _ [] km sb 0 x0 x1 x2 xw (by show 0+days.length=days.length;omega) ⟨rfl,by simp;omega,hxw⟩ (KnOk.nil _) ((zVh hc hf hF hD).more (fun r hr=>by simp at hr ⊢;rcases hr with h|h|h<;>simp[h])) (ha.pck pkk)).mono ?_;rintro e w' ⟨kn',h1,h2,h3⟩;exact⟨kn',trivial,h2.trans (by unfold bstF;rw[hx];rfl),h3.pck pkk⟩
 rintro kn1 -;dsimp only
 generalize bstF fs kiln days f day bu=o0
 refine zW J F.ti133 ?_;intro b11;exact zH J J F.ti133 J (lnx (zG (jS [] F.follows 7 J (fl 7) J (zC 0 J J J (zP J F.fi133_0 F.ti131) (zC 1 J J J (zP J F.fi131_0 F.ti3) (zC 2 J J J (jJ J F.one3) (zC 3 J J J (zP J F.fi133_1 F.ti4) (zC 4 J J J (jJ J F.one4) (zC 5 J J J (jP J) (zC 6 J J J (jP J) (adn (zD (zV (zX J (fun a w ha=>xN J J J ha) (fun a w ha=>⟨rfl,ha.grown nsl⟩)))))))))))))))

end
section
variable [I:Sys]
theorem F.ent69:Enters TP 69:=jD Tryz.func69 rfl kr
theorem F.ent70:Enters TP 70:=jD Tryz.func70 rfl kr
theorem zL7 {fA dA:Option Addr} {fc dc kiln f day:Nat} {fs:List Flt} {days:List Nat} (hc:ChV fs kiln days) (hf:f<fs.length) (hd:day<days.length) (w:World) (hF:RdL Flt.cells 4 w fA fs) (hD:RdL ncell 1 w dA days):Calls TP 26 #[(CG fA fs.length fc kiln dA days.length dc),.int .i64 (f:Int),.int .i64 (day:Int)] w fun e w'=>e=.returned (.tuple #[.int .i64 (((verdO (bstF fs kiln days f day true) (bstF fs kiln days f day false)).1:Nat):Int),.int .i64 (((verdO (bstF fs kiln days f day true) (bstF fs kiln days f day false)).2:Nat):Int)])∧Grew w w' []:=by
 refine enter (N:=85) [(0,(CG fA fs.length fc kiln dA days.length dc)),(1,.int .i64 (f:Int)),(2,.int .i64 (day:Int))] Tryz.func26 J Tryz.ntmps26 J J (csr (jT J J ?_));intro b3;refine zF J J (lax J J (zG (csr (zZ J J F.agg25 F.ti25 ?_))))
 refine jE (v:=.int .i64 0) (vs:=[_]) J J F.ent33 (fun a w ha=>by
  have h:=zAk (fA:=fA) (dA:=dA) (fc:=fc) (dc:=dc) (fs:=fs.map Flt.toZ) (kiln:=(kiln:Int)) (days:=toZs days) (by have:=hc.f3;simp;omega) (by have:=hc.d4;simp[toZs];omega) w (RdL.mapped Flt.toZ (hF.later ha.below) (fun _=>rfl)) (RdL.mapped (fun (n:Nat)=>(n:Int)) (hD.later ha.below) (fun _=>rfl));rw[chk0 hc] at h
  simpa[toZs] using h) ?_
 refine lax J J (csr (zA J J (zE J J J kT ?_)))
 refine lnx (zK J (fun hc0=>?_) (fun hc0=>?_))
 ·exact absurd J hc0
  done
 ·refine zO (zD (zG (csr (zA J J (zI J J F.fi25_0 F.ti22 (zS J J F.one22 (jR J J Tryz.underlying22 (zE (v:=.int .i64 ((fs.length:Int)-1)) J J J (fun w=>qK w (kC _ (by have:=hc.f3;omega) (by have:=hc.f3;omega))) (jE (v:=.bool true) (vs:=[_,_,_]) J J F.ent68 (fun a w ha=>(yT (f:Int) 0 ((fs.length:Int)-1) w).mono (fun e w' h=>⟨h.1.trans (by rw[show btw (f:Int) 0 ((fs.length:Int)-1)=true from by unfold btw;simp;omega]),h.2⟩)) (qC J J (zA J J (zM J J (zA J J (zM J J (zI J J F.fi25_2 F.ti23 (zM J J (zS J J F.one23 (zM J J (jR J J Tryz.underlying23 (zM J J (zE (v:=.int .i64 ((days.length:Int)-1)) J J J (fun w=>qK w (kC _ (by have:=hc.d4;omega) (by have:=hc.d4;omega))) (zM J J (jE (v:=.bool true) (vs:=[_,_,_]) J J F.ent68 (fun a w ha=>(yT (day:Int) 0 ((days.length:Int)-1) w).mono (fun e w' h=>⟨h.1.trans (by rw[show btw (day:Int) 0 ((days.length:Int)-1)=true from by unfold btw;simp;omega]),h.2⟩)) (zM J J (qC J J (jU J J J (lnx (kL J (zO (zD (csr (zZ J J F.agg25 F.ti25 (kM (vs:=[(0,_)]) (l':=[_,_,_]) J J F.ti78 F.pl78 (.cons J J (.nil _)) J (zA J J (zA J J (jE (v:=.tuple #[.int .i64 (((bstF fs kiln days f day true).f:Nat):Int),.bool (bstF fs kiln days f day true).is]) (vs:=[_,_,_,_]) J J F.ent69 (fun a w ha=>zR5 (dc:=dc) (fc:=fc) (bu:=true) hc hf w (hF.later ha.below) (hD.later ha.below)) (zA J J (jF J J J (jF J J J (zF J J (lax J J (csr (zZ J J F.agg25 F.ti25 (kM (vs:=[(0,_)]) (l':=[_,_,_]) J J F.ti78 F.pl78 (.cons J J (.nil _)) J (zA J J (zA J J (jE (v:=.tuple #[.int .i64 (((bstF fs kiln days f day false).f:Nat):Int),.bool (bstF fs kiln days f day false).is]) (vs:=[_,_,_,_]) J J F.ent69 (fun a w ha=>zR5 (dc:=dc) (fc:=fc) (bu:=false) hc hf w (hF.later ha.below) (hD.later ha.below)) (zA J J (jF J J J (jF J J J (zF J J (lax J J (zG (zG ?_))))))))))))))))))))))))))))))))))))))))))))))))))))))
  generalize (bstF fs kiln days f day true)=o1
  generalize (bstF fs kiln days f day false)=o2
  obtain⟨f1,w1,i1⟩:=o1;obtain⟨f2,w2,i2⟩:=o2;dsimp only
  rcases i1 with _|_<;>rcases i2 with _|_
  ·exact zL (zA J J (qC J J (zA J J (zM J J (zA J J (zM J J (qC J J (jH J J J (lnx (qE J (csr (zF J J (lax J J (zV (zU (zX J (fun a w ha=>xN J J J ha) (fun a w ha=>⟨by rfl,ha.grown nsl⟩)))))))))))))))))
  ·exact zL (zA J J (qC J J (zA J J (zM J J (zA J J (zM J J (qC J J (jH J J J (lnx (kL J (zO (zD (csr (lax J J (zG (zQ (zG (zQ (zG (zQ (zG (zG (csr (zA J J (qC J J (zA J J (zR J J J (zR J J J (kE J J J (kE J J J (kE J J J (zR J J J (jH J J J (lax J J (qE J (jV (zN (zN (zY (zD (zL (zA J J (zE (v:=.int .i64 ((2:Nat):Int)) J J J (fun w=>qK w (kC _ om om)) (zF J J (zB (zJ (zD (csr (zA J J (zE (v:=.int .i64 ((1:Nat):Int)) J J J (fun w=>qK w (kC _ om om)) (lax J J (jV (zY (zD (csr (zA J J (jE (v:=.int .i64 2) (vs:=[_]) J J F.ent70 (fun a w ha=>(zBw 1 om w).mono (fun e w' h=>⟨h.1.trans J,h.2⟩)) (zF J J (lax J J (zV (zX J (fun a w ha=>xN J J J ha) (fun a w ha=>⟨by unfold verdO;simp,ha.grown nsl⟩))))))))))))))))))))))))))))))))))))))))))))))))))))))))))))))
  ·exact zL (zA J J (qC J J (zA J J (zR J J J (zR J J J (jU J J J (lnx (kL J (zO (zD (csr (lax J J (zG (zQ (zG (zQ (zG (zQ (zG (zG (csr (zA J J (qC J J (zA J J (zM J J (zA J J (zM J J (zA J J (zR J J J (zR J J J (zR J J J (zM J J (jU J J J (jU J J J (lax J J (kL J (zO (zD (csr (zA J J (qC J J (zA J J (zR J J J (zR J J J (kE J J J (kE J J J (kE J J J (zR J J J (jH J J J (lax J J (qE J (jV (zN (wE J (zN (zY (zD (csr (zA J J (zE (v:=.int .i64 ((2:Nat):Int)) J J J (fun w=>qK w (kC _ om om)) (lax J J (jV (zY (zD (csr (zA J J (jE (v:=.int .i64 1) (vs:=[_]) J J F.ent70 (fun a w ha=>(zBw 2 om w).mono (fun e w' h=>⟨h.1.trans J,h.2⟩)) (zF J J (lax J J (zV (zX J (fun a w ha=>xN J J J ha) (fun a w ha=>⟨by unfold verdO;simp,ha.grown nsl⟩))))))))))))))))))))))))))))))))))))))))))))))))))))))))))))))))))))))))
  ·refine zL (zA J J (qC J J (zA J J (zR J J J (zR J J J (jU J J J (lnx (kL J (zO (zD (csr (lax J J (zG (zQ (zG (zQ (zG (zQ (zG (zG (csr (zA J J (qC J J (zA J J (zM J J (zA J J (zM J J (zA J J (zM J J (zA J J (zM J J (zA J J (zM J J (zE J J J jY ?_))))))))))))))))))))))))))))))))))
   refine zM J J (jH J J J (jU J J J (lax J J (zK J (fun hc3=>?_) (fun hc3=>?_)))))
   ·exact jV (zN (zN (zY (zD (zL (zA J J (zE (v:=.int .i64 ((2:Nat):Int)) J J J (fun w=>qK w (kC _ om om)) (zF J J (zB (zJ (zD (csr (zA J J (zE (v:=.int .i64 ((1:Nat):Int)) J J J (fun w=>qK w (kC _ om om)) (lax J J (jV (zY (zD (csr (zA J J (jE (v:=.int .i64 2) (vs:=[_]) J J F.ent70 (fun a w ha=>(zBw 1 om w).mono (fun e w' h=>⟨h.1.trans J,h.2⟩)) (zF J J (lax J J (zV (zX J (fun a w ha=>xN J J J ha) (fun a w ha=>⟨by have h:f2<f1:=om;simp[verdO,h],ha.grown nsl⟩))))))))))))))))))))))))))
   ·refine zO (zD (csr (zA J J (qC J J (zA J J (zM J J (zA J J (zM J J (zA J J (zM J J (zA J J (zM J J (zA J J (zM J J (zE J J J jY ?_)))))))))))))))
    refine zM J J (jH J J J (jU J J J (lax J J (zK J (fun hc4=>?_) (fun hc4=>?_)))))
    ·exact jV (zN (wE J (zN (zY (zD (csr (zA J J (zE (v:=.int .i64 ((2:Nat):Int)) J J J (fun w=>qK w (kC _ om om)) (lax J J (jV (zY (zD (csr (zA J J (jE (v:=.int .i64 1) (vs:=[_]) J J F.ent70 (fun a w ha=>(zBw 2 om w).mono (fun e w' h=>⟨h.1.trans J,h.2⟩)) (zF J J (lax J J (zV (zX J (fun a w ha=>xN J J J ha) (fun a w ha=>⟨by have h:¬f2<f1:=om;have h2:f1<f2:=om;simp[verdO,h,h2],ha.grown nsl⟩))))))))))))))))))))
    ·exact zO (zD (jV (wE J (zN (wE J (zN (zY (zD (csr (zA J J (jE (v:=.int .i64 3) (vs:=[_]) J J F.ent70 (fun a w ha=>(zBw 3 om w).mono (fun e w' h=>⟨h.1.trans J,h.2⟩)) (zF J J (lax J J (zV (zX J (fun a w ha=>xN J J J ha) (fun a w ha=>⟨by have h:¬f2<f1:=om;have h2:¬f1<f2:=om;simp[verdO,h,h2],ha.grown nsl⟩))))))))))))))))

end
section
variable {a b c m x0 x1 x2 xw z0 z1 z2 zw:Nat}
def agnL (fst m:Mor):Bool:=((List.range 3).all fun i=>decide (fst.s.getD i 0<=m.s.getD i 0))&&decide (m.w &&& (7-fst.w)=0)
theorem andNot8:∀a<8,∀b<8,IntKind.u8.wrap ((BitVec.ofInt 8 ((a:Nat):Int) &&& ~~~ BitVec.ofInt 8 ((b:Nat):Int)).toNat)=((a &&& (7-b):Nat):Int):=by decide
theorem zP9 {P:Program} {k:TypeId} (hm:m<=10000) (hk:P.keyTypeAt m k=true) (hw:(match P.underlying k with|some (.array _ _)|some (.struct _)=>true|_=>false)=true) (hgt:P.eqGuardType P.depth k=false)
  (law:WideMaps.KeyLaw P k) {xs ys:Array Value} {a b:Go.Lit} (ha:keyOf P k (.agg xs)=some a) (hb:keyOf P k (.agg ys)=some b) (x y:Operand) (w:World) :
  ∃r,(do eqGuard .eql k x y (.agg xs) (.agg ys);binOp .eql k (.agg xs) (.agg ys):Sem Value).run P w=.ok (.bool r) w∧(r=true↔Value.agg xs=.agg ys):=by
 obtain⟨r,hr,hiff⟩:=run_equal_deep (P:=P) w (m:=m) hm (k:=k) hk hw ha hb
 have hg:(eqGuard .eql k x y (.agg xs) (.agg ys)).run P w=.ok () w:=by
  have hp:(program:Sem Program).run P w=.ok P w:=rfl;simp[eqGuard,Sem.run_bind,hp,hgt]
 have hb':(binOp .eql k (.agg xs) (.agg ys)).run P w=.ok (.bool r) w:=by
  show (do pure (.bool (<-Op.equal k (.agg xs) (.agg ys))):Sem Value).run P w=_;simp only[Sem.run_bind,hr,Result.andThen_ok,Sem.run_pure]
 refine⟨r,by simp only[Sem.run_bind,hg,Result.andThen_ok,hb'],?_⟩;rw[hiff]
 constructor
 ·intro e;exact law.inj (by rw[ha,e]) hb
 ·intro e;rw[e] at ha;rw[ha] at hb;exact Option.some.inj hb
theorem key92 (ha:a<2^63) (hb:b<2^63) (hc:c<2^63):∃x,keyOf TP 90 (.agg #[.int .i64 (a:Int),.int .i64 (b:Int),.int .i64 (c:Int)])=some x:=by
 unfold keyOf;rw[Tryz.underlying90];have hk:TP.keyType 90=true:=by kernel_rfl
 simp only[hk,Bool.true_and];have hf:(Value.agg #[.int .i64 (a:Int),.int .i64 (b:Int),.int .i64 (c:Int)]).formed TP 90=true:=by simp[Value.formed,Tryz.underlying90,co92]
 rw[if_pos hf,tszC]
 generalize TP.types.size-4=D
 have:=zQj ha hb hc (D+1+1+1);rw[show (Value.agg #[.int .i64 (a:Int),.int .i64 (b:Int),.int .i64 (c:Int)]).cells.toList=[.int .i64 (a:Int),.int .i64 (b:Int),.int .i64 (c:Int)] from rfl,this];exact⟨_,rfl⟩
theorem arrLaw:WideMaps.KeyLaw TP 90:=deep_law (m:=4) (by omega) (by kernel_rfl) (by kernel_rfl) (by rw[Tryz.underlying90])
theorem zNi {x y z:Nat} (ha:a<2^63) (hb:b<2^63) (hc:c<2^63) (hx:x<2^63) (hy:y<2^63) (hz:z<2^63) (p q:Operand) (w:World) :
  (do eqGuard .eql 90 p q (.agg #[.int .i64 (a:Int),.int .i64 (b:Int),.int .i64 (c:Int)]) (.agg #[.int .i64 (x:Int),.int .i64 (y:Int),.int .i64 (z:Int)]);binOp .eql 90 (.agg #[.int .i64 (a:Int),.int .i64 (b:Int),.int .i64 (c:Int)]) (.agg #[.int .i64 (x:Int),.int .i64 (y:Int),.int .i64 (z:Int)]):Sem Value).run TP w=.ok (.bool (decide (a=x∧b=y∧c=z))) w:=by
 obtain⟨k1,hk1⟩:=key92 ha hb hc;obtain⟨k2,hk2⟩:=key92 hx hy hz;obtain⟨r,h1,h2⟩:=zP9 (P:=TP) (m:=4) om (k:=90) kr (by rw[Tryz.underlying90]) kr arrLaw hk1 hk2 p q w
 have e:r=decide (a=x∧b=y∧c=z):=by
  rw[Bool.eq_iff_iff,h2,decide_eq_true_iff];simp;omega
 rw[<-e];exact h1
instance TB.three (f g h:Int) (u:Value):TB (.agg #[.int .i64 f,.int .i64 g,.int .i64 h]) u:=TB.agg (by
 intro x hx;simp at hx
 rcases hx with rfl|rfl|rfl<;>exact .int _ _) u
def agnS (fA dA:Option Addr) (fc dc kiln:Nat) (fs:List Flt) (days:List Nat) (b7:Nat):Srch:=⟨fA,dA,fc,dc,kiln,fs,days,92,67,[],[.pointer (some ⟨b7,0,none⟩)],fun _ _=>true,agnL (start fs)⟩
def bstG (fs:List Flt) (kiln:Nat) (days:List Nat):Oc:=(agnS none none 0 0 kiln fs days 0).bst days.length (start fs)
def planG (fs:List Flt) (kiln:Nat) (days:List Nat):List (List Nat):=(agnS none none 0 0 kiln fs days 0).planL days.length (start fs)
theorem zP0 {fA dA:Option Addr} {fc dc kiln b7:Nat} {fs:List Flt} {days:List Nat}:∀n m,(agnS fA dA fc dc kiln fs days b7).planL n m=(agnS none none 0 0 kiln fs days 0).planL n m
 | 0,_=>rfl
 | n+1,_m=>congrArg (List.cons _) (zP0 n _)
theorem zW9 (h0:x0<=z0) (h1:x1<=z1) (h2:x2<=z2):agnL ⟨[x0,x1,x2],xw⟩ ⟨[z0,z1,z2],zw⟩=decide (((zw &&& (7-xw):Nat):Int)=0):=by
 unfold agnL
 have:(List.range 3).all (fun i=>decide ([x0,x1,x2].getD i 0<=[z0,z1,z2].getD i 0))=true:=by
  rw[List.all_eq_true];intro i hi;have:i<3:=List.mem_range.1 hi;rcases i with _|_|_|i<;>simp<;>omega
 rw[this,Bool.true_and,decide_eq_decide];exact (Int.natCast_eq_zero (n:=zw &&& (7-xw))).symm
theorem zUc (a b c:Nat) (k:Nat) (hk:k<3):[Value.int .i64 (a:Int),.int .i64 (b:Int),.int .i64 (c:Int)][k]?=some (.int .i64 (([a,b,c].getD k 0:Nat):Int)):=by
 rcases k with _|_|_|k
 ·rfl
 ·rfl
 ·rfl
 ·omega
theorem jD5 {k:Nat} (hk:k<3) (h:[z0,z1,z2].getD k 0 < [x0,x1,x2].getD k 0):agnL ⟨[x0,x1,x2],xw⟩ ⟨[z0,z1,z2],zw⟩=false:=by
 unfold agnL
 have:(List.range 3).all (fun i=>decide ([x0,x1,x2].getD i 0<=[z0,z1,z2].getD i 0))=false:=by
  rw[List.all_eq_false];exact⟨k,List.mem_range.2 hk,by simpa using h⟩
 rw[this,Bool.false_and]
section
variable [I:Sys] {C:Ctx} {fr:LV} {hp:List Res} {ops:Array Oper} {Q:QT} {rest:List Oper} {d:Nat} {ty:TypeId} {pos:String} {after:Array Edge}
theorem zOw {x y:Operand} {t e:TypeId} {cs:List Value} {v:Value} {len j:Nat} {kd:IntKind} {i:Int} {z:Value} (hd:Nat.blt d C.N=true) (hx:ev fr x=some (.agg cs.toArray)) (hy:ev fr y=some (.int kd i))
  (ht:C.P.underlying t=some (.array len e)) (ho:One C.P e) (he:TI C.P e z 1 m) (hi:i=(j:Int)) (hj:j<len) (hv:cs[j]?=some v)
  (k:Lst C ops Q rest ((d,v)::fr) hp):Lst C ops Q (⟨some d,.index t x y,ty,pos,after,none⟩::rest) fr hp:=by
 obtain⟨i',hi',_,hs,_⟩:=he;subst hi;refine qI _ hd (fun _ _ _=>zNh ..) (fun a w ha=>⟨w,?_,ha⟩) k;have h1:(isAgg e).run C.P w=.ok false w:=zAb ho.1 ho.2 w;have h2:(sizeOf e).run C.P w=.ok 1 w:=by simp[sizeOf,typeInfo,hi',hs]
 have h3:(Instr.index t (.agg cs.toArray) (.int kd (j:Int))).run C.P w=.ok v w:=by
  have hb:(0<=(j:Int)∧(j:Int)<(len:Int)):=om;have hv':cs.toArray[j]?=some v:=by simpa using hv
  simp only[Instr.index,asIntOf,Sem.run_bind,Sem.run_pure,Result.andThen_ok,run_underlying ht,if_pos hb,h2,part,h1,Int.toNat_natCast,Nat.mul_one,hv'];simp
 simp only[execOp,ha.eval hx,ha.eval hy,Sem.run_bind,h3,Result.andThen_ok,Sem.run_pure]
end
end
end Go.Proofs.YteppiphdbondeaaGreat.N
