/- Parts of the walk of the law CharCourses: Y25, YZ, Y26, Y27, YU, YAA, YAB, Y28, Y29, Y20, Y21, YAC, YAD, Y30, ChRow, RowC, RowC2, RowZ2. -/
import Derived.Test.YteppiphdbondeaaGreatSCharCourses10
import Derived.Test.YteppiphdbondeaaGreatSCharCourses07
import Derived.Test.YteppiphdbondeaaGreatProg
import Derived.Test.YteppiphdbondeaaGreatSCharCourses09
import Derived.Test.YteppiphdbondeaaGreatSCharCourses04
import Derived.Test.YteppiphdbondeaaGreatSCharCourses03
import Derived.Test.YteppiphdbondeaaGreatRows
import Derived.ChangeSame
import Derived.ChangeVars
import Derived.JoinedOf
import Derived.RowKit
import Derived.RowKitTokens
import Derived.WitnessAt
import Derived.Stop.Joined
import Derived.ProofKit
import Derived.SizedLaws
import Derived.OpenShut
import Derived.Conc.Holds
import Derived.Deep.Slices
import Derived.Deep.Strs
namespace Go.Proofs.YteppiphdbondeaaGreat.N
set_option linter.unusedSectionVars false
open Go.RowKit
section
variable [I:Sys]
variable {dA fA:Option Addr} {days:List Nat} {dc fc kiln:Nat} {fs:List Flt}
theorem F.ent104:Enters Tryz.prog 104:=jD Tryz.func104 rfl kr
theorem jAx {jA:Option Addr} {jc:Nat} {l:List Int} (h3:fs.length<=3) (w:World) (hJ:RdL zcell 1 w jA l):Calls Tryz.prog 104 #[.agg (CA fA fs.length fc kiln dA days.length dc).toArray,.slice jA l.length jc] w fun e w'=>e=.returned (.int .i64 ((jobC fs.length l:Nat):Int))∧Grew w w' []:=by
 refine enter (N:=30) [(0,.agg (CA fA fs.length fc kiln dA days.length dc).toArray),(1,.slice jA l.length jc)] Tryz.func104 J Tryz.ntmps104 J J (csr (jP J J ?_));intro b2;refine lax J J (zF (csr (zA J J (jJ J J U23 (zK J J F.fi25_0 F.ti22 (zS J J F.one22 (jJ J J U22 (zG J J J jW ?_))))))))
 refine lnx (zL J (fun hc0=>?_) (fun hc0=>?_))
 ·exact csr (lax J J (zT (zP (zY J (rsO J J) (fun a w ha=>⟨by rw[zNw om]<;>rfl,ha.grown nsl⟩)))))
 ·refine zQ (zE (zF (csr (zA J J (jJ J J U23 (zK J J F.fi25_0 F.ti22 (zS J J F.one22 (jJ J J U22 (zG J J J vK ?_)))))))))
  refine lnx (zL J (fun hc1=>?_) (fun hc1=>?_))
  ·exact csr (lax J J (zT (zP (zY J (rsO J J) (fun a w ha=>⟨by rw[zMw om]<;>rfl,ha.grown nsl⟩)))))
  ·refine zQ (zE (zF (csr (lax J J (zR (qK (G:=Nat) (fun j=>j<=l.length∧badK (l.take j)=false) (fun j=>l.length-j) (fun j=>[(1,.slice jA l.length jc),(2,pt b2),(5,.int .i64 (j:Int))]) (fun _=>[.blk b2 (.cells (CA fA fs.length fc kiln dA days.length dc).toArray 25 (0,0))]) 0 ⟨Nat.zero_le _,rfl⟩ sbn sbl ?_))))));intro j ⟨hj,hbk⟩;(try dsimp only at hj hbk ⊢);refine zF (csr (zA J J (zA J J (jJ J J U23 (zG J J J jW ?_)))))
   refine lnx (zL J (fun hc2=>?_) (fun hc2=>?_))
   ·have hj':j<l.length:=om;obtain⟨lb,lo,hlA,hlb,hlc⟩:=hJ om;obtain⟨x,hxj⟩:∃x,l[j]?=some x:=⟨_,List.getElem?_eq_getElem hj'⟩;refine zQ (zE (zF (zR (csr (zA J J (zA J J (jV (j:=j) J (show _=some (Value.slice (some ⟨lb,lo,none⟩) l.length jc) from by rw[<-hlA];rfl) J Tryz.underlying23 F.ti3 J hj' (jU (v:=.int .i64 x) J J F.one3 (fun a w ha=>ha.old (hlc j _ hxj 0 _ J) hlb) (jF (v:=.bool (btw x (0) (3))) (vs:=[_,_,_]) J J F.ent72 (fun a w ha=>zBe (x) (0) (3) w) ?_)))))))))
    refine qI J J (lnx (kS J (fun hc3=>?_) (fun hc3=>?_)))
    ·exact csr (lax J J (zT (jR (zP (zP (jR (zP (zY J (rsO J J) (fun a w ha=>⟨by rw[zPf om (zO2 hxj (by simpa using hc3))]<;>rfl,ha.grown nsl⟩)))))))))
    ·refine zQ (zM (zE (zI (zA J J (zG J J J bdO (zD J J (zB (kT (j+1) ⟨by omega,zPm hxj hbk (by simpa using hc3)⟩ tdo sbn sbl))))))))
   ·have hbk2:badK l=false:=by rw[List.take_of_length_le om] at hbk;exact hbk
    exact jS (zN (zN (jB (zE (csr (lax J J (zT (zY J (rsO J J) (fun a w ha=>⟨by rw[zGz om hbk2]<;>rfl,ha.grown nsl⟩)))))))))

theorem zLx {pA:Option Addr} {pc:Nat} {ms:List MetaZ} (hc:ChV fs kiln days) (hml0:ms.length<1000000) (hms:∀m∈ms,m.2.2.length<1000000) (w:World) (hF:RdL Flt.cells 4 w fA fs) (hD:RdL ncell 1 w dA days) (hP:RdZ w pA ms):Calls Tryz.prog 81 #[.agg (CA fA fs.length fc kiln dA days.length dc).toArray,.slice pA ms.length pc] w fun e w'=>∃(A:Option Addr) (c:Nat) (R:List MZ),(((workE fs kiln days (ms.map (·.2.2))).1≠0∧R=[]∧A=none)∨((workE fs kiln days (ms.map (·.2.2))).1=0∧R.reverse.map (fun x=>strs fs x.2.2)=(workE fs kiln days (ms.map (·.2.2))).2.1∧∀x∈R,MOk x.2.2))∧e=.returned (.tuple #[.slice A R.length c,.int .i64 (((workE fs kiln days (ms.map (·.2.2))).1:Nat):Int)])∧Grew w w' (.row 112 2 A R.length c (R.reverse.flatMap (mmc fs.length))::R.flatMap (mmr fs.length)):=by
 refine enter (N:=73) [(0,.agg (CA fA fs.length fc kiln dA days.length dc).toArray),(1,.slice pA ms.length pc)] Tryz.func81 J Tryz.ntmps81 J J (csr (jP J J ?_));intro b2;refine zD J J (lax J J (zF (csr (jC J J F.agg25 F.ti25 ?_))))
 refine jF (v:=.int .i64 0) (vs:=[_]) J J F.ent34 (fun a w ha=>by
  have h:=zDr (fA:=fA) (dA:=dA) (fc:=fc) (dc:=dc) (fs:=fs.map Flt.toZ) (kiln:=(kiln:Int)) (days:=toZs days) (by have:=hc.f3;simp;omega) (by have:=hc.d4;simp[toZs];omega) w (RdL.mapped Flt.toZ (hF.later ha.below) (fun _=>rfl)) (RdL.mapped (fun (n:Nat)=>(n:Int)) (hD.later ha.below) (fun _=>rfl));rw[chk0 hc] at h
  simpa[toZs] using h) ?_
 refine lax J J (csr (zA J J (zG J J J kW ?_)))
 refine lnx (zL J (fun hc0=>?_) (fun hc0=>?_))
 ·exact absurd J hc0
  done
 ·refine zQ (zE (zF (csr (zA J J (jJ J J U35 (zK J J F.fi25_2 F.ti23 (zS J J F.one23 (jJ J J U23 (zG J J J jW ?_)))))))))
  refine lnx (zL J (fun hc1=>?_) (fun hc1=>?_))
  ·refine csr (zD J J (lax J J (zT (zP ?_))));have hwe:workE fs kiln days (ms.map (·.2.2))=(7,[],0):=by unfold workE;rw[List.length_map,zSl om];rfl
   exact zY J (fun a w ha=>xQ J J J ha) (fun a w ha=>⟨none,0,[],.inl ⟨by rw[hwe];dsimp only;omega,rfl,rfl⟩,by rw[hwe]<;>rfl,(ha.add_nil 112 2).grown (.cons_cons _ nsl)⟩)
  ·refine zQ (zE (zF (csr (zA J J (jJ J J U35 (zK J J F.fi25_2 F.ti23 (zS J J F.one23 (jJ J J U23 (zG J J J vK ?_)))))))))
   refine lnx (zL J (fun hc2=>?_) (fun hc2=>?_))
   ·refine csr (zD J J (lax J J (zT (zP ?_))));have hwe:workE fs kiln days (ms.map (·.2.2))=(6,[],0):=by unfold workE;rw[List.length_map,zPk om];rfl
    exact zY J (fun a w ha=>xQ J J J ha) (fun a w ha=>⟨none,0,[],.inl ⟨by rw[hwe];dsimp only;omega,rfl,rfl⟩,by rw[hwe]<;>rfl,(ha.add_nil 112 2).grown (.cons_cons _ nsl)⟩)
   ·have hml2:ms.length=days.length:=om;have hd4:=hc.d4;have hf3:=hc.f3;have hsz:szd ms.length days.length days.length=0:=jFv.2 hml2;refine zQ (zE (csr (jC J J F.agg25 F.ti25 (kF (X:=(Option Addr×Nat)×(Option Addr×Nat)) (vs:=[_]) (p:=fun _=>True) (val:=fun y=>.agg (mmc fs.length (y.1,y.2,start fs)).toArray) (rs:=fun y=>mmr fs.length (y.1,y.2,start fs)) J J F.ent101 (fun a w ha=>(zOw hc.f3 w (hF.later ha.below)).mono (fun e w' h=>by obtain⟨sA,sc,wA,wc,h1,h2⟩:=h;exact⟨((sA,sc),(wA,wc)),trivial,h1,h2⟩)) ?_))));rintro⟨⟨sA,sc⟩,⟨wA,wc⟩⟩ -;dsimp only[mmc,mmr,List.cons_append,List.nil_append];refine vN (vs:=[(0,.agg ([.slice sA fs.length sc,.slice wA fs.length wc]:List Value).toArray)]) [.slice sA fs.length sc,.slice wA fs.length wc] J J U109 F.ti112 J J J (Lit.agg (l1:=[.slice sA fs.length sc,.slice wA fs.length wc]) J (rfl)) ?_;intro b14;refine wQ (n:=1) 2 J (by unfold maxLen;omega) (.head _) (lax J J (zF (csr (lax J J (zR ?_)))));have hm0:MOk (start fs):=yH hc.f3 hc.ff _ (Nat.le_refl _);refine qU (G:=Nat×Nat×Option Addr×Nat×MZ×List MZ×List (List Nat)) (fun g=>WkI fs kiln days (ms.map (·.2.2)) g.1 g.2.2.2.2.1.2.2 g.2.1 g.2.2.2.2.2.2∧(g.2.2.2.2.1::g.2.2.2.2.2.1).reverse.map (fun x=>strs fs x.2.2)=strs fs (start fs)::g.2.2.2.2.2.2∧g.2.2.2.2.2.1.length=g.1∧∀x∈(g.2.2.2.2.1::g.2.2.2.2.2.1),MOk x.2.2) (fun g=>ms.length-g.1) (fun g=>[(1,.slice pA ms.length pc),(2,pt b2),(7,.slice g.2.2.1 (g.2.2.2.2.1::g.2.2.2.2.2.1).length g.2.2.2.1),(8,.int .i64 (g.1:Int))]) (fun g=>.row 112 2 g.2.2.1 (g.2.2.2.2.1::g.2.2.2.2.2.1).length g.2.2.2.1 ((g.2.2.2.2.1::g.2.2.2.2.2.1).reverse.flatMap (mmc fs.length))::.blk b2 (.cells (CA fA fs.length fc kiln dA days.length dc).toArray 25 (0,0))::(g.2.2.2.2.1::g.2.2.2.2.2.1).flatMap (mmr fs.length)) (0,0,some ⟨b14,0,none⟩,1,((sA,sc),(wA,wc),start fs),[],[]) ⟨WkI.first hm0,rfl,rfl,fun x hx=>by rw[List.mem_singleton.1 hx];exact hm0⟩ sbn (by simp only[mmr,mmc,List.flatMap_cons,List.flatMap_nil,List.append_nil,List.reverse_cons,List.reverse_nil,List.nil_append,List.length_cons,List.length_nil];exact pkk) ?_;rintro⟨k,fires,oA,oc,⟨⟨sA,sc⟩,⟨wA,wc⟩,mo⟩,R,outs⟩ ⟨hI,hmr,hml,hoks⟩;dsimp only at hI hmr hml hoks ⊢;have hkle:=hI.le;rw[List.length_map] at hkle;have hmok:=hI.ok;refine zF (csr (zA J J (zA J J (jJ J J U35 (zG J J J jW ?_)))))
    refine lnx (zL J (fun hc3=>?_) (fun hc3=>?_))
    ·have hk':k<ms.length:=om;obtain⟨pb,po,rfl,hpb,hpc⟩:=hP.outer om;obtain⟨me,hme⟩:∃x,ms[k]?=some x:=⟨_,List.getElem?_eq_getElem hk'⟩;have hin:=hP.inner me (List.mem_of_getElem? hme);have hmlen:=hms me (List.mem_of_getElem? hme);obtain⟨lA,lc,l⟩:=me;dsimp only at hin hmlen;have hpl:(ms.map (·.2.2))[k]?=some l:=by rw[List.getElem?_map,hme];rfl
     obtain⟨db,dbo,hdA⟩:=zH5 hD hc.d1;obtain⟨sg,hsx⟩:∃x,days[k]?=some x:=⟨_,List.getElem?_eq_getElem om⟩;have hxs:sg<=12:=hc.dd sg (List.mem_of_getElem? hsx);have hjle:=jCi fs.length l;have hRk:(((sA,sc),(wA,wc),mo)::R:List MZ).reverse[k]?=some ((sA,sc),(wA,wc),mo):=by rw[List.reverse_cons,<-hml,<-List.length_reverse];exact List.getElem?_concat_length
     refine zQ (zE (zF (zR (zF (zF (jX [] F.follows 7 J (fl 7) J (zC 0 J J J (kU J F.agg25 F.ti25) (zC 1 J J J (zJ J) (zC 2 J J J (zJ J) (zC 3 J J J (jK (j:=k) (show _=some (Value.slice (some ⟨pb,po,none⟩) ms.length pc) from by rfl) J Tryz.underlying35 F.ti23 J hk') (zC 4 J J J (jL (v:=.slice lA l.length lc) J F.one23 (fun a w ha=>ha.old (hpc k _ hme 0 _ J) hpb)) (an1 5 J (jF (v:=.int .i64 ((jobC fs.length l:Nat):Int)) (vs:=[_,_]) J J F.ent104 (fun a w ha=>jAx (days:=days) hc.f3 w (hin.later ha.below)) (zB (anb (zC 6 J J J (jY J) (adn (zE (csr (vS oA (by simp) ?_))))))))))))))))))));intro gR hgR;refine zA J J (zG J J J kW ?_)
     refine lnx (zL J (fun hc4=>?_) (fun hc4=>?_))
     ·refine csr (zA J J (zD J J (lax J J (zT (zP (jR (zP (zP (jR (zP ?_))))))))));have hwe:workE fs kiln days (ms.map (·.2.2))=(jobC fs.length l,[],0):=by unfold workE;rw[List.length_map,hsz,if_neg om,hI.job hpl om,if_pos om]
      exact zY J (fun a w ha=>xQ J J J ha) (fun a w ha=>⟨none,0,[],.inl ⟨by rw[hwe];dsimp only;omega,rfl,rfl⟩,by rw[hwe]<;>rfl,(ha.add_nil 112 2).grown (.cons_cons _ nsl)⟩)
     ·obtain⟨hjz,hjl,hbk2⟩:=zL3 (n:=fs.length) (l:=l) om;have hnl:(natL l).length=l.length:=by simp[natL]
      have hgd:days.getD k 0=sg:=by rw[List.getD_eq_getElem?_getD,hsx];rfl
      have hday:=fun h=>hI.day (l:=l) hpl om hbk2 h;have hnext:=fun h h'=>hI.next (l:=l) hpl om hbk2 h h';rw[hgd] at hday hnext;have hok2:=(yN (fs:=fs) (kiln:=kiln) (m:=mo) (acts:=natL l) (sugar:=sg) hc.ff hmok om hc.f3).1;refine zQ (zE (zF ?_));rcases hDy:dayE fs kiln mo (natL l) sg with ⟨e,m1⟩
      obtain rfl|⟨er,rfl⟩:e=0∨∃er,e=er+1:=by
       cases e with
       | zero=>exact .inl rfl
       | succ er=>exact .inr ⟨er,rfl⟩
      ·refine qH (G:=Nat×(Option Addr×Nat)×(Option Addr×Nat)) (fun _=>True) (fun g=>(10,.pointer (some ⟨g.1,0,none⟩))::(11,.int .i64 0)::[(1,.slice (some ⟨pb,po,none⟩) ms.length pc),(2,pt b2),(7,.slice oA (R.length+1) oc),(8,.int .i64 (k:Int))]) (fun g=>.row 3 1 g.2.1.1 fs.length g.2.1.2 (ints (sts fs.length m1))::.row 4 1 g.2.2.1 fs.length g.2.2.2 (bools (wbs fs.length m1))::.blk g.1 (.cells #[.slice g.2.1.1 fs.length g.2.1.2,.slice g.2.2.1 fs.length g.2.2.2] 112 (0,0))::.row 112 2 oA (R.length+1) oc ((((sA,sc),(wA,wc),mo)::R:List MZ).reverse.flatMap (mmc fs.length))::.blk b2 (.cells (CA fA fs.length fc kiln dA days.length dc).toArray 25 (0,0))::(mmr fs.length ((sA,sc),(wA,wc),mo)++R.flatMap (mmr fs.length))) ?_ ?_
       ·refine jX [] F.follows 21 J (fl 21) J (zC 0 J J J (kU J F.agg25 F.ti25) (zC 1 J J J (zU J F.fi25_2 F.ti23) (zC 2 J J J (jN J F.one23) (zC 3 J J J (zJ J) (zC 4 J J J (jK (j:=k) (show _=some (Value.slice (some ⟨db,dbo,none⟩) days.length dc) from by rw[<-hdA];rfl) J Tryz.underlying23 F.ti3 J (show k<days.length by omega)) (zC 5 J J J (jL (v:=.int .i64 (sg:Int)) J F.one3 (fun a w ha=>zE7 (by have h:=hD.later ha.below;rw[hdA] at h;exact h) hsx)) (zC 6 J J J (zJ J) (zC 7 J J J (zJ J) (zC 8 J J J (jK (j:=k) (show _=some (Value.slice (some ⟨gR,0,none⟩) (R.length+1) oc) from by rw[<-hgR];rfl) J Tryz.underlying109 F.ti112 J om) ?_)))))))))
        refine yT 9 J J J kr kr kr sbl (qC (l:=[.slice sA fs.length sc,.slice wA fs.length wc]) J F.agg112 F.ti112 J (fun a w ha i9 u hu=>by
         obtain⟨b9,o9,h1,_,h3⟩:=kE ha (cells:=mmc fs.length) (size:=2) (e:=112) (c:=oc) (n:=R.length+1) (l:=(((sA,sc),(wA,wc),mo)::R:List MZ).reverse) (fun _=>rfl) (InR.mem (A:=oA)) (by simp) (by simp);rw[hgR] at h1
         cases h1
         exact h3 k _ hRk i9 u hu)) J ?_
        refine zC 10 J J J (zJ J) (zC 11 J J J (zJ J) (zC 12 J J J (jK (j:=k) (show _=some (Value.slice (some ⟨pb,po,none⟩) ms.length pc) from by rfl) J U35 F.ti23 J hk') (zC 13 J J J (jL (v:=.slice lA l.length lc) J F.one23 (fun a w ha=>ha.old (hpc k _ hme 0 _ J) hpb)) ?_)))
        refine qE 14 18 kr J J J J ?_ ?_
        ·refine kF (X:=(Option Addr×Nat)×(Option Addr×Nat)) (vs:=[_,_,_,_]) (p:=fun _=>True) (val:=fun y=>.tuple #[.agg (mmc fs.length (y.1,y.2,m1)).toArray,.int .i64 0]) (rs:=fun y=>mmr fs.length (y.1,y.2,m1)) J J F.ent77 (fun a w ha=>?_) ?_
         ·have h9:=vR (jA:=lA) (jc:=lc) (acts:=natL l) (sugar:=sg) (kiln:=kiln) (fc:=fc) (nd:=days.length) (dA:=dA) (dc:=dc) (mA:=sA) (mc:=sc) (vA:=wA) (vc:=wc) hc.f3 hc.ff hmok om om w (hF.later ha.below) (zCd ha (x:=((sA,sc),(wA,wc),mo)) (by intro r hr;repeat (first|exact List.mem_append_left _ hr|apply List.Mem.tail))) (RdL.nats (hin.later ha.below) hbk2);rw[hnl] at h9
          exact h9.mono (fun e w' h=>by
           rw[hDy] at h;rcases h with ⟨_,sA,sc,wA,wc,h1,h2⟩|⟨h0,_⟩
           ·exact⟨((sA,sc),(wA,wc)),trivial,h1,h2⟩
           ·exact absurd J h0)
         rintro⟨⟨qA,qc⟩,⟨uA,uc⟩⟩ -;dsimp only[mmc,mmr,List.cons_append,List.nil_append];refine zB (anb (zC 15 J J J (zJ J) (zC 16 J J J (jQ J J) (zC 17 J J J (jQ J J) (an1 18 J (zX J F.ti112 ?_))))));intro b10;exact zB (anb (an1 19 J (zH J J F.ti112 J (zB (anb (zC 20 J J J (jY J) (adn (jM (b10,(qA,qc),(uA,uc)) trivial sbn pkk))))))))
        ·refine zX J F.ti112 ?_;intro b10;refine zB (anb (an1 14 J ?_))
         refine kF (X:=(Option Addr×Nat)×(Option Addr×Nat)) (vs:=[_,_,_,_]) (p:=fun _=>True) (val:=fun y=>.tuple #[.agg (mmc fs.length (y.1,y.2,m1)).toArray,.int .i64 0]) (rs:=fun y=>mmr fs.length (y.1,y.2,m1)) J J F.ent77 (fun a w ha=>?_) ?_
         ·have h9:=vR (jA:=lA) (jc:=lc) (acts:=natL l) (sugar:=sg) (kiln:=kiln) (fc:=fc) (nd:=days.length) (dA:=dA) (dc:=dc) (mA:=sA) (mc:=sc) (vA:=wA) (vc:=wc) hc.f3 hc.ff hmok om om w (hF.later ha.below) (zCd ha (x:=((sA,sc),(wA,wc),mo)) (by intro r hr;repeat (first|exact List.mem_append_left _ hr|apply List.Mem.tail))) (RdL.nats (hin.later ha.below) hbk2);rw[hnl] at h9
          exact h9.mono (fun e w' h=>by
           rw[hDy] at h;rcases h with ⟨_,sA,sc,wA,wc,h1,h2⟩|⟨h0,_⟩
           ·exact⟨((sA,sc),(wA,wc)),trivial,h1,h2⟩
           ·exact absurd J h0)
         rintro⟨⟨qA,qc⟩,⟨uA,uc⟩⟩ -;dsimp only[mmc,mmr,List.cons_append,List.nil_append];exact zB (anb (zC 15 J J J (zJ J) (zC 16 J J J (jQ J J) (zC 17 J J J (jQ J J) (an1 19 J (zH J J F.ti112 J (zB (anb (zC 20 J J J (jY J) (adn (jM (b10,(qA,qc),(uA,uc)) trivial sbn pkk)))))))))))
       ·rintro⟨b10,⟨qA,qc⟩,⟨uA,uc⟩⟩ -;(try dsimp only);refine zE (zF (csr (zA J J (zG (v:=.bool false) J J J (fun w=>by rw[kW,decide_eq_false om]) (lnx (kM J (zQ (zE (zI ?_)))))))));rw[hDy] at hok2 hnext;dsimp only at hok2 hnext;refine zA J J (jC J J F.agg112 F.ti112 (vN (vs:=[(0,.agg ([.slice qA fs.length qc,.slice uA fs.length uc]:List Value).toArray)]) [.slice qA fs.length qc,.slice uA fs.length uc] J J U109 F.ti112 J J J (Lit.agg (l1:=[.slice qA fs.length qc,.slice uA fs.length uc]) J (rfl)) ?_));intro b70;refine kD J J J Tryz.underlying109 F.ti112 J J J (by unfold maxLen;omega) om ?_;intro A3 c3;refine zD J J (zB (zM (zE (zI (zA J J (zG J J J bdO (zD J J (zB (kZ (k+1,fires+spF (natL l),A3,c3,((qA,qc),(uA,uc),m1),((sA,sc),(wA,wc),mo)::R,outs++[strs fs m1]) ⟨hnext (by simp) hok2,by dsimp only at hmr ⊢;rw[List.reverse_cons,List.map_append,hmr];rfl,by simp[hml],fun x hx=>?_⟩ tdo (by (try dsimp only);exact sbn) (by (try dsimp only);simp only[mmr,List.flatMap_cons,List.nil_append,List.cons_append];rw[List.reverse_cons (a:=((qA,qc),(uA,uc),m1)),List.flatMap_append];exact pkk))))))))))
        rcases List.mem_cons.1 hx with rfl|hx
        ·exact hok2
        ·exact hoks x hx
      ·refine qH (G:=Nat) (fun _=>True) (fun g=>(10,pt g)::(11,.int .i64 ((er+1:Nat):Int))::[(1,.slice (some ⟨pb,po,none⟩) ms.length pc),(2,pt b2),(7,.slice oA (R.length+1) oc),(8,.int .i64 (k:Int))]) (fun g=>.blk g (.cells #[.slice none 0 0,.slice none 0 0] 112 (0,0))::.row 112 2 oA (R.length+1) oc ((((sA,sc),(wA,wc),mo)::R:List MZ).reverse.flatMap (mmc fs.length))::.blk b2 (.cells (CA fA fs.length fc kiln dA days.length dc).toArray 25 (0,0))::(mmr fs.length ((sA,sc),(wA,wc),mo)++R.flatMap (mmr fs.length))) ?_ ?_
       ·refine jX [] F.follows 21 J (fl 21) J (zC 0 J J J (kU J F.agg25 F.ti25) (zC 1 J J J (zU J F.fi25_2 F.ti23) (zC 2 J J J (jN J F.one23) (zC 3 J J J (zJ J) (zC 4 J J J (jK (j:=k) (show _=some (Value.slice (some ⟨db,dbo,none⟩) days.length dc) from by rw[<-hdA];rfl) J Tryz.underlying23 F.ti3 J (show k<days.length by omega)) (zC 5 J J J (jL (v:=.int .i64 (sg:Int)) J F.one3 (fun a w ha=>zE7 (by have h:=hD.later ha.below;rw[hdA] at h;exact h) hsx)) (zC 6 J J J (zJ J) (zC 7 J J J (zJ J) (zC 8 J J J (jK (j:=k) (show _=some (Value.slice (some ⟨gR,0,none⟩) (R.length+1) oc) from by rw[<-hgR];rfl) J Tryz.underlying109 F.ti112 J om) ?_)))))))))
        refine yT 9 J J J kr kr kr sbl (qC (l:=[.slice sA fs.length sc,.slice wA fs.length wc]) J F.agg112 F.ti112 J (fun a w ha i9 u hu=>by
         obtain⟨b9,o9,h1,_,h3⟩:=kE ha (cells:=mmc fs.length) (size:=2) (e:=112) (c:=oc) (n:=R.length+1) (l:=(((sA,sc),(wA,wc),mo)::R:List MZ).reverse) (fun _=>rfl) (InR.mem (A:=oA)) (by simp) (by simp);rw[hgR] at h1
         cases h1
         exact h3 k _ hRk i9 u hu)) J ?_
        refine zC 10 J J J (zJ J) (zC 11 J J J (zJ J) (zC 12 J J J (jK (j:=k) (show _=some (Value.slice (some ⟨pb,po,none⟩) ms.length pc) from by rfl) J U35 F.ti23 J hk') (zC 13 J J J (jL (v:=.slice lA l.length lc) J F.one23 (fun a w ha=>ha.old (hpc k _ hme 0 _ J) hpb)) ?_)))
        refine qE 14 18 kr J J J J ?_ ?_
        ·refine jF (v:=.tuple #[.agg ([.slice none 0 0,.slice none 0 0]:List Value).toArray,.int .i64 ((er+1:Nat):Int)]) (vs:=[_,_,_,_]) J J F.ent77 (fun a w ha=>?_) ?_
         ·have h9:=vR (jA:=lA) (jc:=lc) (acts:=natL l) (sugar:=sg) (kiln:=kiln) (fc:=fc) (nd:=days.length) (dA:=dA) (dc:=dc) (mA:=sA) (mc:=sc) (vA:=wA) (vc:=wc) hc.f3 hc.ff hmok om om w (hF.later ha.below) (zCd ha (x:=((sA,sc),(wA,wc),mo)) (by intro r hr;repeat (first|exact List.mem_append_left _ hr|apply List.Mem.tail))) (RdL.nats (hin.later ha.below) hbk2);rw[hnl] at h9
          exact h9.mono (fun e w' h=>by
           rw[hDy] at h;rcases h with ⟨h0,_⟩|⟨_,h1,h2⟩
           ·exact absurd h0 (Nat.succ_ne_zero er)
           ·exact⟨h1,h2⟩)
         refine zB (anb (zC 15 J J J (zJ J) (zC 16 J J J (jQ J J) (zC 17 J J J (jQ J J) (an1 18 J (zX J F.ti112 ?_))))));intro b10;exact zB (anb (an1 19 J (zH J J F.ti112 J (zB (anb (zC 20 J J J (jY J) (adn (jM b10 trivial sbn pkk))))))))
        ·refine zX J F.ti112 ?_;intro b10;refine zB (anb (an1 14 J ?_))
         refine jF (v:=.tuple #[.agg ([.slice none 0 0,.slice none 0 0]:List Value).toArray,.int .i64 ((er+1:Nat):Int)]) (vs:=[_,_,_,_]) J J F.ent77 (fun a w ha=>?_) ?_
         ·have h9:=vR (jA:=lA) (jc:=lc) (acts:=natL l) (sugar:=sg) (kiln:=kiln) (fc:=fc) (nd:=days.length) (dA:=dA) (dc:=dc) (mA:=sA) (mc:=sc) (vA:=wA) (vc:=wc) hc.f3 hc.ff hmok om om w (hF.later ha.below) (zCd ha (x:=((sA,sc),(wA,wc),mo)) (by intro r hr;repeat (first|exact List.mem_append_left _ hr|apply List.Mem.tail))) (RdL.nats (hin.later ha.below) hbk2);rw[hnl] at h9
          exact h9.mono (fun e w' h=>by
           rw[hDy] at h;rcases h with ⟨h0,_⟩|⟨_,h1,h2⟩
           ·exact absurd h0 (Nat.succ_ne_zero er)
           ·exact⟨h1,h2⟩)
         exact zB (anb (zC 15 J J J (zJ J) (zC 16 J J J (jQ J J) (zC 17 J J J (jQ J J) (an1 19 J (zH J J F.ti112 J (zB (anb (zC 20 J J J (jY J) (adn (jM b10 trivial sbn pkk)))))))))))
       ·rintro b10 -;(try dsimp only);refine zE (zF (csr (zA J J (zG (v:=.bool true) J J J (fun w=>by rw[kW,decide_eq_true om]) (lnx (qG J (csr (zA J J (zD J J (lax J J (zT (zP (jR (zP (zP (jR (zP ?_)))))))))))))))));have hwe:workE fs kiln days (ms.map (·.2.2))=(er+1,[],0):=by unfold workE;rw[List.length_map,hsz,if_neg om,hday (by rw[hDy];exact Nat.succ_ne_zero er),hDy,if_pos (Nat.succ_ne_zero er)]
        exact zY J (fun a w ha=>xQ J J J ha) (fun a w ha=>⟨none,0,[],.inl ⟨by rw[hwe];dsimp only;omega,rfl,rfl⟩,by rw[hwe]<;>rfl,(ha.add_nil 112 2).grown (.cons_cons _ nsl)⟩)
    ·have hkl:k=(ms.map (·.2.2)).length:=by rw[List.length_map];omega
     have hlast:=hI.last hkl;have hwe:workE fs kiln days (ms.map (·.2.2))=(0,strs fs (start fs)::outs,fires):=by unfold workE;rw[List.length_map,hsz,if_neg om,hlast,if_neg (by simp)]
     exact jS (zN (zN (jB (zE (csr (zA J J (zD J J (lax J J (zT (zY J (fun a w ha=>xQ J J J ha) (fun a w ha=>⟨oA,oc,((sA,sc),(wA,wc),mo)::R,.inr ⟨by rw[hwe],by rw[hwe];exact hmr,hoks⟩,by rw[hwe]<;>rfl,ha.grown (.cons_cons _ (.cons _ (List.Sublist.refl _)))⟩)))))))))))

end
section
theorem zRs {fs:List Flt} {kiln:Nat} {days:List Nat}:∀(ls:List (List Int)) (d:Nat) (m:Mor),(wk fs kiln days ls d m).1=0->(∀l∈ls,jobC fs.length l=0)∧(wk fs kiln days ls d m).2.2=(ls.map fun l=>spF (natL l)).sum
 | [],_,_,_=>⟨fun _ h=>(nomatch h),rfl⟩
 | l::ls,d,m,h=>by
  unfold wk at h ⊢
  by_cases h1:szd l.length fs.length fs.length≠0
  ·rw[if_pos h1] at h
   exact absurd h h1
  ·rw[if_neg h1] at h ⊢
   by_cases h2:badK l=true
   ·rw[if_pos h2] at h
    cases h
   ·rw[if_neg h2] at h ⊢
    by_cases h3:(dayE fs kiln m (natL l) (days.getD d 0)).1≠0
    ·rw[if_pos h3] at h
     exact absurd h h3
    ·rw[if_neg h3] at h ⊢
     by_cases h4:(wk fs kiln days ls (d+1) (dayE fs kiln m (natL l) (days.getD d 0)).2).1≠0
     ·rw[if_pos h4] at h
      exact absurd h h4
     ·rw[if_neg h4]
      obtain⟨h5,h6⟩:=zRs ls _ _ (Decidable.not_not.1 h4)
      refine⟨fun x hx=>?_,?_⟩
      ·rcases List.mem_cons.1 hx with rfl|hx
       ·exact zGz (jFv.1 (Decidable.not_not.1 h1)) (by simpa using h2)
       ·exact h5 x hx
      ·dsimp only
       rw[h6,List.map_cons,List.sum_cons]
theorem zVh {fs:List Flt} {kiln:Nat} {days:List Nat} {plan:List (List Int)} (h:(workE fs kiln days plan).1=0):plan.length=days.length∧(∀l∈plan,jobC fs.length l=0)∧(workE fs kiln days plan).2.2=(plan.map fun l=>spF (natL l)).sum:=by
 unfold workE at h ⊢
 by_cases h1:szd plan.length days.length days.length≠0
 ·rw[if_pos h1] at h
  exact absurd h h1
 ·rw[if_neg h1] at h ⊢
  by_cases h2:(wk fs kiln days plan 0 (start fs)).1≠0
  ·rw[if_pos h2] at h
   exact absurd h h2
  ·rw[if_neg h2]
   obtain⟨h3,h4⟩:=zRs plan 0 (start fs) (Decidable.not_not.1 h2)
   exact⟨jFv.1 (Decidable.not_not.1 h1),h3,h4⟩
def stm (n:Nat) (x:MZ):Meta:=(x.1.1,x.1.2,sts n x.2.2)
theorem zQf (n:Nat):∀R:List MZ,List.Sublist ((R.map (stm n)).map mrow) (R.flatMap (mmr n))
 | []=>.slnil
 | x::R=>by
  rw[List.map_cons,List.map_cons,List.flatMap_cons]
  have h:mrow (stm n x)=.row 3 1 x.1.1 n x.1.2 (ints (sts n x.2.2)):=by
   unfold mrow stm
   rw[zB6]
  rw[h]
  exact .cons_cons _ (.cons _ (zQf n R))
theorem zI6 {fs:List Flt} {kiln:Nat} {days:List Nat} {plan:List (List Int)} (h:(workE fs kiln days plan).1≠0):workE fs kiln days plan=((workE fs kiln days plan).1,[],0):=by
 unfold workE at h ⊢
 by_cases h1:szd plan.length days.length days.length≠0
 ·rw[if_pos h1]
 ·rw[if_neg h1] at h ⊢
  by_cases h2:(wk fs kiln days plan 0 (start fs)).1≠0
  ·rw[if_pos h2]
  ·rw[if_neg h2] at h
   exact absurd rfl h
theorem zWh {fs:List Flt} {kiln:Nat} {days:List Nat}:∀(ls:List (List Int)) (d:Nat) (m:Mor),(wk fs kiln days ls d m).2.1.length<=ls.length
 | [],_,_=>Nat.le_refl _
 | l::ls,d,m=>by
  have h9:=zWh (fs:=fs) (kiln:=kiln) (days:=days) ls (d+1) (dayE fs kiln m (natL l) (days.getD d 0)).2
  unfold wk
  split
  ·exact Nat.zero_le _
  ·split
   ·exact Nat.zero_le _
   ·split
    ·exact Nat.zero_le _
    ·split
     ·exact Nat.zero_le _
     ·exact Nat.succ_le_succ h9
theorem zPq {fs:List Flt} {kiln n:Nat} {days:List Nat} {plan:List (List Int)} (_h:(workE fs kiln days plan).1=0) (hn:plan.length<=n):(workE fs kiln days plan).2.1.length<=n+1:=by
 have h9:=zWh (fs:=fs) (kiln:=kiln) (days:=days) plan 0 (start fs)
 unfold workE
 split
 ·exact Nat.zero_le _
 ·split
  ·exact Nat.zero_le _
  ·dsimp only[List.length_cons]
   omega
theorem zKr {α:Type} {f:α->Nat}:∀{l:List α} {n:Nat},(∀x∈l,f x<=1)->l.length<=n->(l.map f).sum<=n
 | [],_,_,_=>Nat.zero_le _
 | x::l,n,h,hn=>by
  have h1:=h x (List.mem_cons_self ..)
  have h2:=zKr (l:=l) (n:=n-1) (fun y hy=>h y (List.mem_cons_of_mem _ hy)) (by rw[List.length_cons] at hn;omega)
  rw[List.length_cons] at hn
  rw[List.map_cons,List.sum_cons]
  omega
end
section
variable [I:Sys]
variable {dA fA pA:Option Addr} {days:List Nat} {dc fc kiln pc:Nat} {fs:List Flt} {ms:List MetaZ}
theorem F.ent81:Enters Tryz.prog 81:=jD Tryz.func81 rfl (by kernel_rfl)
theorem zPl (hc:ChV fs kiln days) (hml0:ms.length<1000000) (hms:∀m∈ms,m.2.2.length<1000000) (w:World) (hF:RdL Flt.cells 4 w fA fs) (hD:RdL ncell 1 w dA days) (hP:RdZ w pA ms):Calls Tryz.prog 36 #[.agg (CA fA fs.length fc kiln dA days.length dc).toArray,.slice pA ms.length pc] w fun e w'=>e=.returned (.int .i64 (((workE fs kiln days (ms.map (·.2.2))).1:Nat):Int))∧Grew w w' []:=by
 refine enter (N:=14) [(0,.agg (CA fA fs.length fc kiln dA days.length dc).toArray),(1,.slice pA ms.length pc)] Tryz.func36 rfl Tryz.ntmps36 rfl rfl (zF (zI (jP rfl rfl ?_)))
 intro b2
 refine zD rfl rfl (zB (zE (zF (zI (jC rfl rfl F.agg25 F.ti25 ?_)))))
 refine zA rfl rfl (kF (X:=Option Addr×Nat×List MZ) (vs:=[_,_]) (p:=fun y=>((workE fs kiln days (ms.map (·.2.2))).1≠0∧y.2.2=[]∧y.1=none)∨((workE fs kiln days (ms.map (·.2.2))).1=0∧y.2.2.reverse.map (fun x=>strs fs x.2.2)=(workE fs kiln days (ms.map (·.2.2))).2.1∧∀x∈y.2.2,MOk x.2.2)) (val:=fun y=>.tuple #[.slice y.1 y.2.2.length y.2.1,.int .i64 (((workE fs kiln days (ms.map (·.2.2))).1:Nat):Int)]) (rs:=fun y=>.row 112 2 y.1 y.2.2.length y.2.1 (y.2.2.reverse.flatMap (mmc fs.length))::y.2.2.flatMap (mmr fs.length)) rfl rfl F.ent81 (fun a w ha=>(zLx hc hml0 hms w (hF.later ha.below) (hD.later ha.below) (hP.later ha.below)).mono (fun e w' h=>by obtain⟨A',c',R',h1,h2,h3⟩:=h;exact⟨(A',c',R'),h1,h2,h3⟩)) ?_)
 rintro⟨mA,mc,R⟩ hcase
 dsimp only at hcase ⊢
 exact zA rfl rfl (zZ rfl rfl rfl (zZ rfl rfl rfl (zD rfl rfl (zD rfl rfl (zB (zE (zF (zI (zA rfl rfl (zD rfl rfl (zB (zE (zT (zY rfl (rsO rfl rfl) (fun a w ha=>⟨rfl,ha.grown nsl⟩)))))))))))))))

theorem zWt (hc:ChV fs kiln days) (hml0:ms.length<1000000) (hms:∀m∈ms,m.2.2.length<1000000) (w:World) (hF:RdL Flt.cells 4 w fA fs) (hD:RdL ncell 1 w dA days) (hP:RdZ w pA ms):Calls Tryz.prog 32 #[.agg (CA fA fs.length fc kiln dA days.length dc).toArray,.slice pA ms.length pc] w fun e w'=>∃(A:Option Addr) (c:Nat) (O S:List Meta),O.map (·.2.2)=(workE fs kiln days (ms.map (·.2.2))).2.1∧(∀m∈O,m∈S)∧e=.returned (.tuple #[.slice A O.length c,.int .i64 (((workE fs kiln days (ms.map (·.2.2))).2.2:Nat):Int),.int .i64 (((workE fs kiln days (ms.map (·.2.2))).1:Nat):Int)])∧Grew w w' (.row 23 1 A O.length c (O.map mcell)::S.map mrow):=by
 refine enter (N:=52) [(0,.agg (CA fA fs.length fc kiln dA days.length dc).toArray),(1,.slice pA ms.length pc)] Tryz.func32 rfl Tryz.ntmps32 rfl rfl (zF (zI (jP rfl rfl ?_)))
 intro b2
 refine zD rfl rfl (zD rfl rfl (zD rfl rfl (zB (zE (zF (zI (jC rfl rfl F.agg25 F.ti25 (zA rfl rfl (kF (X:=Option Addr×Nat×List MZ) (vs:=[_,_]) (p:=fun y=>((workE fs kiln days (ms.map (·.2.2))).1≠0∧y.2.2=[]∧y.1=none)∨((workE fs kiln days (ms.map (·.2.2))).1=0∧y.2.2.reverse.map (fun x=>strs fs x.2.2)=(workE fs kiln days (ms.map (·.2.2))).2.1∧∀x∈y.2.2,MOk x.2.2)) (val:=fun y=>.tuple #[.slice y.1 y.2.2.length y.2.1,.int .i64 (((workE fs kiln days (ms.map (·.2.2))).1:Nat):Int)]) (rs:=fun y=>.row 112 2 y.1 y.2.2.length y.2.1 (y.2.2.reverse.flatMap (mmc fs.length))::y.2.2.flatMap (mmr fs.length)) rfl rfl F.ent81 (fun a w ha=>(zLx hc hml0 hms w (hF.later ha.below) (hD.later ha.below) (hP.later ha.below)).mono (fun e w' h=>by obtain⟨A',c',R',h1,h2,h3⟩:=h;exact⟨(A',c',R'),h1,h2,h3⟩)) ?_)))))))))
 rintro⟨mA,mc,R⟩ hcase
 dsimp only at hcase ⊢
 refine zA rfl rfl (zZ rfl rfl rfl (zZ rfl rfl rfl (zD rfl rfl (zD rfl rfl (zB (zE (zF (zF (zI (zA rfl rfl (zG rfl rfl rfl kW ?_)))))))))))
 refine zB (zE (zL rfl (fun hc0=>?_) (fun hc0=>?_)))
 ·exact zF (zI (zA rfl rfl (zD rfl rfl (zD rfl rfl (zD rfl rfl (zB (zE (zT (zP (zY rfl (fun a w ha=>qR rfl rfl rfl rfl ha) (fun a w ha=>⟨none,0,[],[],(congrArg (fun y=>y.2.1) (zI6 (plan:=(ms.map (·.2.2))) om)).symm,fun _ h=>(nomatch h),by rw[zI6 (plan:=(ms.map (·.2.2))) om]<;>rfl,(ha.add_nil 23 1).grown (.cons_cons _ nsl)⟩)))))))))))
 ·obtain⟨hw0,hRm,hoks⟩:(workE fs kiln days (ms.map (·.2.2))).1=0∧R.reverse.map (fun x=>strs fs x.2.2)=(workE fs kiln days (ms.map (·.2.2))).2.1∧∀x∈R,MOk x.2.2:=by
   rcases hcase with ⟨h,_⟩|h
   ·exact absurd h om
   ·exact h
  obtain⟨hpl,hjobs,hsum⟩:=zVh hw0
  rw[List.length_map] at hpl
  have hd4:=hc.d4
  have hf3:=hc.f3
  have hRl:R.length<=5:=by
   have h:=congrArg List.length hRm
   rw[List.length_map,List.length_reverse] at h
   rw[h]
   exact zPq (n:=4) hw0 (by rw[List.length_map];omega)
  refine zQ (zE (zF (zI (zD rfl rfl (zB (zE (zF (zF (zI (zD rfl rfl (zB (zE (zR (vZ 23 1 (qU (G:=Nat×Option Addr×Nat×List Meta) (fun g=>g.1<=R.length∧g.2.2.2=(R.reverse.take g.1).map (stm fs.length)) (fun g=>R.length-g.1) (fun g=>[(1,.slice pA ms.length pc),(7,.slice mA R.length mc),(9,.slice g.2.1 g.2.2.2.length g.2.2.1),(10,.int .i64 (g.1:Int))]) (fun g=>.row 23 1 g.2.1 g.2.2.2.length g.2.2.1 (g.2.2.2.map mcell)::.row 112 2 mA R.length mc (R.reverse.flatMap (mmc fs.length))::(R.flatMap (mmr fs.length)++[.blk b2 (.cells (CA fA fs.length fc kiln dA days.length dc).toArray 25 (0,0))])) (0,none,0,[]) ⟨Nat.zero_le _,rfl⟩ sbn pkk ?_)))))))))))))))
  rintro⟨i,oA,oc,O⟩ ⟨hi,hO⟩
  dsimp only at hi hO ⊢
  have hOl:O.length=i:=by rw[hO,List.length_map,List.length_take,List.length_reverse];omega
  refine zF (zF (zI (zA rfl rfl (zA rfl rfl (jJ rfl rfl Tryz.underlying109 (zG rfl rfl rfl jW ?_))))))
  refine zB (zE (zL rfl (fun hc1=>?_) (fun hc1=>?_)))
  ·obtain⟨x,hx⟩:∃x,R.reverse[i]?=some x:=⟨_,List.getElem?_eq_getElem (by simp;omega)⟩
   refine zQ (zE (zF (zR (zI (vS mA om ?_)))))
   intro gR hgR
   refine zA rfl rfl (zA rfl rfl (zA rfl rfl (jV (j:=i) rfl (show _=some (Value.slice (some ⟨gR,0,none⟩) R.length mc) from by rw[<-hgR];rfl) rfl Tryz.underlying109 F.ti112 rfl om ?_)))
   refine wN rfl rfl F.fi112_0 F.ti23 ?_
   refine jU (v:=.slice x.1.1 fs.length x.1.2) rfl rfl F.one23 (fun a w ha=>by
    obtain⟨b9,o9,h1,_,h3⟩:=kE ha (cells:=mmc fs.length) (size:=2) (e:=112) (c:=mc) (n:=R.length) (l:=R.reverse) (fun _=>rfl) (InR.mem (A:=mA)) (by simp) (by simp;omega)
    rw[hgR] at h1
    cases h1
    exact h3 i _ hx 0 _ rfl) ?_
   refine kC (vs:=[(0,_)]) rfl rfl Tryz.underlying35 F.ti23 rfl rfl rfl ?_
   intro b34
   refine kD rfl rfl rfl Tryz.underlying35 F.ti23 rfl rfl rfl (by unfold maxLen;omega) om ?_
   intro A9 c9
   refine zD rfl rfl (zB (zM (zE (zI (zA rfl rfl (zG rfl rfl rfl bdO (zD rfl rfl (zB (kZ (i+1,A9,c9,O++[stm fs.length x]) ⟨by (try dsimp only);omega,by dsimp only;rw[hO,List.take_add_one,hx,List.map_append];rfl⟩ tdo (by dsimp only;rw[List.length_append,List.length_singleton];exact sbn) (by dsimp only;rw[List.length_append,List.length_singleton,List.map_append,show [stm fs.length x].map mcell=[.slice x.1.1 fs.length x.1.2] from by unfold stm mcell;rw[List.map_singleton,zB6]];exact pkk))))))))))
  ·have hOr:O=R.reverse.map (stm fs.length):=by rw[hO,List.take_of_length_le (by simp;omega)]
   refine jS (zN (zN (jB (zE (zF (zI (zD rfl rfl (zB (zE (zF (zF (zI (zD rfl rfl (zB (zE (zR (qK (G:=Nat) (fun j=>j<=ms.length) (fun j=>ms.length-j) (fun j=>[(1,.slice pA ms.length pc),(9,.slice oA O.length oc),(11,.int .i64 (((ms.take j).map fun m=>spF (natL m.2.2)).sum:Nat)),(12,.int .i64 (j:Int))]) (fun _=>.row 23 1 oA O.length oc (O.map mcell)::.row 112 2 mA R.length mc (R.reverse.flatMap (mmc fs.length))::(R.flatMap (mmr fs.length)++[.blk b2 (.cells (CA fA fs.length fc kiln dA days.length dc).toArray 25 (0,0))])) 0 (Nat.zero_le _) sbn sbl ?_)))))))))))))))))
   intro j hj
   (try dsimp only at hj ⊢)
   have hsl:((ms.take j).map fun m=>spF (natL m.2.2)).sum<=j:=zKr (fun m _=>zAe _) (by rw[List.length_take];omega)
   refine zF (zF (zI (zA rfl rfl (zA rfl rfl (jJ rfl rfl Tryz.underlying35 (zG rfl rfl rfl jW ?_))))))
   refine zB (zE (zL rfl (fun hc2=>?_) (fun hc2=>?_)))
   ·have hj':j<ms.length:=by omega
    obtain⟨pb,po,hpA,hpb,hpc⟩:=hP.outer om
    obtain⟨me,hme⟩:∃x,ms[j]?=some x:=⟨_,List.getElem?_eq_getElem hj'⟩
    have hin:=hP.inner me (List.mem_of_getElem? hme)
    obtain⟨-,hjl,hbk2⟩:=zL3 (hjobs me.2.2 (List.mem_map_of_mem (List.mem_of_getElem? hme)))
    obtain⟨lA,lc,l⟩:=me
    dsimp only at hin hjl hbk2
    have hnl:(natL l).length=l.length:=by simp[natL]
    have hsp1:=zAe (natL l)
    have hsw1:=zAm (natL l)
    have hnx:((ms.take (j+1)).map fun m=>spF (natL m.2.2)).sum=((ms.take j).map fun m=>spF (natL m.2.2)).sum+spF (natL l):=by
     rw[List.take_add_one,hme,List.map_append,List.sum_append]
     simp
    refine zQ (zE (zF (zR (zI (zA rfl rfl (zA rfl rfl (zA rfl rfl (jV (j:=j) rfl (show _=some (Value.slice (some ⟨pb,po,none⟩) ms.length pc) from by rw[<-hpA];rfl) rfl Tryz.underlying35 F.ti23 rfl hj' (jU (v:=.slice lA l.length lc) rfl rfl F.one23 (fun a w ha=>ha.old (hpc j _ hme 0 _ rfl) hpb) ?_)))))))))
    refine jF (v:=.int .i64 ((dayC (natL l):Nat):Int)) (vs:=[_]) rfl rfl F.ent79 (fun a w ha=>by
     have h9:=zH9 (aA:=lA) (ac:=lc) (acts:=natL l) om w (RdL.nats (hin.later ha.below) hbk2)
     rw[hnl] at h9
     exact h9) ?_
    refine zG (v:=.int .i64 ((spF (natL l):Nat):Int)) rfl rfl rfl (fun w=>zLd w (by decide) (by rw[show ((dayC (natL l):Nat):Int).tdiv 100=((spF (natL l):Nat):Int) from by unfold dayC;rw[Int.tdiv_eq_ediv_of_nonneg om];omega];exact kQ _ om om)) (zG (v:=.int .i64 ((((ms.take (j+1)).map fun m=>spF (natL m.2.2)).sum:Nat):Int)) rfl rfl rfl bdP (zD rfl rfl (zB (zM (zE (zI (zA rfl rfl (zG rfl rfl rfl bdO (zD rfl rfl (zB (kT (j+1) om tdo sbn sbl)))))))))))
   ·have hjn:j=ms.length:=by omega
    have hfin:((ms.take j).map fun m=>spF (natL m.2.2)).sum=(workE fs kiln days (ms.map (·.2.2))).2.2:=by rw[hsum,hjn,List.take_length,List.map_map];rfl
    refine jS (zN (zN (jB (zE (zF (zI (zA rfl rfl (zA rfl rfl (zD rfl rfl (zD rfl rfl (zD rfl rfl (zB (zE (zT ?_))))))))))))))
    exact zY rfl (fun a w ha=>qR rfl rfl rfl rfl ha) (fun a w ha=>⟨oA,oc,O,R.map (stm fs.length),by
     rw[<-hRm,hOr,List.map_map]
     refine List.map_congr_left fun x hx=>?_
     exact zY2 hf3 (hoks x (List.mem_reverse.1 hx)).three,fun m hm=>by
     rw[hOr] at hm
     obtain⟨x,hx,rfl⟩:=List.mem_map.1 hm
     exact List.mem_map_of_mem (List.mem_reverse.1 hx),by rw[hfin,hw0]<;>rfl,ha.grown (.cons_cons _ (.cons _ ((zQf _ R).trans (List.sublist_append_left _ _))))⟩)

end
section
variable [I:Sys]
variable {dA fA:Option Addr} {dc fc:Nat} {dz:List Int} {fz:List FltZ} {kz:Int}
theorem zMy (hfl:fz.length<1000000) (hdl:dz.length<1000000) {pA:Option Addr} {pn pc:Nat} (hk:chk fz kz dz≠0) (w:World) (hF:RdL FltZ.cells 4 w fA fz) (hD:RdL zcell 1 w dA dz):Calls Tryz.prog 81 #[.agg (CY fA fz.length fc kz dA dz.length dc).toArray,.slice pA pn pc] w fun e w'=>e=.returned (.tuple #[.slice none 0 0,.int .i64 ((chk fz kz dz:Nat):Int)])∧Grew w w' []:=by
 refine enter (N:=73) [(0,.agg (CY fA fz.length fc kz dA dz.length dc).toArray),(1,.slice pA pn pc)] Tryz.func81 J Tryz.ntmps81 J J (csr (jP J J ?_));intro b2;refine zD J J (lax J J (zF (csr (jC J J F.agg25 F.ti25 (jF (v:=.int .i64 ((chk fz kz dz:Nat):Int)) (vs:=[_]) J J F.ent34 (fun a w ha=>zDr hfl hdl w (hF.later ha.below) (hD.later ha.below)) (lax J J (csr (zA J J (zG J J J kW ?_)))))))))
 refine lnx (zL J (fun hc0=>?_) (fun hc0=>?_))
 ·exact csr (zA J J (zD J J (lax J J (zT (zP (zY J (fun a w ha=>xQ J J J ha) (fun a w ha=>⟨rfl,ha.grown nsl⟩)))))))
 ·exfalso;omega
  done

theorem zX3 (hfl:fz.length<1000000) (hdl:dz.length<1000000) {pA:Option Addr} {pn pc:Nat} (hk:chk fz kz dz≠0) (w:World) (hF:RdL FltZ.cells 4 w fA fz) (hD:RdL zcell 1 w dA dz):Calls Tryz.prog 31 #[.agg (CY fA fz.length fc kz dA dz.length dc).toArray,.slice pA pn pc] w fun e w'=>e=.returned (.tuple #[.slice none 0 0,.int .i64 0,.int .i64 ((chk fz kz dz:Nat):Int)])∧Grew w w' []:=by
 refine enter (N:=20) [(0,.agg (CY fA fz.length fc kz dA dz.length dc).toArray),(1,.slice pA pn pc)] Tryz.func31 J Tryz.ntmps31 J J (csr (jP J J ?_));intro b2;refine zD J J (zD J J (lax J J (zF (csr (jC J J F.agg25 F.ti25 (jF (v:=.int .i64 ((chk fz kz dz:Nat):Int)) (vs:=[_]) J J F.ent33 (fun a w ha=>wS hfl hdl w (hF.later ha.below) (hD.later ha.below)) (lax J J (csr (zA J J (zG J J J kW ?_))))))))))
 refine lnx (zL J (fun hc0=>?_) (fun hc0=>?_))
 ·exact csr (zA J J (zD J J (zD J J (lax J J (zT (zP (zY J (fun a w ha=>qR J J J J ha) (fun a w ha=>⟨rfl,ha.grown nsl⟩))))))))
 ·exfalso;omega
  done

theorem zQp (hfl:fz.length<1000000) (hdl:dz.length<1000000) {pA:Option Addr} {pn pc:Nat} (hk:chk fz kz dz≠0) (w:World) (hF:RdL FltZ.cells 4 w fA fz) (hD:RdL zcell 1 w dA dz):Calls Tryz.prog 35 #[.agg (CY fA fz.length fc kz dA dz.length dc).toArray,.slice pA pn pc] w fun e w'=>e=.returned (.int .i64 ((chk fz kz dz:Nat):Int))∧Grew w w' []:=by
 refine enter (N:=23) [(0,.agg (CY fA fz.length fc kz dA dz.length dc).toArray),(1,.slice pA pn pc)] Tryz.func35 J Tryz.ntmps35 J J (csr (jP J J ?_));intro b2;refine lax J J (zF (csr (jC J J F.agg25 F.ti25 (jF (v:=.int .i64 ((chk fz kz dz:Nat):Int)) (vs:=[_]) J J F.ent33 (fun a w ha=>wS hfl hdl w (hF.later ha.below) (hD.later ha.below)) (lax J J (csr (zA J J (zG J J J kW ?_))))))))
 refine lnx (zL J (fun hc0=>?_) (fun hc0=>?_))
 ·exact csr (zA J J (lax J J (zT (zP (zY J (rsO J J) (fun a w ha=>⟨rfl,ha.grown nsl⟩))))))
 ·exfalso;omega
  done

theorem zWe (hfl:fz.length<1000000) (hdl:dz.length<1000000) {pA:Option Addr} {pn pc:Nat} (hk:chk fz kz dz≠0) (w:World) (hF:RdL FltZ.cells 4 w fA fz) (hD:RdL zcell 1 w dA dz):Calls Tryz.prog 32 #[.agg (CY fA fz.length fc kz dA dz.length dc).toArray,.slice pA pn pc] w fun e w'=>e=.returned (.tuple #[.slice none 0 0,.int .i64 0,.int .i64 ((chk fz kz dz:Nat):Int)])∧Grew w w' []:=by
 refine enter (N:=52) [(0,.agg (CY fA fz.length fc kz dA dz.length dc).toArray),(1,.slice pA pn pc)] Tryz.func32 J Tryz.ntmps32 J J (csr (jP J J ?_));intro b2;refine zD J J (zD J J (lax J J (csr (jC J J F.agg25 F.ti25 (zA J J (jF (v:=.tuple #[.slice none 0 0,.int .i64 ((chk fz kz dz:Nat):Int)]) (vs:=[_,_]) J J F.ent81 (fun a w ha=>zMy hfl hdl hk w (hF.later ha.below) (hD.later ha.below)) (zA J J (zZ J J J (zZ J J J (zD J J (lax J J (zF (csr (zA J J (zG J J J kW ?_)))))))))))))))
 refine lnx (zL J (fun hc0=>?_) (fun hc0=>?_))
 ·exact csr (zA J J (zD J J (zD J J (lax J J (zT (zP (zY J (fun a w ha=>qR J J J J ha) (fun a w ha=>⟨rfl,ha.grown nsl⟩))))))))
 ·exfalso;omega
  done

theorem zP6 (hfl:fz.length<1000000) (hdl:dz.length<1000000) {pA:Option Addr} {pn pc:Nat} (hk:chk fz kz dz≠0) (w:World) (hF:RdL FltZ.cells 4 w fA fz) (hD:RdL zcell 1 w dA dz):Calls Tryz.prog 36 #[.agg (CY fA fz.length fc kz dA dz.length dc).toArray,.slice pA pn pc] w fun e w'=>e=.returned (.int .i64 ((chk fz kz dz:Nat):Int))∧Grew w w' []:=by
 refine enter (N:=14) [(0,.agg (CY fA fz.length fc kz dA dz.length dc).toArray),(1,.slice pA pn pc)] Tryz.func36 J Tryz.ntmps36 J J (csr (jP J J ?_));intro b2;exact lax J J (csr (jC J J F.agg25 F.ti25 (zA J J (jF (v:=.tuple #[.slice none 0 0,.int .i64 ((chk fz kz dz:Nat):Int)]) (vs:=[_,_]) J J F.ent81 (fun a w ha=>zMy hfl hdl hk w (hF.later ha.below) (hD.later ha.below)) (zA J J (zZ J J J (zZ J J J (zD J J (lax J J (csr (zA J J (lax J J (zT (zY J (rsO J J) (fun a w ha=>⟨rfl,ha.grown nsl⟩)))))))))))))))

end
section
variable [I:Sys]
variable {w:World}
def PlanR (rp:Bool) (fs:List Flt) (kiln:Nat) (days:List Nat) (y:List (List Nat)×Nat×Nat):Prop :=
 y=if (bO (lasR fs rp) fs kiln days days.length (start fs)).is=true then (planN (lasR fs rp) fs kiln days,(bO (lasR fs rp) fs kiln days days.length (start fs)).f,0) else ([],0,11)
abbrev EP (c:Nat):List (List Nat)×Nat×Nat:=([],0,c)
def AnsPl (rp:Bool) (fz:List FltZ) (kz:Int) (dz:List Int) (w:World) (e:Ending) (w':World):Prop :=
 ∃(A:Option Addr) (c:Nat) (R S:List Meta) (y:List (List Nat)×Nat×Nat),RawP (PlanR rp) EP fz kz dz y∧R.map (·.2.2)=y.1∧(∀m∈R,m∈S)∧e=.returned (.tuple #[.slice A R.length c,.int .i64 (y.2.1:Int),.int .i64 (y.2.2:Int)])∧Grew w w' (.row 23 1 A R.length c (R.map mcell)::S.map mrow)
section
variable {fA dA:Option Addr} {fc dc:Nat} {fz:List FltZ} {kz:Int} {dz:List Int} {rp:Bool}
theorem zV1 {f:FuncId} {args:Array Value} (hk:chk fz kz dz≠0) (h:Calls Tryz.prog f args w fun e w'=>e=.returned (.tuple #[.slice none 0 0,.int .i64 0,.int .i64 ((chk fz kz dz:Nat):Int)])∧Grew w w' []):Calls Tryz.prog f args w fun e w'=>AnsPl rp fz kz dz w e w' :=
 h.mono fun _ _ ⟨h1,h2⟩=>⟨none,0,[],[],([],0,chk fz kz dz),.inl ⟨hk,rfl⟩,rfl,fun _ h=>(nomatch h),h1,h2.nilRow 23 1⟩
theorem zZa {fs:List Flt} {kiln:Nat} {days:List Nat} {e:Ending} {w':World} {A:Option Addr} {c:Nat} {R S:List Meta} (hc:ChV fs kiln days)
  (h:((bO (lasR fs rp) fs kiln days days.length (start fs)).is=true∧R.map (·.2.2)=planN (lasR fs rp) fs kiln days∧e=.returned (.tuple #[.slice A R.length c,.int .i64 (((bO (lasR fs rp) fs kiln days days.length (start fs)).f:Nat):Int),.int .i64 0]))∨((bO (lasR fs rp) fs kiln days days.length (start fs)).is=false∧R=[]∧e=.returned (.tuple #[.slice none 0 0,.int .i64 0,.int .i64 11])))
  (hRS:∀m∈R,m∈S) (hg:Grew w w' (.row 23 1 A R.length c (R.map mcell)::S.map mrow)):AnsPl rp (fs.map Flt.toZ) kiln (toZs days) w e w':=by
 rcases h with ⟨h1,h2,h3⟩|⟨h1,h2,h3⟩
 ·exact⟨A,c,R,S,(planN (lasR fs rp) fs kiln days,(bO (lasR fs rp) fs kiln days days.length (start fs)).f,0),.inr ⟨fs,kiln,days,hc,rfl,rfl,rfl,by unfold PlanR;rw[if_pos h1]⟩,h2,hRS,h3,hg⟩
 ·exact⟨none,0,[],[],([],0,11),.inr ⟨fs,kiln,days,hc,rfl,rfl,rfl,by unfold PlanR;rw[if_neg (by rw[h1];simp)]⟩,rfl,fun _ h=>(nomatch h),h3,Grew.nilRow hg.less 23 1⟩
theorem jAs (hfl:fz.length<1000000) (hdl:dz.length<1000000) (w:World) (hF:RdL FltZ.cells 4 w fA fz) (hD:RdL zcell 1 w dA dz):Calls Tryz.prog 58 #[cz3 fA dA fc dc fz kz dz,.bool rp] w fun e w'=>AnsPl rp fz kz dz w e w':=by
 by_cases hk:chk fz kz dz=0
 ·obtain⟨fs,kiln,days,hc,rfl,rfl,rfl⟩:=zCv hk;unfold cz3;rw[List.length_map,yS];refine (jCc (rp:=rp) hc w (zGv hF) (zGx hD)).mono fun e w' ⟨A,c,R,S,h1,h2,h3⟩=>zZa hc h1 h2 h3
 ·exact zV1 hk (jAc hfl hdl hk w hF hD)
end
theorem zTj {rp:Bool} {fz:List FltZ} {kz:Int} {dz:List Int} {y:List (List Nat)×Nat×Nat} (h:RawP (PlanR rp) EP fz kz dz y):y.1.length<=4∧∀l∈y.1,l.length<=3:=by
 have hpl:∀(las:Mor->Bool) (fs:List Flt) (kiln:Nat) (days:List Nat) n m,((srO las fs kiln days).planL n m).length=n∧(fs.length<=3->∀l∈(srO las fs kiln days).planL n m,l.length<=3):=by
  intro las fs kiln days n
  induction n with
  | zero=>exact fun m=>⟨rfl,fun _ l hl=>(nomatch hl)⟩
  | succ n ih =>
   intro m;refine⟨congrArg Nat.succ (ih _).1,fun h3 l hl=>?_⟩
   rcases List.mem_cons.1 hl with rfl|hl
   ·unfold Srch.pick
    cases hf:(exts [] (srO las fs kiln days).fs.length).find? fun l=>decide ((srO las fs kiln days).stp n m l=(srO las fs kiln days).bst (n+1) m) with
    | none=>exact Nat.zero_le _
    | some l =>
     have:=zF6 l (List.mem_of_find?_eq_some hf);show l.length<=3;rw[this];exact h3
   ·exact (ih _).2 h3 l hl
 rcases h with ⟨_,rfl⟩|⟨fs,kiln,days,hc,_,_,_,rfl⟩
 ·exact⟨Nat.zero_le _,fun _ h=>(nomatch h)⟩
 ·split
  ·obtain⟨h1,h2⟩:=hpl (lasR fs rp) fs kiln days days.length (start fs);exact⟨by show (planN _ _ _ _).length<=4;unfold planN;rw[h1];exact hc.d4,h2 hc.f3⟩
  ·exact⟨Nat.zero_le _,fun _ h=>(nomatch h)⟩
theorem zOb {C:Ctx} {fr:LV} {hp:List Res} {a:Act} (ha:At C fr hp a w) {A:Option Addr} {c:Nat} {R S:List Meta} (h1:Res.row 23 1 A R.length c (R.map mcell)∈hp) (hRS:∀m∈R,m∈S) (h2:∀r∈S.map mrow,r∈hp):RdZ w A (R.map zmeta):=by
 have h:=jEr (mr:=R.reverse) (A:=A) (c:=c) ha (by rw[List.length_reverse,List.reverse_reverse];exact h1) fun m hm=>h2 _ (List.mem_map_of_mem (hRS m (List.mem_reverse.1 hm)))
 rwa[List.reverse_reverse] at h
end
section
variable [I:Sys]
variable {args:Array Value} {f:FuncId} {w:World} {y:List (List Nat)×Nat×Nat}
def CourR (plan:List (List Int)) (fs:List Flt) (kiln:Nat) (days:List Nat) (y:List (List Nat)×Nat×Nat):Prop :=
 y=((workE fs kiln days plan).2.1,(workE fs kiln days plan).2.2,(workE fs kiln days plan).1)
def ChkR (plan:List (List Int)) (fs:List Flt) (kiln:Nat) (days:List Nat) (y:Nat):Prop:=y=(workE fs kiln days plan).1
abbrev EC (c:Nat):Nat:=c
section
variable {fA dA pA:Option Addr} {fc dc pc:Nat} {fz:List FltZ} {kz:Int} {dz:List Int} {ms:List MetaZ} {plan:List (List Int)}
theorem CourR.uniq {x:List (List Nat)×Nat×Nat} (h:RawP (CourR plan) EP fz kz dz x) (h':RawP (CourR plan) EP fz kz dz y):x=y:=RawP.uniq (P:=CourR plan) (fun _ _ _ _ a b=>Eq.trans a (Eq.symm b)) h h'
theorem ChkR.uniq {x y:Nat} (h:RawP (ChkR plan) EC fz kz dz x) (h':RawP (ChkR plan) EC fz kz dz y):x=y:=RawP.uniq (P:=ChkR plan) (fun _ _ _ _ a b=>Eq.trans a (Eq.symm b)) h h'
def AnsC (plan:List (List Int)) (fz:List FltZ) (kz:Int) (dz:List Int) (w:World) (e:Ending) (w':World):Prop :=
 ∃(A:Option Addr) (c:Nat) (R S:List Meta) (y:List (List Nat)×Nat×Nat),RawP (CourR plan) EP fz kz dz y∧R.map (·.2.2)=y.1∧(∀m∈R,m∈S)∧e=.returned (.tuple #[.slice A R.length c,.int .i64 (y.2.1:Int),.int .i64 (y.2.2:Int)])∧Grew w w' (.row 23 1 A R.length c (R.map mcell)::S.map mrow)
def AnsK (plan:List (List Int)) (fz:List FltZ) (kz:Int) (dz:List Int) (w:World) (e:Ending) (w':World):Prop :=
 ∃y:Nat,RawP (ChkR plan) EC fz kz dz y∧e=.returned (.int .i64 (y:Int))∧Grew w w' []
theorem zNy (hk:chk fz kz dz≠0) (h:Calls Tryz.prog f args w fun e w'=>e=.returned (.tuple #[.slice none 0 0,.int .i64 0,.int .i64 ((chk fz kz dz:Nat):Int)])∧Grew w w' []):Calls Tryz.prog f args w fun e w'=>AnsC plan fz kz dz w e w' :=
 h.mono fun _ _ ⟨h1,h2⟩=>⟨none,0,[],[],([],0,chk fz kz dz),.inl ⟨hk,rfl⟩,rfl,fun _ h=>(nomatch h),h1,h2.nilRow 23 1⟩
theorem zQb (hk:chk fz kz dz≠0) (h:Calls Tryz.prog f args w fun e w'=>e=.returned (.int .i64 ((chk fz kz dz:Nat):Int))∧Grew w w' []):Calls Tryz.prog f args w fun e w'=>AnsK plan fz kz dz w e w' :=
 h.mono fun _ _ ⟨h1,h2⟩=>⟨chk fz kz dz,.inl ⟨hk,rfl⟩,h1,h2⟩
theorem zZe (hfl:fz.length<1000000) (hdl:dz.length<1000000) (hml0:ms.length<1000000) (hms:∀m∈ms,m.2.2.length<1000000) (w:World) (hF:RdL FltZ.cells 4 w fA fz) (hD:RdL zcell 1 w dA dz) (hP:RdZ w pA ms):Calls Tryz.prog 31 #[cz3 fA dA fc dc fz kz dz,.slice pA ms.length pc] w fun e w'=>AnsC (ms.map (·.2.2)) fz kz dz w e w':=by
 by_cases hk:chk fz kz dz=0
 ·obtain⟨fs,kiln,days,hc,rfl,rfl,rfl⟩:=zCv hk;unfold cz3;rw[List.length_map,yS];refine (zPp hc hml0 hms w (zGv hF) (zGx hD) hP).mono fun e w' ⟨oA,oc,mr,h1,h2,h3⟩=>?_;rw[<-List.length_reverse] at h2 h3;exact⟨oA,oc,mr.reverse,mr,_,.inr ⟨fs,kiln,days,hc,rfl,rfl,rfl,rfl⟩,h1,fun m hm=>List.mem_reverse.1 hm,h2,h3⟩
 ·exact zNy hk (zX3 hfl hdl hk w hF hD)
theorem zVw (hfl:fz.length<1000000) (hdl:dz.length<1000000) (hml0:ms.length<1000000) (hms:∀m∈ms,m.2.2.length<1000000) (w:World) (hF:RdL FltZ.cells 4 w fA fz) (hD:RdL zcell 1 w dA dz) (hP:RdZ w pA ms):Calls Tryz.prog 32 #[cz3 fA dA fc dc fz kz dz,.slice pA ms.length pc] w fun e w'=>AnsC (ms.map (·.2.2)) fz kz dz w e w':=by
 by_cases hk:chk fz kz dz=0
 ·obtain⟨fs,kiln,days,hc,rfl,rfl,rfl⟩:=zCv hk;unfold cz3;rw[List.length_map,yS];exact (zWt hc hml0 hms w (zGv hF) (zGx hD) hP).mono fun e w' ⟨oA,oc,O,S,h1,h2,h3,h4⟩=>⟨oA,oc,O,S,_,.inr ⟨fs,kiln,days,hc,rfl,rfl,rfl,rfl⟩,h1,h2,h3,h4⟩
 ·exact zNy hk (zWe hfl hdl hk w hF hD)
theorem zQ5 (hfl:fz.length<1000000) (hdl:dz.length<1000000) (hml0:ms.length<1000000) (hms:∀m∈ms,m.2.2.length<1000000) (w:World) (hF:RdL FltZ.cells 4 w fA fz) (hD:RdL zcell 1 w dA dz) (hP:RdZ w pA ms):Calls Tryz.prog 35 #[cz3 fA dA fc dc fz kz dz,.slice pA ms.length pc] w fun e w'=>AnsK (ms.map (·.2.2)) fz kz dz w e w':=by
 by_cases hk:chk fz kz dz=0
 ·obtain⟨fs,kiln,days,hc,rfl,rfl,rfl⟩:=zCv hk;unfold cz3;rw[List.length_map,yS];exact (zQu hc hml0 hms w (zGv hF) (zGx hD) hP).mono fun e w' ⟨h1,h2⟩=>⟨_,.inr ⟨fs,kiln,days,hc,rfl,rfl,rfl,rfl⟩,h1,h2⟩
 ·exact zQb hk (zQp hfl hdl hk w hF hD)
theorem zPh (hfl:fz.length<1000000) (hdl:dz.length<1000000) (hml0:ms.length<1000000) (hms:∀m∈ms,m.2.2.length<1000000) (w:World) (hF:RdL FltZ.cells 4 w fA fz) (hD:RdL zcell 1 w dA dz) (hP:RdZ w pA ms):Calls Tryz.prog 36 #[cz3 fA dA fc dc fz kz dz,.slice pA ms.length pc] w fun e w'=>AnsK (ms.map (·.2.2)) fz kz dz w e w':=by
 by_cases hk:chk fz kz dz=0
 ·obtain⟨fs,kiln,days,hc,rfl,rfl,rfl⟩:=zCv hk;unfold cz3;rw[List.length_map,yS];exact (zPl hc hml0 hms w (zGv hF) (zGx hD) hP).mono fun e w' ⟨h1,h2⟩=>⟨_,.inr ⟨fs,kiln,days,hc,rfl,rfl,rfl,rfl⟩,h1,h2⟩
 ·exact zQb hk (zP6 hfl hdl hk w hF hD)
end
theorem zTb {plan:List (List Int)} {fz:List FltZ} {kz:Int} {dz:List Int} (h:RawP (CourR plan) EP fz kz dz y):y.1.length<=plan.length+1∧∀l∈y.1,l.length<=3:=by
 have hl:∀(fs:List Flt) (kiln:Nat) (days:List Nat),fs.length<=3->∀(ls:List (List Int)) (d:Nat) (m:Mor),∀l∈(wk fs kiln days ls d m).2.1,l.length<=3:=by
  intro fs kiln days h3 ls
  induction ls with
  | nil=>exact fun _ _ l hl=>(nomatch hl)
  | cons x ls ih =>
   intro d m l hl;unfold wk at hl
   split at hl
   ·cases hl
   ·split at hl
    ·cases hl
    ·split at hl
     ·cases hl
     ·split at hl
      ·cases hl
      ·rcases List.mem_cons.1 hl with rfl|hl
       ·unfold strs;rw[List.length_take];omega
       ·exact ih _ _ l hl
 rcases h with ⟨_,rfl⟩|⟨fs,kiln,days,hc,_,_,_,rfl⟩
 ·exact⟨Nat.zero_le _,fun _ h=>(nomatch h)⟩
 ·by_cases h0:(workE fs kiln days plan).1=0
  ·refine⟨zPq h0 (Nat.le_refl _),fun l hm=>?_⟩;unfold workE at hm
   split at hm
   ·cases hm
   ·split at hm
    ·cases hm
    ·rcases List.mem_cons.1 hm with rfl|hm
     ·unfold strs;rw[List.length_take];have:=hc.f3;omega
     ·exact hl fs kiln days hc.f3 _ _ _ l hm
  ·rw[zI6 h0];exact⟨Nat.zero_le _,fun _ h=>(nomatch h)⟩
end
section
def zmrow (m:MetaZ):Res:=.row 3 1 m.1 m.2.2.length m.2.1 (m.2.2.flatMap zcell)
theorem jA7 {α:Type} {xs:List α} {z v:α} {n k:Nat} (hx:xs.length=k) (hk:k<n):(xs++List.replicate (n-k) z).set k v=(xs++[v])++List.replicate (n-(k+1)) z:=by
 obtain⟨j,hj⟩:∃j,n-k=j+1:=⟨n-k-1,by omega⟩;rw[hj,show n-(k+1)=j from by omega,List.replicate_succ,List.set_append_right _ _ om,hx,Nat.sub_self,List.set_cons_zero,List.append_assoc]
 rfl
end
section
variable [I:Sys]
variable {ms:List MetaZ} {pA:Option Addr} {pc:Nat}
theorem zS0 {lA:Option Addr} {lc:Nat} {l:List Int} (l0:lA=none->l=[]∧lc=0) (hl:l.length<=400000) (w:World) (hL:RdL zcell 1 w lA l):Calls Tryz.prog 55 #[.slice lA l.length lc] w fun e w'=>∃A c,e=.returned (.slice A l.length c)∧Grew w w' [.row 3 1 A l.length c (l.flatMap zcell)]:=by
 refine enter (N:=6) [(0,.slice lA l.length lc)] Tryz.func55 J Tryz.ntmps55 J J (csr (lax J J (csr (zB3 J U23 F.ti3 ?_))));intro b3;refine zAs 1 (.head _) (zA J J (zAx (cells:=zcell) J J J Tryz.underlying23 F.ti3 J J (fun _=>rfl) zZ2 (fun a w ha=>hL.later ha.below) l0 J (by unfold maxLen;omega) om ?_));intro A1 c1;refine lax J J (zT ?_);simp only[Nat.zero_add,List.nil_append];exact zY J (rsO J J) (fun a w ha=>⟨A1,c1,rfl,ha.grown sbl⟩)

theorem zFu (hml0:ms.length<=1000) (hms:∀m∈ms,m.2.2.length<=1000) (hm0:∀m∈ms,m.1=none->m.2.2=[]∧m.2.1=0) (w:World) (hP:RdZ w pA ms):Calls Tryz.prog 30 #[.slice pA ms.length pc] w fun e w'=>∃(A:Option Addr) (c:Nat) (O:List MetaZ),O.reverse.map (·.2.2)=ms.map (·.2.2)∧e=.returned (.slice A O.length c)∧Grew w w' (.row 23 1 A O.length c (O.reverse.map zmcell)::O.map zmrow):=by
 refine enter (N:=23) [(0,.slice pA ms.length pc)] Tryz.func30 J Tryz.ntmps30 J J (csr (lax J J (csr (zA J J (jJ J J U35 (zFn (n:=ms.length) (zNx _) J J J U35 F.ti23 om om om ?_))))));intro b7;refine lax J J (zF (csr (lax J J (zR (qU (G:=Nat×List MetaZ) (fun g=>g.1<=ms.length∧g.2.reverse.map (·.2.2)=(ms.take g.1).map (·.2.2)) (fun g=>ms.length-g.1) (fun g=>[(0,.slice pA ms.length pc),(3,.slice (some ⟨b7,0,none⟩) ms.length ms.length),(4,.int .i64 (g.1:Int))]) (fun g=>.row 23 1 (some ⟨b7,0,none⟩) ms.length ms.length (g.2.reverse.map zmcell++List.replicate (ms.length-g.1) (Value.slice none 0 0))::g.2.map zmrow) (0,[]) ⟨Nat.zero_le _,rfl⟩ sbn pkk ?_)))));rintro⟨k,O⟩ ⟨hk,hO⟩;dsimp only at hk hO ⊢
 have hOl:O.length=k:=by
  have h:=congrArg List.length hO;rw[List.length_map,List.length_map,List.length_reverse,List.length_take] at h;omega
 refine zF (csr (zA J J (zA J J (jJ J J U35 (zG J J J jW ?_)))))
 refine lnx (zL J (fun hc0=>?_) (fun hc0=>?_))
 ·have hk':k<ms.length:=om;obtain⟨pb,po,hpA,hpb,hpc⟩:=hP.outer om;obtain⟨me,hme⟩:∃x,ms[k]?=some x:=⟨_,List.getElem?_eq_getElem hk'⟩;have hin:=hP.inner me (List.mem_of_getElem? hme);have hml:=hms me (List.mem_of_getElem? hme);have hmn:=hm0 me (List.mem_of_getElem? hme);obtain⟨lA,lc,l⟩:=me;dsimp only at hin hml hmn;refine zQ (zE (zF (zR (zI (zA J J (zA J J (zA J J (zA J J (jV (j:=k) J (show _=some (Value.slice (some ⟨pb,po,none⟩) ms.length pc) from by rw[<-hpA];rfl) J Tryz.underlying35 F.ti23 J hk' (jU (v:=.slice lA l.length lc) J J F.one23 (fun a w ha=>ha.old (hpc k _ hme 0 _ J) hpb) (kF (X:=Option Addr×Nat) (vs:=[_]) (p:=fun _=>True) (val:=fun y=>.slice y.1 l.length y.2) (rs:=fun y=>[zmrow (y.1,y.2,l)]) J J F.ent55 (fun a w ha=>(zS0 hmn om w (hin.later ha.below)).mono (fun e w' h=>by obtain⟨A',c',h1,h2⟩:=h;exact⟨(A',c'),trivial,h1,h2⟩)) ?_)))))))))));rintro⟨A3,c3⟩ -;dsimp only[List.cons_append,List.nil_append];refine jV (j:=k) J J J Tryz.underlying35 F.ti23 J hk' (vG (A:=some ⟨b7,0,none⟩) (((A3,c3,l)::O).reverse.map zmcell++List.replicate (ms.length-(k+1)) (Value.slice none 0 0)) (show _=some (Value.pointer (some ⟨b7,0+k*1,none⟩)) from rfl) J F.ti23 J (by rw[List.length_append,List.length_map,List.length_reverse,List.length_replicate];omega) (by rw[show 0+k*1=k from by omega,List.reverse_cons,List.map_append];exact jA7 (by rw[List.length_map,List.length_reverse,hOl]) hk') (zB (zM (zE (zI (zA J J (zG J J J bdO (zD J J (zB (kZ (k+1,(A3,c3,l)::O) ⟨by (try dsimp only);omega,by dsimp only;rw[List.reverse_cons,List.map_append,hO,List.take_add_one,hme,List.map_append];rfl⟩ tdo sbn pkk))))))))))
 ·obtain rfl:k=ms.length:=om;refine jS (zN (zN (jB (zE (csr (zA J J (lax J J (zT ?_))))))))
  exact zY J (rsO J J) (fun a w ha=>⟨some ⟨b7,0,none⟩,ms.length,O,by rw[hO,List.take_length],by rw[hOl],by
   rw[Nat.sub_self,List.replicate_zero,List.append_nil] at ha;rw[hOl]
   exact ha.grown (List.Sublist.refl _)⟩)

theorem jDr (w:World) (hP:RdZ w pA ms):Calls Tryz.prog 28 #[.slice pA ms.length pc] w fun e w'=>(∃b:Bool,(b=false->ms.length<=20∧∀m∈ms,m.2.2.length<=20)∧e=.returned (.bool b))∧Grew w w' []:=by
 refine enter (N:=23) [(0,.slice pA ms.length pc)] Tryz.func28 J Tryz.ntmps28 J J (csr (lax J J (zF (csr (lax J J (zR (qK (G:=Nat) (fun k=>k<=ms.length∧k<=20∧∀m∈ms.take k,m.2.2.length<=20) (fun k=>ms.length-k) (fun k=>[(0,.slice pA ms.length pc),(3,.int .i64 (k:Int))]) (fun _=>[]) 0 ⟨Nat.zero_le _,Nat.zero_le _,fun m h=>(nomatch h)⟩ sbn sbl ?_)))))));rintro k ⟨hk,hk20,hall⟩;(try dsimp only at hk hk20 hall ⊢);refine zF (zF ?_)
 rcases Nat.lt_or_ge k ms.length with hlt|hge
 ·refine zI (zA J J (zA J J (jJ J J Tryz.underlying35 (zG (v:=.bool true) J J J (fun w=>by rw[jW,decide_eq_true om]) (zA J J (zO J J (zA J J (zO J J (zG J J J jW ?_)))))))))
  refine jG J J J (lnx (zL J (fun hc0=>?_) (fun hc0=>?_)))
  ·obtain⟨pb,po,hpA,hpb,hpc⟩:=hP.outer om;obtain⟨me,hme⟩:∃x,ms[k]?=some x:=⟨_,List.getElem?_eq_getElem hlt⟩;obtain⟨lA,lc,l⟩:=me;refine zQ (zE (zF (zR (csr (zA J J (zA J J (jV (j:=k) J (show _=some (Value.slice (some ⟨pb,po,none⟩) ms.length pc) from by rw[<-hpA];rfl) J Tryz.underlying35 F.ti23 J hlt (jU (v:=.slice lA l.length lc) J J F.one23 (fun a w ha=>ha.old (hpc k _ hme 0 _ J) hpb) (jJ J J Tryz.underlying23 (zG J J J vK ?_))))))))))
   refine lnx (zL J (fun hc1=>?_) (fun hc1=>?_))
   ·exact csr (lax J J (zT (jR (zP (zP (jR (zP (zY J (rsO J J) (fun a w ha=>⟨⟨true,fun h=>(nomatch h),rfl⟩,ha.grown nsl⟩)))))))))
   ·refine zQ (zM (zE (zI (zA J J (zG J J J bdO (zD J J (zB (kT (k+1) ⟨by (try dsimp only);omega,by (try dsimp only);omega,fun m hm=>?_⟩ tdo sbn sbl))))))));rw[List.take_add_one,hme] at hm
    rcases List.mem_append.1 hm with h|h
    ·exact hall m h
    ·rw[Option.toList_some,List.mem_singleton] at h;rw[h];dsimp only;omega
  ·exact jS (zN (zN (jB (zE (csr (zA J J (jJ J J Tryz.underlying35 (zG J J J vK (lax J J (zT (zY J (rsO J J) (fun a w ha=>⟨⟨_,fun h=>⟨by have:=of_decide_eq_false h;omega,fun m hm=>hall m (by rw[List.take_of_length_le (by have:=of_decide_eq_false h;omega)];exact hm)⟩,rfl⟩,ha.grown nsl⟩))))))))))))
 ·exact zI (zA J J (zA J J (jJ J J Tryz.underlying35 (zG (v:=.bool false) J J J (fun w=>by rw[jW,decide_eq_false om]) (zA J J (zW J J J (zW J J J (jT J J J (lnx (kM J (jS (zN (zN (jB (zE (csr (zA J J (jJ J J Tryz.underlying35 (zG J J J vK (lax J J (zT (zY J (rsO J J) (fun a w ha=>⟨⟨_,fun h=>⟨by have:=of_decide_eq_false h;omega,fun m hm=>hall m (by rw[List.take_of_length_le (by have:=of_decide_eq_false h;omega)];exact hm)⟩,rfl⟩,ha.grown nsl⟩)))))))))))))))))))))))

end
section
variable [I:Sys]
theorem zOs {C:Ctx} {fr:LV} {T:List Res} {a:Act} {w:World} (hC:C.P=Tryz.prog) {hb tk st nc:Nat} {nA:Option Addr} {nums:List Int} (hB:C.w0.heap.size=C.B) (hN:RdL icell 1 C.w0 nA nums) (htk:tk<=600000) (hst:st<18446744073709551616) {fA dA:Option Addr} {fc dc0:Nat} {fz:List FltZ} {kz:Int} {dz:List Int} (hfl:fz.length<=20) (hdl:dz.length<=20) (ha:At C fr (.blk hb (hatO nA nums.length nc (tk) (st))::T) a w):Calls C.P 29 #[pt hb,.agg #[.slice fA fz.length fc,.int .i64 kz,.slice dA dz.length dc0]] w fun e w'=>(∃(tk' st':Nat) (A:Option Addr) (c:Nat) (O:List MetaZ),tk'<=tk+400∧st'<18446744073709551616∧O.length=dz.length∧(∀m∈O,m.2.2.length=fz.length)∧e=.returned (.slice A O.length c)∧At C fr (.row 23 1 A O.length c (O.reverse.map zmcell)::(O.map zmrow++.blk hb (hatO nA nums.length nc tk' st')::T)) a w'):=by
 obtain⟨P,B,w0,N0,ds⟩:=C;obtain rfl:P=Tryz.prog:=hC;(try dsimp only at hB);(try dsimp only at hN);refine vY (N:=34) [(0,pt hb),(1,.agg #[.slice fA fz.length fc,.int .i64 kz,.slice dA dz.length dc0])] ha Tryz.func29 J Tryz.ntmps29 J J (csr (jP J J ?_));intro b3;refine lax J J (csr (lax J J (zF (csr (lax J J (zR (vZ 23 1 (qU (G:=Nat×Nat×Nat×Option Addr×Nat×List MetaZ) (fun g=>g.1<=dz.length∧g.2.1<=tk+g.1*fz.length∧g.2.2.1<18446744073709551616∧g.2.2.2.2.2.length=g.1∧∀m∈g.2.2.2.2.2,m.2.2.length=fz.length) (fun g=>dz.length-g.1) (fun g=>[(0,pt hb),(3,pt b3),(5,.slice g.2.2.2.1 g.2.2.2.2.2.length g.2.2.2.2.1),(6,.int .i64 (g.1:Int))]) (fun g=>.row 23 1 g.2.2.2.1 g.2.2.2.2.2.length g.2.2.2.2.1 (g.2.2.2.2.2.reverse.map zmcell)::.blk hb (hatO nA nums.length nc (g.2.1) (g.2.2.1))::.blk b3 (.cells #[.slice fA fz.length fc,.int .i64 kz,.slice dA dz.length dc0] 25 (0,0))::(g.2.2.2.2.2.map zmrow++T)) (0,tk,st,none,0,[]) ⟨Nat.zero_le _,Nat.le_add_right _ _,hst,rfl,fun m h=>(nomatch h)⟩ sbn pkk ?_))))))));rintro⟨i,t1,s1,oA,oc,O⟩ ⟨hi,ht1,hs1,hOl,hOm⟩;dsimp only at hi ht1 hs1 hOl hOm ⊢;refine zF (csr (zA J J (zK J J F.fi25_2 F.ti23 (zS J J F.one23 (jJ J J U23 (zG J J J jW ?_))))))
 refine lnx (zL J (fun hc0=>?_) (fun hc0=>?_))
 ·have hi':i<dz.length:=om;have hmul:(i+1)*fz.length<=400:=Nat.le_trans (Nat.mul_le_mul (show i+1<=20 by omega) hfl) (by decide);have hmul2:(i+1)*fz.length=i*fz.length+fz.length:=Nat.succ_mul ..;refine zQ (zE (zF (zR (csr (lax J J (zF (csr (lax J J (zR (vZ 3 1 (qU (G:=Nat×Nat×Nat×Option Addr×Nat×List Int) (fun g=>g.1<=fz.length∧g.2.1<=t1+g.1∧g.2.2.1<18446744073709551616∧g.2.2.2.2.2.length=g.1) (fun g=>fz.length-g.1) (fun g=>[(0,pt hb),(3,pt b3),(5,.slice oA O.length oc),(6,.int .i64 (i:Int)),(7,.slice g.2.2.2.1 g.2.2.2.2.2.length g.2.2.2.2.1),(8,.int .i64 (g.1:Int))]) (fun g=>.row 3 1 g.2.2.2.1 g.2.2.2.2.2.length g.2.2.2.2.1 (g.2.2.2.2.2.flatMap zcell)::.row 23 1 oA O.length oc (O.reverse.map zmcell)::.blk hb (hatO nA nums.length nc (g.2.1) (g.2.2.1))::.blk b3 (.cells #[.slice fA fz.length fc,.int .i64 kz,.slice dA dz.length dc0] 25 (0,0))::(O.map zmrow++T)) (0,t1,s1,none,0,[]) ⟨Nat.zero_le _,Nat.le_add_right _ _,hs1,rfl⟩ sbn pkk ?_)))))))))));rintro⟨j,t2,s2,lA,lc,l⟩ ⟨hj,ht2,hs2,hll⟩;dsimp only at hj ht2 hs2 hll ⊢;refine zF (csr (zA J J (zK J J F.fi25_0 F.ti22 (zS J J F.one22 (jJ J J U22 (zG J J J jW ?_))))))
  refine lnx (zL J (fun hc1=>?_) (fun hc1=>?_))
  ·refine zQ (zE (zF (zR (zI (zA J J (zA J J (kC (vs:=[(0,_),(1,_),(2,_),(3,_),(4,_),(5,_)]) J J U23 F.ti3 J J J ?_)))))));intro b25;refine yM [0,0,0,1,2,3] J J J hB hN hs2 om (by simp) (by simp) (InB.mem (b:=b25)) ?_;intro s3 x1 hs3 hx1;refine kC (vs:=[(0,_)]) J J U23 F.ti3 J J J ?_;intro b27;refine kD J J J Tryz.underlying23 F.ti3 J J J (by unfold maxLen;omega) om ?_;intro A9 c9;refine zD J J (zB (zM (zE (zI (zA J J (zG J J J bdO (zD J J (zB (kZ (j+1,t2+1,s3,A9,c9,l++[(x1:Int)]) ⟨by (try dsimp only);omega,by (try dsimp only);omega,hs3,by simp[hll]⟩ tdo (by dsimp only;rw[List.length_append,List.length_singleton];exact sbn) (by dsimp only;rw[List.length_append,List.length_singleton,List.flatMap_append,show [(x1:Int)].flatMap zcell=[.int .i64 (x1:Int)] from rfl];exact pkk))))))))))
  ·obtain rfl:j=fz.length:=om;refine jS (zN (zN (jB (zE (zI (zA J J (zA J J (kC (vs:=[(0,_)]) J J U35 F.ti23 J J J ?_))))))));intro b31;refine kD J J J Tryz.underlying35 F.ti23 J J J (by unfold maxLen;omega) om ?_;intro A8 c8;refine zD J J (zB (zM (zE (zI (zA J J (zG J J J bdO (zD J J (zB (kZ (i+1,t2,s2,A8,c8,(lA,lc,l)::O) ⟨by (try dsimp only);omega,by (try dsimp only);rw[hmul2];omega,hs2,by simp[hOl],fun m hm=>?_⟩ tdo sbn (by dsimp only;rw[List.reverse_cons,List.map_append];exact pkk))))))))))
   rcases List.mem_cons.1 hm with rfl|hm
   ·exact hll
   ·exact hOm m hm
 ·obtain rfl:i=dz.length:=om;have hmul:dz.length*fz.length<=400:=Nat.le_trans (Nat.mul_le_mul hdl hfl) (by decide);exact jS (zN (zN (jB (zE (csr (zA J J (lax J J (zT (zY J (rsO J J) (fun _ _ ha'=>⟨t1,s1,oA,oc,O,by omega,hs1,hOl,hOm,rfl,ha.back ((ha'.pck pkk).permed (List.Perm.cons _ List.perm_middle.symm))⟩))))))))))

theorem F.ent58:Enters Tryz.prog 58:=jD Tryz.func58 rfl kr
theorem zUy {fA dA:Option Addr} {fc dc:Nat} {fz:List FltZ} {kz:Int} {dz:List Int} (hfl:fz.length<1000000) (hdl:dz.length<1000000) (w:World) (hF:RdL FltZ.cells 4 w fA fz) (hD:RdL zcell 1 w dA dz):Calls Tryz.prog 16 #[.agg (CY fA fz.length fc kz dA dz.length dc).toArray] w fun e w'=>AnsPl false fz kz dz w e w':=by
 refine enter (N:=10) [(0,.agg (CY fA fz.length fc kz dA dz.length dc).toArray)] Tryz.func16 J Tryz.ntmps16 J J (csr (jP J J ?_));intro b1;refine zD J J (zD J J (lax J J (csr (jC J J F.agg25 F.ti25 (kF (X:=Option Addr×Nat×List Meta×List Meta×(List (List Nat)×Nat×Nat)) (vs:=[_,_]) (p:=fun y=>RawP (PlanR false) EP fz kz dz y.2.2.2.2∧y.2.2.1.map (·.2.2)=y.2.2.2.2.1∧∀m∈y.2.2.1,m∈y.2.2.2.1) (val:=fun y=>.tuple #[.slice y.1 y.2.2.1.length y.2.1,.int .i64 (y.2.2.2.2.2.1:Int),.int .i64 (y.2.2.2.2.2.2:Int)]) (rs:=fun y=>.row 23 1 y.1 y.2.2.1.length y.2.1 (y.2.2.1.map mcell)::y.2.2.2.1.map mrow) J J F.ent58 (fun a w ha=>(jAs hfl hdl w (hF.later ha.below) (hD.later ha.below)).mono (fun e w' h=>by obtain⟨A',c',R',S',y,h1,h2,h3,h4,h5⟩:=h;exact⟨(A',c',R',S',y),⟨h1,h2,h3⟩,h4,h5⟩)) ?_)))));rintro⟨A,c,R,S,y⟩ ⟨hp,hR,hRS⟩;dsimp only at hp hR hRS ⊢;exact zZ J J J (zZ J J J (zZ J J J (zD J J (zD J J (lax J J (zT (zY J (fun a w ha=>qR J J J J ha) (fun a w ha=>⟨A,c,R,S,y,hp,hR,hRS,rfl,ha.grown (.cons_cons _ (List.sublist_append_left _ _))⟩))))))))

theorem F.ent16:Enters Tryz.prog 16:=jD Tryz.func16 rfl kr
variable {A:Option Addr} {T:List Res} {c:Nat} {ms:List MetaZ} {w0:World}
abbrev PlZ:=Option Addr×Nat×List MetaZ
def plcl (y:PlZ):Value:=.slice y.1 y.2.2.length y.2.1
structure SeenP (w0:World) (T:List Res) (y:PlZ):Prop where
 few:y.2.2.length<=20
 small:∀m∈y.2.2,m.2.2.length<=20
 nil:∀m∈y.2.2,m.1=none->m.2.2=[]∧m.2.1=0
 ptr:0<y.2.2.length->∃g o,y.1=some ⟨g,o,none⟩
 rd:∀{N:Nat} {ds:List Deferred} {fr:LV} {hp:List Res} {a:Act} {w:World},(∀r∈T,r∈hp)->At ⟨Tryz.prog,w0.heap.size,w0,N,ds⟩ fr hp a w->RdZ w y.1 y.2.2
theorem SeenP.old (h:RdZ w0 A ms) (h1:ms.length<=20) (h2:∀m∈ms,m.2.2.length<=20) (h3:∀m∈ms,m.1=none->m.2.2=[]∧m.2.1=0):SeenP w0 T (A,c,ms) :=
 ⟨h1,h2,h3,fun h4=>by obtain⟨b,o,h5,_⟩:=h.outer h4;exact⟨b,o,h5⟩,fun _ ha=>h.later ha.below⟩
section
variable {C:Ctx} {fr:LV} {hp:List Res} {a:Act} {w:World}
theorem zHy (ha:At C fr hp a w) {A:Option Addr} {c n:Nat} {ms:List MetaZ} (h1:Res.row 23 1 A n c (ms.map zmcell)∈hp) (hn:n=ms.length) (h2:∀m∈ms,zmrow m∈hp):RdZ w A ms where
 outer:=by
  have h3:Res.row 23 1 A n c (ms.flatMap fun m=>[zmcell m])∈hp:=by
   rw[show (ms.flatMap fun m=>[zmcell m])=ms.map zmcell from (List.map_eq_flatMap ..).symm];exact h1
  exact kE ha (cells:=fun m=>[zmcell m]) (size:=1) (e:=23) (c:=c) (fun _=>rfl) h3 hn
 inner:=fun m hm=>kE ha (cells:=zcell) (size:=1) (e:=3) (c:=m.2.1) (n:=m.2.2.length) (fun _=>rfl) (h2 m hm) J
end
theorem SeenP.own {n:Nat} (h1:Res.row 23 1 A n c (ms.map zmcell)∈T) (hn:n=ms.length) (h2:∀m∈ms,zmrow m∈T) (h3:ms.length<=20) (h4:∀m∈ms,m.2.2.length<=20) (h5:∀m∈ms,m.1=none->m.2.2=[]∧m.2.1=0) (h6:0<ms.length->∃g,A=some ⟨g,0,none⟩):SeenP w0 T (A,c,ms) :=
 ⟨h3,h4,h5,fun h=>by obtain⟨g,hg⟩:=h6 h;exact⟨g,0,hg⟩,fun hT ha=>zHy ha (hT _ h1) hn fun m hm=>hT _ (h2 m hm)⟩
theorem zIz {C:Ctx} {fr:LV} {hp:List Res} {a:Act} {w:World} (ha:At C fr hp a w) {ms:List MetaZ} (h:∀m∈ms,zmrow m∈hp):∀m∈ms,m.1=none->m.2.2=[]∧m.2.1=0:=fun m hm h0=>by
 have h1:=ha.own _ (h m hm);obtain⟨A,c,l⟩:=m;dsimp only at h0;subst h0
 rcases h1.2 with h2|h2
 ·have h4:=h2.1;injection h4 with _ _ h5;exact⟨List.eq_nil_of_length_eq_zero h2.2,h5⟩
 ·obtain⟨g,o,_,h3,_⟩:=h2
  cases h3
end
section
variable [I:Sys]
variable {a b c d y:PlZ} {k:Nat}
theorem jA4 {l l':List Res} (h:List.Sublist l l'):Pck l l':=by
 induction h with
 | slnil=>exact Pck.nil _
 | cons a _ ih=>exact Pck.skip _ ih
 | cons_cons a _ ih=>exact Pck.cons (Rem.here _) ih
theorem zTe (m:Meta):zmrow (zmeta m)=mrow m:=by
 unfold zmrow zmeta mrow;have h:zl m.2.2=toZs m.2.2:=rfl;dsimp only;rw[h,yS,zUt]
theorem zmrows (S:List Meta):(S.map zmeta).map zmrow=S.map mrow:=by
 rw[List.map_map];exact List.map_congr_left fun m _=>zTe m
theorem zmcells (S:List Meta):(S.map zmeta).map zmcell=S.map mcell:=by
 rw[List.map_map];exact List.map_congr_left fun m _=>zJ6 m
theorem zWx {fA dA:Option Addr} {fc dc:Nat} {fz:List FltZ} {kz:Int} {dz:List Int} (hfl:fz.length<1000000) (hdl:dz.length<1000000) (w:World) (hF:RdL FltZ.cells 4 w fA fz) (hD:RdL zcell 1 w dA dz):Calls Tryz.prog 16 #[cz3 fA dA fc dc fz kz dz] w fun e w'=>∃(A:Option Addr) (c:Nat) (R S:List MetaZ) (n er:Int),R.length<=4∧(∀m∈R,m.2.2.length<=3)∧(∀m∈R,m∈S)∧e=.returned (.tuple #[.slice A R.length c,.int .i64 n,.int .i64 er])∧Grew w w' (.row 23 1 A R.length c (R.map zmcell)::S.map zmrow) :=
 (zUy hfl hdl w hF hD).mono fun e w' ⟨A,c,R,S,y,h1,h2,h3,h4,h5⟩=>by
  obtain⟨h6,h7⟩:=zTj h1;rw[<-h2] at h6 h7;rw[List.length_map] at h6
  refine⟨A,c,R.map zmeta,S.map zmeta,y.2.1,y.2.2,by rw[List.length_map];exact h6,fun m hm=>?_,fun m hm=>?_,by rw[List.length_map];exact h4,by rw[zmrows,zmcells,List.length_map];exact h5⟩
  ·obtain⟨m,hm',rfl⟩:=List.mem_map.1 hm;have:=h7 m.2.2 (List.mem_map_of_mem hm');show (zl m.2.2).length<=3;unfold zl;rw[List.length_map];exact this
  ·obtain⟨m,hm',rfl⟩:=List.mem_map.1 hm;exact List.mem_map_of_mem (h3 m hm')
def ps4 (a b c d:PlZ):List PlZ:=[a,b,c,d]
theorem jEm (h:(ps4 a b c d)[k]?=some y):([plcl a,plcl b,plcl c,plcl d]:List Value)[k]?=some (plcl y):=by
 rw[show ([plcl a,plcl b,plcl c,plcl d]:List Value)=(ps4 a b c d).map plcl from rfl,List.getElem?_map,h]
 rfl
theorem zX1 {w0:World} {T:List Res} (ha:SeenP w0 T a) (hb:SeenP w0 T b) (hc:SeenP w0 T c) (hd:SeenP w0 T d) (h:(ps4 a b c d)[k]?=some y):SeenP w0 T y:=by
 have hm:=List.mem_of_getElem? h;unfold ps4 at hm;simp only[List.mem_cons,List.not_mem_nil,or_false] at hm
 rcases hm with rfl|rfl|rfl|rfl
 ·exact ha
 ·exact hb
 ·exact hc
 ·exact hd
end
section
variable [I:Sys]
theorem F.ent28:Enters Tryz.prog 28:=jD Tryz.func28 rfl kr
theorem F.ent29:Enters Tryz.prog 29:=jD Tryz.func29 rfl kr
theorem F.ent30:Enters Tryz.prog 30:=jD Tryz.func30 rfl kr
theorem F.ent32:Enters Tryz.prog 32:=jD Tryz.func32 rfl kr
theorem F.ent35:Enters Tryz.prog 35:=jD Tryz.func35 rfl kr
theorem F.ent36:Enters Tryz.prog 36:=jD Tryz.func36 rfl kr
theorem zM8 [R:ReaC] {fA dA nA pA:Option Addr} {fc dc0 nc pc:Nat} {fz:List FltZ} {ms:List MetaZ} {kz sg pw gn nw:Int} {wd:Bool} {dz nums:List Int} (f0:fA=none->fz=[]∧fc=0) (d0:dA=none->dz=[]∧dc0=0) (hw:∀y∈fz,y.wf) (hf:FltZ.wf ⟨pw,gn,nw,wd⟩) (hm0:∀m∈ms,m.1=none->m.2.2=[]∧m.2.1=0) (w:World) (hF:RdL FltZ.cells 4 w fA fz) (hD:RdL zcell 1 w dA dz) (hP:RdZ w pA ms) (hN:RdL icell 1 w nA nums) (hR:RdC w):Calls Tryz.prog 6 #[.agg #[.slice fA fz.length fc,.int .i64 kz,.slice dA dz.length dc0],.agg #[.int .i64 pw,.int .i64 gn,.int .i64 nw,.bool wd],.int .i64 sg,.slice pA ms.length pc,.slice nA nums.length nc] w fun e w'=>e=.returned (.bool true)∧Grew w w' []:=by
 refine enter (N:=155) [(0,.agg #[.slice fA fz.length fc,.int .i64 kz,.slice dA dz.length dc0]),(1,.agg #[.int .i64 pw,.int .i64 gn,.int .i64 nw,.bool wd]),(2,.int .i64 sg),(3,.slice pA ms.length pc),(4,.slice nA nums.length nc)] Tryz.func6 J Tryz.ntmps6 J J (csr (jP J J ?_));intro b5;refine jP J J ?_;intro b6
 refine lax J J (zF (zF (qH (G:=Bool) (fun g=>g=false->((decide (20<fz.length)||decide (20<dz.length)||(decide (fz.length=3)&&decide (2<dz.length))))=false∧ms.length<=20∧∀m∈ms,m.2.2.length<=20) (fun g=>[(2,.int .i64 sg),(3,.slice pA ms.length pc),(4,.slice nA nums.length nc),(5,pt b5),(6,pt b6),(31,.bool g)]) (fun _=>[.blk b6 (.cells #[.int .i64 pw,.int .i64 gn,.int .i64 nw,.bool wd] 27 (0,0)),.blk b5 (.cells #[.slice fA fz.length fc,.int .i64 kz,.slice dA dz.length dc0] 25 (0,0))]) ?_ ?_)))
 ·rcases hv:((decide (20<fz.length)||decide (20<dz.length)||(decide (fz.length=3)&&decide (2<dz.length)))) with _|_
  ·refine zI (jC J J F.agg25 F.ti25 (jF (v:=.bool false) (vs:=[_]) J J F.ent10 (fun a w ha=>by rw[<-hv];exact zU9 w) (zA J J (zO J J (zA J J (zO J J (kF (X:=Bool) (vs:=[_]) (p:=fun b=>b=false->ms.length<=20∧∀m∈ms,m.2.2.length<=20) (val:=fun b=>.bool b) (rs:=fun _=>[]) J J F.ent28 (fun a w ha=>(jDr w (hP.later ha.below)).mono (fun e w' h=>by obtain⟨⟨b,h1,h2⟩,h3⟩:=h;exact⟨b,h1,h2,h3⟩)) ?_)))))));intro wb hwb;dsimp only[List.nil_append];exact jT J J J (zB (jM wb (fun h=>⟨rfl,hwb h⟩) sbn pkk))
  ·exact zI (jC J J F.agg25 F.ti25 (jF (v:=.bool true) (vs:=[_]) J J F.ent10 (fun a w ha=>by rw[<-hv];exact zU9 w) (zA J J (zW J J J (zW J J J (jG J J J (zB (jM true (fun h=>by cases h) sbn pkk))))))))
 ·rintro g31 hg31;(try dsimp only)
  refine zE (kS J (fun hc0=>?_) (fun hc0=>?_))
  ·exact csr (jF (v:=.bool true) (vs:=[]) J J F.ent11 (fun a w ha=>zMn w (hR.later ha.below)) (lax J J (zT (zP (zY J (rsO J J) (fun a w ha=>⟨rfl,ha.grown nsl⟩))))))
  ·obtain⟨hvast,hml,hmm⟩:=hg31 hc0;obtain⟨hv1,hv2⟩:=jAd hvast;refine zQ (zE (csr (zA J J (kF (X:=Nat) (vs:=[_]) (p:=fun _=>True) (val:=fun b=>pt b) (rs:=fun b=>[.blk b (hatO nA nums.length nc 0 11400714819323198485)]) J J F.ent13 (fun a w ha=>(zYj nA nums.length nc w).mono (fun e w' h=>by obtain⟨b,h1,h2⟩:=h;exact⟨b,trivial,h1,h2⟩)) ?_))));intro hb _;dsimp only[List.cons_append,List.nil_append];refine lax J J (csr (jC J J F.agg25 F.ti25 (jC J J F.agg27 F.ti27 (zA J J (zA J J (wG (X:=Nat×Nat×Nat×CZ×CZ) (vs:=[_,_,_,_]) hb (fun y=>hatO nA nums.length nc y.1 y.2.1) (fun y=>.row 25 3 (some ⟨y.2.2.1,0,none⟩) 4 4 ([(⟨fA,fc,fz,kz,dA,dc0,dz⟩:CZ),y.2.2.2.1,y.2.2.2.1,y.2.2.2.2].flatMap CZ.cells)::(y.2.2.2.1.rows++y.2.2.2.2.rows)) (fun y=>y.1<=0+110∧y.2.1<18446744073709551616∧y.2.2.2.1.Fine∧y.2.2.2.1.Ok∧y.2.2.2.2.Ok∧y.2.2.2.2.fz.length=y.2.2.2.1.fz.length∧y.2.2.2.2.dz.length=y.2.2.2.1.dz.length) (fun y=>.slice (some ⟨y.2.2.1,0,none⟩) 4 4) J J F.ent12 (fun a w ha=>(zU4 J J hN (tk:=0) om om hf ha).mono (fun e w' h=>by obtain⟨t',s',b',o',q',h1,h2,h3,h4,h5,h6,h7,h8,h9⟩:=h;exact⟨(t',s',b',o',q'),⟨h1,h2,h3,h4,h5,h6,h7⟩,h8,h9⟩)) ?_))))));rintro⟨tk1,st1,bs,own,other⟩ ⟨htk1,hst1,hfine,hok1,hok2,hl2,hd2⟩;dsimp only[CZ.rows,List.cons_append,List.nil_append] at htk1 hst1 hfine hok1 hok2 hl2 hd2 ⊢;refine lax J J (csr (zA J J ?_));have hofl:=hok1.fl;have hodl:=hok1.dl;have hofl2:=hok2.fl;have hodl2:=hok2.dl;refine jV (j:=1) J J J U30 F.ti25 J om ?_
   refine qZ (l:=[.slice own.fA own.fz.length own.fc,.int .i64 own.kz,.slice own.dA own.dz.length own.dc]) J J F.agg25 F.ti25 J (fun a w ha j u hu=>by
    obtain⟨b9,o9,h1,_,h3⟩:=kE ha (cells:=CZ.cells) (size:=3) (e:=25) (c:=4) (n:=4) (l:=([(⟨fA,fc,fz,kz,dA,dc0,dz⟩:CZ),own,own,other]:List CZ)) (fun _=>rfl) (InR.mem (A:=some ⟨bs,0,none⟩)) J (by simp)
    cases h1
    exact h3 1 _ J j u hu) ?_
   refine kF (X:=Option Addr×Nat×List MetaZ×List MetaZ×Int×Int) (vs:=[_]) (p:=fun y=>y.2.2.1.length<=4∧(∀m∈y.2.2.1,m.2.2.length<=3)∧∀m∈y.2.2.1,m∈y.2.2.2.1) (val:=fun y=>.tuple #[.slice y.1 y.2.2.1.length y.2.1,.int .i64 y.2.2.2.2.1,.int .i64 y.2.2.2.2.2]) (rs:=fun y=>.row 23 1 y.1 y.2.2.1.length y.2.1 (y.2.2.1.map zmcell)::y.2.2.2.1.map zmrow) J J F.ent16 (fun a w ha=>(zWx (fz:=own.fz) (dz:=own.dz) om om w (kE ha (cells:=FltZ.cells) (size:=4) (e:=27) (c:=own.fc) (n:=own.fz.length) (l:=own.fz) (fun _=>rfl) (InR.mem (A:=own.fA)) J) (kE ha (cells:=zcell) (size:=1) (e:=3) (c:=own.dc) (n:=own.dz.length) (l:=own.dz) (fun _=>rfl) (InR.mem (A:=own.dA)) J)).mono (fun e w' h=>by obtain⟨A',c',R',S',n',er',h1,h2,h3,h4,h5⟩:=h;exact⟨(A',c',R',S',n',er'),⟨h1,h2,h3⟩,h4,h5⟩)) ?_;rintro⟨A3,c3,R3,S3,n3,er3⟩ ⟨hR3,hR3m,hRS3⟩;dsimp only at hR3 hR3m hRS3 ⊢;refine xT (List.Perm.cons _ List.perm_append_comm) ?_;simp only[List.cons_append,List.nil_append];refine zA J J (zZ J J J (zZ J J J (zZ J J J (zD J J (zD J J (lax J J (zF (jX [.b hb] F.follows 14 J (fl 14) J (zC 0 J J J (zJ J) (zC 1 J J J (zJ J) (zC 2 J J J (zJ J) (zC 3 J J J (jK (j:=1) J J U30 F.ti25 J om) ?_))))))))))))
   refine yT 4 J J J kr kr kr sbl (qC (l:=[.slice own.fA own.fz.length own.fc,.int .i64 own.kz,.slice own.dA own.dz.length own.dc]) J F.agg25 F.ti25 J (fun a w ha j u hu=>by
    obtain⟨b9,o9,h1,_,h3⟩:=kE ha (cells:=CZ.cells) (size:=3) (e:=25) (c:=4) (n:=4) (l:=([(⟨fA,fc,fz,kz,dA,dc0,dz⟩:CZ),own,own,other]:List CZ)) (fun _=>rfl) (InR.mem (A:=some ⟨bs,0,none⟩)) J (by simp)
    cases h1
    exact h3 1 _ J j u hu)) J ?_
   refine zC 6 J J J (zJ J) (zC 7 J J J (zJ J) (zC 8 J J J (zJ J) (zC 9 J J J (jK (j:=3) J J U30 F.ti25 J om) ?_)))
   refine yT 10 J J J kr kr kr sbl (qC (l:=[.slice other.fA other.fz.length other.fc,.int .i64 other.kz,.slice other.dA other.dz.length other.dc]) J F.agg25 F.ti25 J (fun a w ha j u hu=>by
    obtain⟨b9,o9,h1,_,h3⟩:=kE ha (cells:=CZ.cells) (size:=3) (e:=25) (c:=4) (n:=4) (l:=([(⟨fA,fc,fz,kz,dA,dc0,dz⟩:CZ),own,own,other]:List CZ)) (fun _=>rfl) (InR.mem (A:=some ⟨bs,0,none⟩)) J (by simp)
    cases h1
    exact h3 3 _ J j u hu)) J ?_
   refine an1 5 J ?_
   refine wG (X:=Nat×Nat×Option Addr×Nat×List MetaZ) (vs:=[_,_]) hb (fun y=>hatO nA nums.length nc y.1 y.2.1) (fun y=>.row 23 1 y.2.2.1 y.2.2.2.2.length y.2.2.2.1 (y.2.2.2.2.map zmcell)::y.2.2.2.2.map zmrow) (fun y=>y.1<=tk1+400∧y.2.1<18446744073709551616∧y.2.2.2.2.length=own.dz.length∧∀m∈y.2.2.2.2,m.2.2.length=own.fz.length) (fun y=>.slice y.2.2.1 y.2.2.2.2.length y.2.2.2.1) J J F.ent29 (fun a w ha=>(zOs J J hN (tk:=tk1) om hst1 om om ha).mono (fun e w' h=>by
    obtain⟨t',s',A',c',O',h1,h2,h3,h4,h5,h6⟩:=h;refine⟨(t',s',A',c',O'.reverse),⟨h1,h2,by rw[List.length_reverse];exact h3,fun m hm=>h4 m (List.mem_reverse.1 hm)⟩,by rw[h5,List.length_reverse],?_⟩;rw[List.length_reverse]
    exact h6.permed (List.Perm.cons _ (List.Perm.append_right _ ((List.reverse_perm O').symm.map zmrow))))) ?_
   rintro⟨tk5,st5,A5,c5,Q5⟩ ⟨htk5,hst5,hQ5,hQm5⟩;dsimp only at htk5 hst5 hQ5 hQm5 ⊢;refine xT (List.Perm.cons _ List.perm_append_comm) ?_;simp only[List.cons_append];refine zB (anb (an1 11 J ?_))
   refine wG (X:=Nat×Nat×Option Addr×Nat×List MetaZ) (vs:=[_,_]) hb (fun y=>hatO nA nums.length nc y.1 y.2.1) (fun y=>.row 23 1 y.2.2.1 y.2.2.2.2.length y.2.2.2.1 (y.2.2.2.2.map zmcell)::y.2.2.2.2.map zmrow) (fun y=>y.1<=tk5+400∧y.2.1<18446744073709551616∧y.2.2.2.2.length=other.dz.length∧∀m∈y.2.2.2.2,m.2.2.length=other.fz.length) (fun y=>.slice y.2.2.1 y.2.2.2.2.length y.2.2.2.1) J J F.ent29 (fun a w ha=>(zOs J J hN (tk:=tk5) om hst5 om om ha).mono (fun e w' h=>by
    obtain⟨t',s',A',c',O',h1,h2,h3,h4,h5,h6⟩:=h;refine⟨(t',s',A',c',O'.reverse),⟨h1,h2,by rw[List.length_reverse];exact h3,fun m hm=>h4 m (List.mem_reverse.1 hm)⟩,by rw[h5,List.length_reverse],?_⟩;rw[List.length_reverse]
    exact h6.permed (List.Perm.cons _ (List.Perm.append_right _ ((List.reverse_perm O').symm.map zmrow))))) ?_
   rintro⟨tk6,st6,A6,c6,Q6⟩ ⟨htk6,hst6,hQ6,hQm6⟩;dsimp only at htk6 hst6 hQ6 hQm6 ⊢;refine xT (List.Perm.cons _ List.perm_append_comm) ?_;simp only[List.cons_append,List.append_assoc];refine zB (anb (an1 12 J (kC (vs:=[(0,_),(1,_),(2,_),(3,_)]) J J U54 F.ti35 J J J ?_)));intro b60;refine wQ (n:=4) 1 J (by unfold maxLen;omega) (.head _) (zB (anb (zC 13 J J J (jY J) (adn (zE (zF (csr (yB (fun a w ha=>zIz ha (ms:=S3) (fun m hm=>(show List.Sublist (S3.map zmrow) _ from by (repeat refine List.Sublist.cons _ ?_);exact List.sublist_append_left _ _).subset (List.mem_map_of_mem hm))) ?_))))))));intro hn3;refine yB (fun a w ha=>zIz ha (ms:=Q5) (fun m hm=>(show List.Sublist (Q5.map zmrow) _ from by (repeat refine List.Sublist.cons _ ?_);exact (List.sublist_append_left _ _).trans (List.sublist_append_right _ _)).subset (List.mem_map_of_mem hm))) ?_;intro hn5;refine yB (fun a w ha=>zIz ha (ms:=Q6) (fun m hm=>(show List.Sublist (Q6.map zmrow) _ from by (repeat refine List.Sublist.cons _ ?_);exact (List.sublist_append_right _ _).trans (List.sublist_append_right _ _)).subset (List.mem_map_of_mem hm))) ?_;intro hn6;refine yB (fun a w ha=>(fun h=>yR (ha.own _ (InR.mem (A:=A3) (e:=23) (size:=1) (n:=R3.length) (c:=c3) (xs:=R3.map zmcell))) h:0<R3.length->∃g,A3=some ⟨g,0,none⟩)) ?_;intro hp3;refine yB (fun a w ha=>(fun h=>yR (ha.own _ (InR.mem (A:=A5) (e:=23) (size:=1) (n:=Q5.length) (c:=c5) (xs:=Q5.map zmcell))) h:0<Q5.length->∃g,A5=some ⟨g,0,none⟩)) ?_;intro hp5;refine yB (fun a w ha=>(fun h=>yR (ha.own _ (InR.mem (A:=A6) (e:=23) (size:=1) (n:=Q6.length) (c:=c6) (xs:=Q6.map zmcell))) h:0<Q6.length->∃g,A6=some ⟨g,0,none⟩)) ?_;intro hp6;refine lax J J (zR (qU (G:=Nat) (fun k=>k<=4) (fun k=>4-k) (fun k=>[(12,.slice (some ⟨bs,0,none⟩) 4 4),(16,.slice (some ⟨b60,0,none⟩) 4 4),(17,.int .i64 (k:Int))]) (fun _=>.row 35 1 (some ⟨b60,0,none⟩) 4 4 ([.slice pA ms.length pc,.slice A5 Q5.length c5,.slice A3 R3.length c3,.slice A6 Q6.length c6]:List Value)::.row 25 3 (some ⟨bs,0,none⟩) 4 4 (([(⟨fA,fc,fz,kz,dA,dc0,dz⟩:CZ),own,own,other]:List CZ).flatMap CZ.cells)::.row 27 4 own.fA own.fz.length own.fc (own.fz.flatMap FltZ.cells)::.row 3 1 own.dA own.dz.length own.dc (own.dz.flatMap zcell)::.row 27 4 other.fA other.fz.length other.fc (other.fz.flatMap FltZ.cells)::.row 3 1 other.dA other.dz.length other.dc (other.dz.flatMap zcell)::.row 23 1 A5 Q5.length c5 (Q5.map zmcell)::.row 23 1 A3 R3.length c3 (R3.map zmcell)::.row 23 1 A6 Q6.length c6 (Q6.map zmcell)::(S3.map zmrow++(Q5.map zmrow++Q6.map zmrow))) 0 (Nat.zero_le _) sbn pkk ?_));intro k hk0;(try dsimp only at hk0 ⊢);refine zF (csr (zA J J (zA J J (jJ J J U30 (zG J J J jW ?_)))))
   refine lnx (zL J (fun hc1=>?_) (fun hc1=>?_))
   ·have hk4:k<4:=om;obtain⟨x,hx⟩:∃x,([(⟨fA,fc,fz,kz,dA,dc0,dz⟩:CZ),own,own,other]:List CZ)[k]?=some x:=⟨_,List.getElem?_eq_getElem hk4⟩;have hxok:x.Ok:=zRr ⟨hw,f0,d0,hv1,hv2⟩ hok1 hok2 hx;have hxr:Seen w (.row 35 1 (some ⟨b60,0,none⟩) 4 4 ([.slice pA ms.length pc,.slice A5 Q5.length c5,.slice A3 R3.length c3,.slice A6 Q6.length c6]:List Value)::.row 25 3 (some ⟨bs,0,none⟩) 4 4 (([(⟨fA,fc,fz,kz,dA,dc0,dz⟩:CZ),own,own,other]:List CZ).flatMap CZ.cells)::.row 27 4 own.fA own.fz.length own.fc (own.fz.flatMap FltZ.cells)::.row 3 1 own.dA own.dz.length own.dc (own.dz.flatMap zcell)::.row 27 4 other.fA other.fz.length other.fc (other.fz.flatMap FltZ.cells)::.row 3 1 other.dA other.dz.length other.dc (other.dz.flatMap zcell)::.row 23 1 A5 Q5.length c5 (Q5.map zmcell)::.row 23 1 A3 R3.length c3 (R3.map zmcell)::.row 23 1 A6 Q6.length c6 (Q6.map zmcell)::(S3.map zmrow++(Q5.map zmrow++Q6.map zmrow))) x:=zRr (P:=Seen w _) (Seen.old ⟨hF,hD⟩) (Seen.own (by intro r hr;simp only[CZ.rows,List.mem_cons,List.not_mem_nil,or_false] at hr;rcases hr with rfl|rfl<;>repeat (first|exact List.mem_cons_self .. | apply List.mem_cons_of_mem))) (Seen.own (by intro r hr;simp only[CZ.rows,List.mem_cons,List.not_mem_nil,or_false] at hr;rcases hr with rfl|rfl<;>repeat (first|exact List.mem_cons_self .. | apply List.mem_cons_of_mem))) hx;obtain⟨y,hy⟩:∃y,(ps4 (pA,pc,ms) (A5,c5,Q5) (A3,c3,R3) (A6,c6,Q6))[k]?=some y:=⟨_,List.getElem?_eq_getElem hk4⟩;have hyr:SeenP w (.row 35 1 (some ⟨b60,0,none⟩) 4 4 ([.slice pA ms.length pc,.slice A5 Q5.length c5,.slice A3 R3.length c3,.slice A6 Q6.length c6]:List Value)::.row 25 3 (some ⟨bs,0,none⟩) 4 4 (([(⟨fA,fc,fz,kz,dA,dc0,dz⟩:CZ),own,own,other]:List CZ).flatMap CZ.cells)::.row 27 4 own.fA own.fz.length own.fc (own.fz.flatMap FltZ.cells)::.row 3 1 own.dA own.dz.length own.dc (own.dz.flatMap zcell)::.row 27 4 other.fA other.fz.length other.fc (other.fz.flatMap FltZ.cells)::.row 3 1 other.dA other.dz.length other.dc (other.dz.flatMap zcell)::.row 23 1 A5 Q5.length c5 (Q5.map zmcell)::.row 23 1 A3 R3.length c3 (R3.map zmcell)::.row 23 1 A6 Q6.length c6 (Q6.map zmcell)::(S3.map zmrow++(Q5.map zmrow++Q6.map zmrow))) y:=zX1 (SeenP.old hP hml hmm hm0) (SeenP.own (by repeat (first|exact List.mem_cons_self .. | apply List.mem_cons_of_mem)) J (fun m hm=>(show List.Sublist (Q5.map zmrow) _ from by (repeat refine List.Sublist.cons _ ?_);exact (List.sublist_append_left _ _).trans (List.sublist_append_right _ _)).subset (List.mem_map_of_mem hm)) om (fun m hm=>by have:=hQm5 m hm;omega) hn5 hp5) (SeenP.own (by repeat (first|exact List.mem_cons_self .. | apply List.mem_cons_of_mem)) J (fun m hm=>(show List.Sublist (S3.map zmrow) _ from by (repeat refine List.Sublist.cons _ ?_);exact List.sublist_append_left _ _).subset (List.mem_map_of_mem (hRS3 m hm))) om (fun m hm=>by have:=hR3m m hm;omega) (fun m hm=>hn3 m (hRS3 m hm)) hp3) (SeenP.own (by repeat (first|exact List.mem_cons_self .. | apply List.mem_cons_of_mem)) J (fun m hm=>(show List.Sublist (Q6.map zmrow) _ from by (repeat refine List.Sublist.cons _ ?_);exact (List.sublist_append_right _ _).trans (List.sublist_append_right _ _)).subset (List.mem_map_of_mem hm)) om (fun m hm=>by have:=hQm6 m hm;omega) hn6 hp6) hy;have hyt:=jEm hy;obtain⟨xA,xc,xf,xk,xD,xd,xz⟩:=x;obtain⟨xw,xf0,xd0,xfl,xdl⟩:=hxok;obtain⟨yA,yc,ym⟩:=y;obtain⟨yl,ymm,yn,yp,yr⟩:=hyr;dsimp only[plcl] at xw xf0 xd0 xfl xdl yl ymm yn yp yr hyt
    refine zQ (zE (zF (zR (zF (qH (G:=Nat×Option Addr×Nat×Option Addr×Nat×Option Addr×Nat×List MetaZ) (fun g=>g.2.2.2.2.2.2.2.map (·.2.2)=ym.map (·.2.2)) (fun g=>[(12,.slice (some ⟨bs,0,none⟩) 4 4),(16,.slice (some ⟨b60,0,none⟩) 4 4),(17,.int .i64 (k:Int)),(18,.pointer (some ⟨g.1,0,none⟩)),(19,.slice g.2.2.2.2.2.1 g.2.2.2.2.2.2.2.length g.2.2.2.2.2.2.1)]) (fun g=>.blk g.1 (.cells #[.slice g.2.1 xf.length g.2.2.1,.int .i64 xk,.slice g.2.2.2.1 xz.length g.2.2.2.2.1] 25 (0,0))::.row 27 4 g.2.1 xf.length g.2.2.1 (xf.flatMap FltZ.cells)::.row 3 1 g.2.2.2.1 xz.length g.2.2.2.2.1 (xz.flatMap zcell)::.row 23 1 g.2.2.2.2.2.1 g.2.2.2.2.2.2.2.length g.2.2.2.2.2.2.1 (g.2.2.2.2.2.2.2.map zmcell)::.row 35 1 (some ⟨b60,0,none⟩) 4 4 ([.slice pA ms.length pc,.slice A5 Q5.length c5,.slice A3 R3.length c3,.slice A6 Q6.length c6]:List Value)::.row 25 3 (some ⟨bs,0,none⟩) 4 4 (([(⟨fA,fc,fz,kz,dA,dc0,dz⟩:CZ),own,own,other]:List CZ).flatMap CZ.cells)::.row 27 4 own.fA own.fz.length own.fc (own.fz.flatMap FltZ.cells)::.row 3 1 own.dA own.dz.length own.dc (own.dz.flatMap zcell)::.row 27 4 other.fA other.fz.length other.fc (other.fz.flatMap FltZ.cells)::.row 3 1 other.dA other.dz.length other.dc (other.dz.flatMap zcell)::.row 23 1 A5 Q5.length c5 (Q5.map zmcell)::.row 23 1 A3 R3.length c3 (R3.map zmcell)::.row 23 1 A6 Q6.length c6 (Q6.map zmcell)::(S3.map zmrow++(Q5.map zmrow++(Q6.map zmrow++g.2.2.2.2.2.2.2.reverse.map zmrow)))) ?_ ?_)))))
    ·refine jX [] F.follows 13 J (fl 13) J (zC 0 J J J (zJ J) (zC 1 J J J (zJ J) (zC 2 J J J (jK (j:=k) J J U30 F.ti25 J hk4) ?_)))
     refine yT 3 J J J kr kr kr sbl (qC (l:=[.slice xA xf.length xc,.int .i64 xk,.slice xD xz.length xd]) J F.agg25 F.ti25 J (fun a w ha j u hu=>by
      obtain⟨b9,o9,h1,_,h3⟩:=kE ha (cells:=CZ.cells) (size:=3) (e:=25) (c:=4) (n:=4) (l:=([(⟨fA,fc,fz,kz,dA,dc0,dz⟩:CZ),own,own,other]:List CZ)) (fun _=>rfl) (InR.mem (A:=some ⟨bs,0,none⟩)) J (by simp)
      cases h1
      exact h3 k _ hx j u hu)) J ?_
     refine zC 5 J J J (zJ J) (zC 6 J J J (zJ J) (zC 7 J J J (jK (j:=k) J J Tryz.underlying54 F.ti35 J hk4) (zC 8 J J J (jL (v:=.slice yA ym.length yc) J F.one35 (fun a w ha=>kV ha (InR.mem (A:=some ⟨b60,0,none⟩)) J (by rw[show 0+k*1=k from by omega];exact hyt))) ?_)))
     refine qE 4 10 kr J J J J ?_ ?_
     ·refine kF (X:=Option Addr×Nat×Option Addr×Nat) (vs:=[_]) (p:=fun _=>True) (val:=fun g=>.agg #[.slice g.1 xf.length g.2.1,.int .i64 xk,.slice g.2.2.1 xz.length g.2.2.2]) (rs:=fun g=>[.row 27 4 g.1 xf.length g.2.1 (xf.flatMap FltZ.cells),.row 3 1 g.2.2.1 xz.length g.2.2.2 (xz.flatMap zcell)]) J J F.ent14 (fun a w ha=>(zWi (fz:=xf) (dz:=xz) xf0 xd0 om om w (hxr (fun r hr=>by repeat (first|exact hr|apply List.mem_cons_of_mem)) ha).f (hxr (fun r hr=>by repeat (first|exact hr|apply List.mem_cons_of_mem)) ha).d).mono (fun e w' h=>by obtain⟨A',c',D',dc',h1,h2⟩:=h;exact⟨(A',c',D',dc'),trivial,h1,h2⟩)) ?_;rintro⟨A1,c1,D1,dc1⟩ -;dsimp only[List.cons_append,List.nil_append]
      refine zB (anb (qE 9 10 kr J J J J ?_ ?_))
      ·refine kF (X:=Option Addr×Nat×List MetaZ) (vs:=[_]) (p:=fun y=>y.2.2.map (·.2.2)=ym.map (·.2.2)) (val:=fun y=>.slice y.1 y.2.2.length y.2.1) (rs:=fun y=>.row 23 1 y.1 y.2.2.length y.2.1 (y.2.2.map zmcell)::y.2.2.reverse.map zmrow) J J F.ent30 (fun a w ha=>(zFu om (fun m hm=>by have:=ymm m hm;omega) yn w (yr (fun r hr=>by repeat (first|exact hr|apply List.mem_cons_of_mem)) ha)).mono (fun e w' h=>by obtain⟨A',c',O',h1,h2,h3⟩:=h;exact⟨(A',c',O'.reverse),h1,by rw[h2,List.length_reverse],by rw[List.length_reverse,List.reverse_reverse];exact h3⟩)) ?_;rintro⟨A7,c7,Q7⟩ hQ7;dsimp only at hQ7 ⊢;refine xT (List.Perm.cons _ List.perm_append_comm) ?_;simp only[List.cons_append,List.append_assoc];refine zB (anb (an1 10 J (zX J F.ti25 ?_)));intro b18;exact zB (anb (an1 11 J (zH J J F.ti25 J (zB (anb (zC 12 J J J (jY J) (adn (jM (b18,A1,c1,D1,dc1,A7,c7,Q7) hQ7 sbn pkk))))))))
      ·refine zX J F.ti25 ?_;intro b18;refine zB (anb (an1 9 J (kF (X:=Option Addr×Nat×List MetaZ) (vs:=[_]) (p:=fun y=>y.2.2.map (·.2.2)=ym.map (·.2.2)) (val:=fun y=>.slice y.1 y.2.2.length y.2.1) (rs:=fun y=>.row 23 1 y.1 y.2.2.length y.2.1 (y.2.2.map zmcell)::y.2.2.reverse.map zmrow) J J F.ent30 (fun a w ha=>(zFu om (fun m hm=>by have:=ymm m hm;omega) yn w (yr (fun r hr=>by repeat (first|exact hr|apply List.mem_cons_of_mem)) ha)).mono (fun e w' h=>by obtain⟨A',c',O',h1,h2,h3⟩:=h;exact⟨(A',c',O'.reverse),h1,by rw[h2,List.length_reverse],by rw[List.length_reverse,List.reverse_reverse];exact h3⟩)) ?_)));rintro⟨A7,c7,Q7⟩ hQ7;dsimp only at hQ7 ⊢;refine xT (List.Perm.cons _ List.perm_append_comm) ?_;simp only[List.cons_append,List.append_assoc];exact zB (anb (an1 11 J (zH J J F.ti25 J (zB (anb (zC 12 J J J (jY J) (adn (jM (b18,A1,c1,D1,dc1,A7,c7,Q7) hQ7 sbn pkk))))))))
     ·refine zX J F.ti25 ?_;intro b18;refine zB (anb (an1 4 J (kF (X:=Option Addr×Nat×Option Addr×Nat) (vs:=[_]) (p:=fun _=>True) (val:=fun g=>.agg #[.slice g.1 xf.length g.2.1,.int .i64 xk,.slice g.2.2.1 xz.length g.2.2.2]) (rs:=fun g=>[.row 27 4 g.1 xf.length g.2.1 (xf.flatMap FltZ.cells),.row 3 1 g.2.2.1 xz.length g.2.2.2 (xz.flatMap zcell)]) J J F.ent14 (fun a w ha=>(zWi (fz:=xf) (dz:=xz) xf0 xd0 om om w (hxr (fun r hr=>by repeat (first|exact hr|apply List.mem_cons_of_mem)) ha).f (hxr (fun r hr=>by repeat (first|exact hr|apply List.mem_cons_of_mem)) ha).d).mono (fun e w' h=>by obtain⟨A',c',D',dc',h1,h2⟩:=h;exact⟨(A',c',D',dc'),trivial,h1,h2⟩)) ?_)));rintro⟨A1,c1,D1,dc1⟩ -;dsimp only[List.cons_append,List.nil_append];refine zB (anb (an1 9 J (kF (X:=Option Addr×Nat×List MetaZ) (vs:=[_]) (p:=fun y=>y.2.2.map (·.2.2)=ym.map (·.2.2)) (val:=fun y=>.slice y.1 y.2.2.length y.2.1) (rs:=fun y=>.row 23 1 y.1 y.2.2.length y.2.1 (y.2.2.map zmcell)::y.2.2.reverse.map zmrow) J J F.ent30 (fun a w ha=>(zFu om (fun m hm=>by have:=ymm m hm;omega) yn w (yr (fun r hr=>by repeat (first|exact hr|apply List.mem_cons_of_mem)) ha)).mono (fun e w' h=>by obtain⟨A',c',O',h1,h2,h3⟩:=h;exact⟨(A',c',O'.reverse),h1,by rw[h2,List.length_reverse],by rw[List.length_reverse,List.reverse_reverse];exact h3⟩)) ?_)));rintro⟨A7,c7,Q7⟩ hQ7;dsimp only at hQ7 ⊢;refine xT (List.Perm.cons _ List.perm_append_comm) ?_;simp only[List.cons_append,List.append_assoc];exact zB (anb (an1 11 J (zH J J F.ti25 J (zB (anb (zC 12 J J J (jY J) (adn (jM (b18,A1,c1,D1,dc1,A7,c7,Q7) hQ7 sbn pkk))))))))
    ·rintro⟨b18,A1,c1,D1,dc1,A7,c7,Q7⟩ hQ7;(try dsimp only at hQ7 ⊢);refine zE (zF (zI ?_))
     have hl7:Q7.length=ym.length:=by
      have h:=congrArg List.length hQ7
      rwa[List.length_map,List.length_map] at h
     have hm7:∀m∈Q7,m.2.2.length<=20:=fun m hm=>by
      have h:m.2.2∈ym.map (·.2.2):=hQ7▸List.mem_map_of_mem hm;obtain⟨z,hz,e⟩:=List.mem_map.1 h;rw[<-e];exact ymm z hz
     refine jC J J F.agg25 F.ti25 (zA J J (kF (X:=Option Addr×Nat×List Meta×List Meta×(List (List Nat)×Nat×Nat)) (vs:=[_,_]) (p:=fun y=>RawP (CourR (ym.map (·.2.2))) EP xf xk xz y.2.2.2.2∧y.2.2.1.map (·.2.2)=y.2.2.2.2.1∧∀m∈y.2.2.1,m∈y.2.2.2.1) (val:=fun y=>.tuple #[.slice y.1 y.2.2.1.length y.2.1,.int .i64 (y.2.2.2.2.2.1:Int),.int .i64 (y.2.2.2.2.2.2:Int)]) (rs:=fun y=>.row 23 1 y.1 y.2.2.1.length y.2.1 (y.2.2.1.map mcell)::y.2.2.2.1.map mrow) J J F.ent31 (fun a w ha=>(hQ7▸zZe (fz:=xf) (dz:=xz) (ms:=Q7) om om om (fun m hm=>by have:=hm7 m hm;omega) w (kE ha (cells:=FltZ.cells) (size:=4) (e:=27) (c:=c1) (n:=xf.length) (l:=xf) (fun _=>rfl) (InR.mem (A:=A1)) J) (kE ha (cells:=zcell) (size:=1) (e:=3) (c:=dc1) (n:=xz.length) (l:=xz) (fun _=>rfl) (InR.mem (A:=D1)) J) (zHy ha (A:=A7) (c:=c7) (ms:=Q7) (by repeat (first|exact List.mem_cons_self .. | apply List.mem_cons_of_mem)) J (fun m hm=>(show List.Sublist (Q7.reverse.map zmrow) _ from by (repeat refine List.Sublist.cons _ ?_);exact (List.sublist_append_right _ _).trans ((List.sublist_append_right _ _).trans (List.sublist_append_right _ _))).subset (List.mem_map_of_mem (List.mem_reverse.2 hm))))).mono (fun e w' h=>by obtain⟨A',c',R',S',y,h1,h2,h3,h4,h5⟩:=h;exact⟨(A',c',R',S',y),⟨h1,h2,h3⟩,h4,h5⟩)) ?_));rintro⟨A8,c8,R8,S8,y8⟩ ⟨hp8,hR8,hRS8⟩;dsimp only at hp8 hR8 hRS8 ⊢;refine xT (List.Perm.cons _ List.perm_append_comm) ?_;simp only[List.cons_append,List.append_assoc];refine zA J J (zZ J J J (zZ J J J (zZ J J J (zD J J (zD J J (lax J J (zF (jX [] F.follows 16 J (fl 16) J (zC 0 J J J (zJ J) (zC 1 J J J (zJ J) (zC 2 J J J (jK (j:=k) J J U30 F.ti25 J hk4) ?_)))))))))))
     refine yT 3 J J J kr kr kr sbl (qC (l:=[.slice xA xf.length xc,.int .i64 xk,.slice xD xz.length xd]) J F.agg25 F.ti25 J (fun a w ha j u hu=>by
      obtain⟨b9,o9,h1,_,h3⟩:=kE ha (cells:=CZ.cells) (size:=3) (e:=25) (c:=4) (n:=4) (l:=([(⟨fA,fc,fz,kz,dA,dc0,dz⟩:CZ),own,own,other]:List CZ)) (fun _=>rfl) (InR.mem (A:=some ⟨bs,0,none⟩)) J (by simp)
      cases h1
      exact h3 k _ hx j u hu)) J ?_
     refine zC 4 J J J (zJ J) (zC 5 J J J (zJ J) (zC 6 J J J (jK (j:=k) J J Tryz.underlying54 F.ti35 J hk4) (zC 7 J J J (jL (v:=.slice yA ym.length yc) J F.one35 (fun a w ha=>kV ha (InR.mem (A:=some ⟨b60,0,none⟩)) J (by rw[show 0+k*1=k from by omega];exact hyt))) (an1 8 J (kF (X:=Option Addr×Nat×List Meta×List Meta×(List (List Nat)×Nat×Nat)) (vs:=[_,_]) (p:=fun y=>RawP (CourR (ym.map (·.2.2))) EP xf xk xz y.2.2.2.2∧y.2.2.1.map (·.2.2)=y.2.2.2.2.1∧∀m∈y.2.2.1,m∈y.2.2.2.1) (val:=fun y=>.tuple #[.slice y.1 y.2.2.1.length y.2.1,.int .i64 (y.2.2.2.2.2.1:Int),.int .i64 (y.2.2.2.2.2.2:Int)]) (rs:=fun y=>.row 23 1 y.1 y.2.2.1.length y.2.1 (y.2.2.1.map mcell)::y.2.2.2.1.map mrow) J J F.ent32 (fun a w ha=>(zVw (fz:=xf) (dz:=xz) (ms:=ym) om om om (fun m hm=>by have:=ymm m hm;omega) w (hxr (fun r hr=>(List.Sublist.subset sbl hr)) ha).f (hxr (fun r hr=>(List.Sublist.subset sbl hr)) ha).d (yr (fun r hr=>(List.Sublist.subset sbl hr)) ha)).mono (fun e w' h=>by obtain⟨A',c',R',S',y,h1,h2,h3,h4,h5⟩:=h;exact⟨(A',c',R',S',y),⟨h1,h2,h3⟩,h4,h5⟩)) ?_)))));rintro⟨A9,c9,R9,S9,y9⟩ ⟨hp9,hR9,hRS9⟩;dsimp only at hp9 hR9 hRS9 ⊢;refine xT (List.Perm.cons _ List.perm_append_comm) ?_;simp only[List.cons_append,List.append_assoc];obtain rfl:=CourR.uniq hp8 hp9;obtain⟨hs1,hs2⟩:=zTb hp8;rw[List.length_map] at hs1;have hl8:R8.length<=21:=by rw[<-hR8,List.length_map] at hs1;omega
     have hl9:R9.length<=21:=by rw[<-hR9,List.length_map] at hs1;omega
     refine zB (anb (zC 9 J J J (zJ J) (zC 10 J J J (jQ J J) (zC 11 J J J (jQ J J) (zC 12 J J J (jQ J J) (zC 13 J J J (jY J) (zC 14 J J J (jY J) (zC 15 J J J (jY J) (adn (zE (zF (jX [] F.follows 57 J (fl 57) J (zC 0 J J J (kU J F.agg25 F.ti25) (zC 2 J J J (zJ J) (zC 3 J J J (zJ J) (zC 4 J J J (jK (j:=k) J J U30 F.ti25 J hk4) ?_))))))))))))))))
     refine yT 5 J J J kr kr kr sbl (qC (l:=[.slice xA xf.length xc,.int .i64 xk,.slice xD xz.length xd]) J F.agg25 F.ti25 J (fun a w ha j u hu=>by
      obtain⟨b9,o9,h1,_,h3⟩:=kE ha (cells:=CZ.cells) (size:=3) (e:=25) (c:=4) (n:=4) (l:=([(⟨fA,fc,fz,kz,dA,dc0,dz⟩:CZ),own,own,other]:List CZ)) (fun _=>rfl) (InR.mem (A:=some ⟨bs,0,none⟩)) J (by simp)
      cases h1
      exact h3 k _ hx j u hu)) J ?_
     refine an1 1 J (jF (v:=.int .i64 ((chk xf xk xz:Nat):Int)) (vs:=[_]) J J F.ent33 (fun a w ha=>wS om om w (kE ha (cells:=FltZ.cells) (size:=4) (e:=27) (c:=c1) (n:=xf.length) (l:=xf) (fun _=>rfl) (InR.mem (A:=A1)) J) (kE ha (cells:=zcell) (size:=1) (e:=3) (c:=dc1) (n:=xz.length) (l:=xz) (fun _=>rfl) (InR.mem (A:=D1)) J)) (zB (anb (an1 6 J (jF (v:=.int .i64 ((chk xf xk xz:Nat):Int)) (vs:=[_]) J J F.ent34 (fun a w ha=>zDr om om w (hxr (fun r hr=>(List.Sublist.subset sbl hr)) ha).f (hxr (fun r hr=>(List.Sublist.subset sbl hr)) ha).d) (zB (anb (zC 7 J J J (qO (v:=.bool false) J J (fun w=>by rw[kW,decide_eq_false (fun h=>h J)])) (zC 8 J J J (zJ J) (jH 9 J J J J J kr kr kr sbl (kU J F.agg25 F.ti25) J (jH 10 J J J J J kr kr kr sbl (zJ J) J (jH 12 J J J J J kr kr kr sbl (zJ J) J (jH 13 J J J J J kr kr kr sbl (zJ J) J (jH 14 J J J J J kr kr kr sbl (jK (j:=k) J J Tryz.underlying30 F.ti25 J hk4) J ?_))))))))))))))
     refine jH 15 J J J J J kr kr kr sbl (qC (l:=[.slice xA xf.length xc,.int .i64 xk,.slice xD xz.length xd]) J F.agg25 F.ti25 J (fun a w ha j u hu=>by
      obtain⟨b9,o9,h1,_,h3⟩:=kE ha (cells:=CZ.cells) (size:=3) (e:=25) (c:=4) (n:=4) (l:=([(⟨fA,fc,fz,kz,dA,dc0,dz⟩:CZ),own,own,other]:List CZ)) (fun _=>rfl) (InR.mem (A:=some ⟨bs,0,none⟩)) J (by simp)
      cases h1
      exact h3 k _ hx j u hu)) J ?_
     refine jH 16 J J J J J kr kr kr sbl (zJ J) J (jH 17 J J J J J kr kr kr sbl (zJ J) J (jH 18 J J J J J kr kr kr sbl (jK (j:=k) J J Tryz.underlying54 F.ti35 J hk4) J (jH 19 J J J J J kr kr kr sbl (jL (v:=.slice yA ym.length yc) J F.one35 (fun a w ha=>kV ha (InR.mem (A:=some ⟨b60,0,none⟩)) J (by rw[show 0+k*1=k from by omega];exact hyt))) J (an1 11 J (zO J J (kF (X:=Nat) (vs:=[_,_]) (p:=fun y=>RawP (ChkR (ym.map (·.2.2))) EC xf xk xz y) (val:=fun y=>.int .i64 (y:Int)) (rs:=fun _=>[]) J J F.ent35 (fun a w ha=>(hQ7▸zQ5 (fz:=xf) (dz:=xz) (ms:=Q7) om om om (fun m hm=>by have:=hm7 m hm;omega) w (kE ha (cells:=FltZ.cells) (size:=4) (e:=27) (c:=c1) (n:=xf.length) (l:=xf) (fun _=>rfl) (InR.mem (A:=A1)) J) (kE ha (cells:=zcell) (size:=1) (e:=3) (c:=dc1) (n:=xz.length) (l:=xz) (fun _=>rfl) (InR.mem (A:=D1)) J) (zHy ha (A:=A7) (c:=c7) (ms:=Q7) (by repeat (first|exact List.mem_cons_self .. | apply List.mem_cons_of_mem)) J (fun m hm=>(show List.Sublist (Q7.reverse.map zmrow) _ from by (repeat refine List.Sublist.cons _ ?_);exact (((List.sublist_append_left _ _).trans (List.sublist_append_right _ _)).trans (List.sublist_append_right _ _)).trans (List.sublist_append_right _ _)).subset (List.mem_map_of_mem (List.mem_reverse.2 hm))))).mono (fun e w' h=>by obtain⟨y,h1,h2,h3⟩:=h;exact⟨y,h1,h2,h3⟩)) ?_))))));intro k1 hk1;dsimp only[List.nil_append] at hk1 ⊢;refine zB (anb (an1 20 J (zO J J (kF (X:=Nat) (vs:=[_,_]) (p:=fun y=>RawP (ChkR (ym.map (·.2.2))) EC xf xk xz y) (val:=fun y=>.int .i64 (y:Int)) (rs:=fun _=>[]) J J F.ent36 (fun a w ha=>(zPh (fz:=xf) (dz:=xz) (ms:=ym) om om om (fun m hm=>by have:=ymm m hm;omega) w (hxr (fun r hr=>(List.Sublist.subset sbl hr)) ha).f (hxr (fun r hr=>(List.Sublist.subset sbl hr)) ha).d (yr (fun r hr=>(List.Sublist.subset sbl hr)) ha)).mono (fun e w' h=>by obtain⟨y,h1,h2,h3⟩:=h;exact⟨y,h1,h2,h3⟩)) ?_))));intro k2 hk2;dsimp only[List.nil_append] at hk2 ⊢;obtain rfl:=ChkR.uniq hk1 hk2;refine zB (anb (jH 21 J J J J J kr kr kr sbl (qO (v:=.bool false) J J (fun w=>by rw[kW,decide_eq_false (fun h=>h J)])) J (zC 22 J J J (xN J J) (zC 23 J J J (zJ J) (jH 24 J J J J J kr kr kr sbl (zJ J) J (jH 25 J J J J J kr kr kr sbl (zJ J) J (jH 26 J J J J J kr kr kr sbl (qO (v:=.bool false) J J (fun w=>by rw[kW,decide_eq_false (fun h=>h J)])) J (zC 27 J J J (xN J J) (zC 28 J J J (zJ J) (jH 29 J J J J J kr kr kr sbl (zJ J) J (jH 30 J J J J J kr kr kr sbl (zJ J) J (jH 31 J J J J J kr kr kr sbl (qO (v:=.bool false) J J (fun w=>by rw[kW,decide_eq_false (fun h=>h J)])) J (zC 32 J J J (xN J J) (zC 33 J J J (zJ J) (jH 34 J J J J J kr kr kr sbl (zJ J) J (jH 35 J J J J J kr kr kr sbl (zJ J) J (an1 36 J (zO J J ?_))))))))))))))))))
     refine jF (v:=.bool true) (vs:=[_,_]) J J F.ent17 (fun a w ha=>by
      have h:=zCx (ca:=c8) (cb:=c9) (l:=R8.map zmeta) (m:=R9.map zmeta) (by rw[List.length_map];omega) (by rw[List.length_map];omega) (fun x hx=>by obtain⟨m,hm,rfl⟩:=List.mem_map.1 hx;have h9:=hs2 m.2.2 (hR8▸List.mem_map_of_mem hm);show (zl m.2.2).length<1000000;unfold zl;rw[List.length_map];omega) (fun x hx=>by obtain⟨m,hm,rfl⟩:=List.mem_map.1 hx;have h9:=hs2 m.2.2 (hR9▸List.mem_map_of_mem hm);show (zl m.2.2).length<1000000;unfold zl;rw[List.length_map];omega) w (zOb ha (A:=A8) (c:=c8) (R:=R8) (S:=S8) (by repeat (first|exact List.mem_cons_self .. | apply List.mem_cons_of_mem)) hRS8 (fun r hr=>(show List.Sublist (S8.map mrow) _ from by (repeat refine List.Sublist.cons _ ?_);exact ((((List.sublist_append_left _ _).trans (List.sublist_append_right _ _)).trans (List.sublist_append_right _ _)).trans (List.sublist_append_right _ _)).trans (List.sublist_append_right _ _)).subset hr)) (zOb ha (A:=A9) (c:=c9) (R:=R9) (S:=S9) (by repeat (first|exact List.mem_cons_self .. | apply List.mem_cons_of_mem)) hRS9 (fun r hr=>(show List.Sublist (S9.map mrow) _ from by (repeat refine List.Sublist.cons _ ?_);exact (((((List.Sublist.refl _).trans (List.sublist_append_right _ _)).trans (List.sublist_append_right _ _)).trans (List.sublist_append_right _ _)).trans (List.sublist_append_right _ _)).trans (List.sublist_append_right _ _)).subset hr));have hz:∀R:List Meta,(R.map zmeta).map (fun x:MetaZ=>x.2.2)=(R.map (·.2.2)).map zl:=fun R=>by rw[List.map_map,List.map_map];rfl
      rw[hz,hz,hR8,hR9,decide_eq_true J,List.length_map,List.length_map] at h
      exact h) ?_
     refine zB (anb (jH 37 J J J J J kr kr kr sbl (zBp J) J (zC 38 J J J (xN J J) (zC 39 J J J (zJ J) (jH 40 J J J J J kr kr kr sbl (kU J F.agg25 F.ti25) J (jH 41 J J J J J kr kr kr sbl (zJ J) J (jH 42 J J J J J kr kr kr sbl (zJ J) J (jH 43 J J J J J kr kr kr sbl (jK (j:=k) J J U30 F.ti25 J hk4) J ?_))))))))
     refine jH 44 J J J J J kr kr kr sbl (qC (l:=[.slice xA xf.length xc,.int .i64 xk,.slice xD xz.length xd]) J F.agg25 F.ti25 J (fun a w ha j u hu=>by
      obtain⟨b9,o9,h1,_,h3⟩:=kE ha (cells:=CZ.cells) (size:=3) (e:=25) (c:=4) (n:=4) (l:=([(⟨fA,fc,fz,kz,dA,dc0,dz⟩:CZ),own,own,other]:List CZ)) (fun _=>rfl) (InR.mem (A:=some ⟨bs,0,none⟩)) J (by simp)
      cases h1
      exact h3 k _ hx j u hu)) J ?_
     refine an1 45 J (zO J J (jF (v:=.bool true) (vs:=[_,_]) J J F.ent18 (fun a w ha=>zW4 (fz:=xf) (dz:=xz) xw om om w (kE ha (cells:=FltZ.cells) (size:=4) (e:=27) (c:=c1) (n:=xf.length) (l:=xf) (fun _=>rfl) (InR.mem (A:=A1)) J) (kE ha (cells:=zcell) (size:=1) (e:=3) (c:=dc1) (n:=xz.length) (l:=xz) (fun _=>rfl) (InR.mem (A:=D1)) J) (hxr (fun r hr=>(List.Sublist.subset sbl hr)) ha).f (hxr (fun r hr=>(List.Sublist.subset sbl hr)) ha).d) (zB (anb (jH 46 J J J J J kr kr kr sbl (zBp J) J (zC 47 J J J (xN J J) (zC 48 J J J (zJ J) (jH 49 J J J J J kr kr kr sbl (zJ J) J (jH 50 J J J J J kr kr kr sbl (zJ J) J (jH 51 J J J J J kr kr kr sbl (zJ J) J (jH 52 J J J J J kr kr kr sbl (jK (j:=k) J J Tryz.underlying54 F.ti35 J hk4) J (jH 53 J J J J J kr kr kr sbl (jL (v:=.slice yA ym.length yc) J F.one35 (fun a w ha=>kV ha (InR.mem (A:=some ⟨b60,0,none⟩)) J (by rw[show 0+k*1=k from by omega];exact hyt))) J (an1 54 J (zO J J ?_))))))))))))))
     refine jF (v:=.bool true) (vs:=[_,_]) J J F.ent17 (fun a w ha=>by
      have h:=zCx (ca:=c7) (cb:=yc) (l:=Q7) (m:=ym) om om (fun x hx=>by have:=hm7 x hx;omega) (fun x hx=>by have:=ymm x hx;omega) w (zHy ha (A:=A7) (c:=c7) (ms:=Q7) (by repeat (first|exact List.mem_cons_self .. | apply List.mem_cons_of_mem)) J (fun m hm=>(show List.Sublist (Q7.reverse.map zmrow) _ from by (repeat refine List.Sublist.cons _ ?_);exact (((List.sublist_append_left _ _).trans (List.sublist_append_right _ _)).trans (List.sublist_append_right _ _)).trans (List.sublist_append_right _ _)).subset (List.mem_map_of_mem (List.mem_reverse.2 hm)))) (yr (fun r hr=>(List.Sublist.subset sbl hr)) ha);rw[hQ7,decide_eq_true J] at h
      exact h) ?_
     refine zB (anb (jH 55 J J J J J kr kr kr sbl (zBp J) J (zC 56 J J J (xN J J) (adn (zE (kM J (zQ (zM (zE (zI (zA J J (zG J J J bdO (zD J J (zB (kZ (k+1) om tdo sbn (by repeat (first|exact Pck.nil _|exact Pck.refl _|exact jA4 ((List.Sublist.refl _).append ((List.Sublist.refl _).append (List.sublist_append_left _ _)))|(apply Pck.cons;focus ((repeat (first|exact Rem.here _|apply Rem.there));done))|refine Pck.skip _ ?_)))))))))))))))))
   ·exact jS (zN (zN (jB (zE (csr (jF (v:=.bool true) (vs:=[]) J J F.ent11 (fun a w ha=>zMn w (hR.later ha.below)) (lax J J (zT (zY J (rsO J J) (fun a w ha=>⟨rfl,ha.grown nsl⟩))))))))))

end
section
open Go.Conc
variable {low:Nat} {msg:Nat->Value} {tW:TypeId}
def seenZ (W:World):World:={seenW W with output:=gout [0]}
theorem zV7 (W:World):Hid (Viewed W) (fun _=>False) W (seenZ W):=by
 have h:=zWz W;exact⟨h.1,h.2,h.3,h.4,h.5,h.6,h.7,h.8,h.9,h.10⟩
theorem zUm {W:World} {p:Addr} {u:Value} (h:W.cell? p=some u):(seenZ W).cell? p=some u:=zTr h
section
variable {P:Program} {W:World} {f:FuncId} {args:Array Value} {Post:Value->World->Prop}
theorem zQr {F:Nat->Prop} {w w' v':World} (hk:Kept F (fun _=>False) w w') (hv:Hid F (fun _=>False) w' v') (hb:Bas W (Viewed W) (fun i=>i=0) (fun _=>F) w) (hv0:Below (seenZ W).heap.size (seenZ W) v'):Below W.heap.size W w':=by
 refine⟨hk.os.trans hb.os,hk.tape.trans hb.tape,hk.output.trans hb.output,Nat.le_trans hb.size hk.size,fun b hlt=>?_⟩
 by_cases hF:F b
 ·rw[hk.block b (Nat.lt_of_lt_of_le hlt hb.size) (.inl hF)];exact (hb.held b (hb.new b hlt hF)).2.1
 ·rw[<-hv.same b hF (fun x=>x),hv0.block b (by simpa[seenZ,seenW] using hlt)];show (seenW W).heap[b]?=_;rw[zB1]
  cases h:W.heap[b]? with
  | none=>rfl
  | some o =>
   cases o with
   | view p t=>exact absurd ((hb.held b ⟨p,t,h⟩).2.2 0 rfl) hF
   | _=>rfl
def sig0:Cst:=⟨0,0,0,[],0,false,false,false,0,0,.rest,[],[],fun _=>none,[]⟩
theorem zUd:sig0.blank:=⟨fun _=>rfl,rfl,rfl,rfl,rfl,rfl,rfl,rfl,rfl⟩
theorem jA5 (low:Nat):Cok low sig0:=by
 refine⟨List.nodup_nil,rfl,fun j=>?_,fun j p h=>(by cases h),fun b hb=>(by cases hb),fun h=>(by cases h),fun h=>(by cases h),fun h=>(by cases h),by decide,rfl,.nil,zUd⟩
 constructor
 ·intro h;cases h
 ·rintro⟨p,h⟩;cases h
theorem zZ9 {σ:Cst} (hok:Cok low σ) (h:σ.gh 0=some [0]):Alone (Cp low tW msg) σ∧σ.lent=[]∧∀c,¬(Cst.ts σ).Ca c:=by
 rw[zBj] at h;have hp:=hok.phase
 cases hm:σ.mn<;>rw[hm] at h<;>simp[Mn.enc] at h
 unfold Cst.phase at hp;rw[hm] at hp;obtain⟨h1,h2,h3,h4,h5,h6,h7,h8,h9⟩:=hp
 refine⟨?_,h9,fun c hc=>?_⟩
 ·refine⟨fun j hj=>zBf hj h1,?_⟩;show (Cst.ts σ).D 0=0;simp[Cst.ts,hm,Mn.deaf]
 ·rcases hc with ⟨h,_⟩|⟨h,_⟩<;>omega
theorem zK6 (hK:low=W.heap.size) (noInit:P.inits.idxOf? f=none)
  (h : @Calls P (zSys P (Cp low tW msg)) f args (seenZ W) fun e v'=>∃x,e=.returned x∧Below (seenZ W).heap.size (seenZ W) v'∧∀W',Below W.heap.size W W'->Post x W') :
  ∃N last o w' t',runNT P (N+1) (solo (G (Frame.enter P f args .normal) []) W) #[]=(.ended o w',t')∧runN P N (solo (G (Frame.enter P f args .normal) []) W)=.next last∧step P last=.ended o w'∧Go.Conc.Good P Post last o w' t':=by
 refine jDp (K:=Cp low tW msg) (σ:=sig0) (γ:=[0]) jCg hK (zV7 W) J (jA5 low) J (fun j hj=>zBm hj J) (fun b hb=>(by cases hb)) J J (@Gs.mono P (zSys P (Cp low tW msg)) _ _ _ _ (h []) fun g v' hs=>?_);obtain⟨e,fr,v₀,⟨x,rfl,hb,hp⟩,hr,rfl,hfn,hm,hd,hkd,fn,hf,ht,hres⟩:=hs;have hb':Below (seenZ W).heap.size (seenZ W) v':=hb.trans (hr.mono hb.size);refine⟨rfl,⟨[0],hb'.output,fun σ hok hg=>zZ9 hok hg⟩,fun F w hv hbas=>?_⟩;obtain⟨w',h1,h2,h3,h4,h5⟩:=ht.ok (hres v' (Rl.refl v')) hv;have hno:P.inits.idxOf? fr.fn=none:=by rw[hfn];exact noInit
 refine⟨x,w',seen P fr.fn ((results fn fr.tmps).events P v' #[]),?_,?_,hp w' (zQr h4 h3 hbas hb')⟩
 ·rw[<-h2];simp[G,stepG,unwind,doReturn,hm,hd,hkd,hf,h1,hno,GStep.after]
 ·rw[<-hv.size];exact fun e he=>h5 e (Go.Conc.mem_seen he)
end
theorem zBr {H:Type} {enc:TypeId×Value->H} {a:Assume} {C:Checked} {os:Os} {f:FuncId} {fn:Func} {s:ChangeSpec} {conds:List PathCond} {apart fresh handsOn again:Bool} (tW:TypeId) (msg:Nat->Value)
  (own:ownKnob C.prog.godebug=none) (started:os.Started) (noInit:C.prog.inits.idxOf? f=none) (hfn:C.prog.funcs[f]?=some fn)
  (witness:∃(w:World) (tape:Tape) (i:Input),w.os=os∧(w.forCall tape i).Shaped C.prog∧i.vars=[]∧Input.okWide C.prog (w.forCall tape i) .any w.heap.size f i ∧
   s.pre6 enc C.prog fn conds apart (w.forCall tape i).memory i.args∧a.holds C.prog (lone (Frame.enter C.prog f i.args .normal) [] (w.forCall tape i)))
  (contract:∀(W:World) (base:Nat) (args:Array Value) (ds gs:List (DataW H)) (before:List MemPlace),
   (∀(j:Nat) t v,fn.params[j]?=some t->args[j]?=some v->Value.okWide C.prog W .any base t v) ->
   DataW.Whole enc C.prog fn.params.toList s.vars apart W args.toList ds gs before ->
   conds.all (PathCond.test C.prog ⟨fn.params.toList,ds,s.plain.varTypes C.prog,gs⟩)=true ->
   (DataW.weightsEach C.prog (fn.params.toList++s.plain.varTypes C.prog) (ds++gs)).all (·<=reachBytes)=true ->
   a.holds C.prog (lone (Frame.enter C.prog f args .normal) [] W) ->
   @Calls C.prog (zSys C.prog (Cp W.heap.size tW msg)) f args (seenZ W) fun e v'=>∃x,e=.returned x∧Below (seenZ W).heap.size (seenZ W) v'∧∀W',Below W.heap.size W W'->s.post enc C.prog fn apart fresh handsOn again W args x W') :
  ReturnsInLeavingWide a C os f .any (s.pre6 enc C.prog fn conds apart) (s.post enc C.prog fn apart fresh handsOn again):=by
 refine returnsInLeavingWide_of_good own started witness ?_;intro w tape i _ _ _ hok hpre hholds;obtain⟨_,_,_,fn',hfn',_,_,_,_,hval⟩:=hok;have e:fn'=fn:=Option.some.inj (hfn'.symm.trans hfn);subst e;obtain⟨⟨ds,gs,before,hw,hc⟩,hz⟩:=hpre;have hw':=DataW.Whole.of_heap (w':=w.forCall tape i) (by rfl) hw;have hcalls:=contract (w.forCall tape i) w.heap.size i.args ds gs before hval hw' hc (hz.weights hw) hholds;obtain⟨M,last,o,w',t',h1,h2,h3,h4⟩:=zK6 J noInit hcalls;exact⟨M,last,o,w',t',h1,h2,h3,h4.mono fun v hp=>ChangeSpec.post_blind hp⟩
end
end Go.Proofs.YteppiphdbondeaaGreat.N
/- What rows of laws about char share: the program's closed facts, and the law from its call in company. -/
namespace Go.Proofs.YteppiphdbondeaaGreat.N
open Go Go.ChangeShapes Go.WideShapes Go.ChangeAt Go.RowKit Go.Proofs Go.Proofs.YteppiphdbondeaaGreat Go.Proofs.YteppiphdbondeaaGreat.Rows
set_option linter.unusedSectionVars false
theorem own_:ownKnob Tryz.prog.godebug=Option.none:=by kernel_rfl
theorem zN2:laidOutB Tryz.prog=true:=by kernel_rfl
theorem zLr:Tryz.prog.cellsOf 3=1:=by kernel_rfl
theorem zVd:Tryz.prog.underlying 23=some (.slice 3):=by kernel_rfl
theorem zNr:Tryz.prog.underlying 3=some (.int .i64):=by kernel_rfl
theorem zZ3:Tryz.prog.underlying 4=some .bool:=by kernel_rfl
theorem jAk:Tryz.prog.readableRec 23=true:=by kernel_rfl
set_option maxRecDepth 100000 in
theorem jFh:23<Tryz.prog.types.size:=of_decide_eq_true (by kernel_rfl)
theorem zDw {α:Type} {cells:α->List Value} {size:Nat} {W:World} {A:Option Addr} {l:List α} (h:RdL cells size W A l):RdL cells size (seenZ W) A l:=fun hl=>by
 obtain⟨b,o,h1,h2,h3⟩:=h hl;exact⟨b,o,h1,by simpa[seenZ,seenW] using h2,fun k x hk j u hu=>zUm (h3 k x hk j u hu)⟩
abbrev ZS (W:World):Sys:=zSys Tryz.prog (Cp W.heap.size 158 msgM)
def orderN:List Nat:=[104,97,114,110,101,115,115,32,48,54,49,51,49,99,97,48,49,54,101,97,100,102,48,51,102,57,97,100,49,54,102,55,49,53,56,54,56,53,50,50,99,48,48,49,51,57,48,55,101,97,57,51,53,54,52,57,55,51,57,53,55,101,98,49,102,52,55,54,50,57,48,57,32,99,117,116,32,97,116,32,109,117,115,99,111,118,97,100,111,47,109,117,115,99,111,118,97,100,111,108,97,119,48,52,46,67,104,97,114,70,101,119,101,115,116,115,32,109,117,115,99,111,118,97,100,111,47,109,117,115,99,111,118,97,100,111,108,97,119,48,52,46,67,104,97,114,66,117,121,115,32,109,117,115,99,111,118,97,100,111,47,109,117,115,99,111,118,97,100,111,108,97,119,48,52,46,67,104,97,114,65,103,97,105,110,115,32,109,117,115,99,111,118,97,100,111,47,109,117,115,99,111,118,97,100,111,108,97,119,48,52,46,67,104,97,114,67,111,117,114,115,101,115,32,109,117,115,99,111,118,97,100,111,47,109,117,115,99,111,118,97,100,111,108,97,119,48,52,46,67,104,97,114,70,97,105,108,115,32,109,117,115,99,111,118,97,100,111,47,109,117,115,99,111,118,97,100,111,108,97,119,48,52,46,67,104,97,114,78,101,101,100,101,100,115,32,109,117,115,99,111,118,97,100,111,47,109,117,115,99,111,118,97,100,111,108,97,119,48,52,46,67,104,97,114,77,111,115,116,115]
def wordsN:List (List Nat):=[[104,97,114,110,101,115,115],[48,54,49,51,49,99,97,48,49,54,101,97,100,102,48,51,102,57,97,100,49,54,102,55,49,53,56,54,56,53,50,50,99,48,48,49,51,57,48,55,101,97,57,51,53,54,52,57,55,51,57,53,55,101,98,49,102,52,55,54,50,57,48,57],[99,117,116],[97,116],[109,117,115,99,111,118,97,100,111,47,109,117,115,99,111,118,97,100,111,108,97,119,48,52,46,67,104,97,114,70,101,119,101,115,116,115],[109,117,115,99,111,118,97,100,111,47,109,117,115,99,111,118,97,100,111,108,97,119,48,52,46,67,104,97,114,66,117,121,115],[109,117,115,99,111,118,97,100,111,47,109,117,115,99,111,118,97,100,111,108,97,119,48,52,46,67,104,97,114,65,103,97,105,110,115],[109,117,115,99,111,118,97,100,111,47,109,117,115,99,111,118,97,100,111,108,97,119,48,52,46,67,104,97,114,67,111,117,114,115,101,115],[109,117,115,99,111,118,97,100,111,47,109,117,115,99,111,118,97,100,111,108,97,119,48,52,46,67,104,97,114,70,97,105,108,115],[109,117,115,99,111,118,97,100,111,47,109,117,115,99,111,118,97,100,111,108,97,119,48,52,46,67,104,97,114,78,101,101,100,101,100,115],[109,117,115,99,111,118,97,100,111,47,109,117,115,99,111,118,97,100,111,108,97,119,48,52,46,67,104,97,114,77,111,115,116,115]]
set_option maxRecDepth 100000 in
theorem jEq:Tryz.prog.initOrder=String.ofList (orderN.map Char.ofNat):=by kernel_rfl
theorem jBw:Tryz.prog.initOrder.toList=orderN.map Char.ofNat:=by rw[jEq,String.toList_ofList]
def wordN (k:Nat):List Char:=(wordsN.getD k []).map Char.ofNat
def wordR:List (List Char):=(wordsN.drop 3).map (·.map Char.ofNat)
set_option maxRecDepth 100000 in
theorem jBs:wordsSigns Tryz.prog.initOrder.toList=wordN 0::wordN 1::wordN 2::wordR:=by
 rw[jBw]
 kernel_rfl
theorem zVr {a b : List Char} {r : List (List Char)} (h1 : (a == "harness".toList || a == "ownmain".toList) = true) (h2 : isSumSigns b = true) : behindMainWord (a :: b :: r) = r := by
 unfold behindMainWord;dsimp only;rw[h1,h2]
 rfl
theorem zOd:behindMainWord (wordsSigns Tryz.prog.initOrder.toList)=wordN 2::wordR:=by
 rw[jBs];exact zVr kr kr
theorem jAb {P : Program} {c : List Char} {rest : List (List Char)} (h : behindMainWord (wordsSigns P.initOrder.toList) = c :: rest) (h1 : (c == "gc".toList || c == "spec".toList) = false) (h2 : (c == "cut".toList) = true) : P.make = some .cut := by
 unfold Program.make;rw[h];dsimp only;rw[h1,h2]
 rfl
theorem jD5 {P : Program} {c : List Char} {rest : List (List Char)} (h : behindMainWord (wordsSigns P.initOrder.toList) = c :: rest) (h1 : (stripLifts liftWords (c :: rest)).1 = []) (h2 : ((stripLifts liftWords (c :: rest)).2.head? == some "cut".toList) = true) (h3 : P.laysLater = false) (h4 : P.bearsReflect = false) (h5 : P.doorFits [] = true) : P.mayEnter = true := by
 unfold Program.mayEnter;rw[h];dsimp only;rw[h1,h2,h3,h4,h5];simp
theorem zXp {P : Program} {c : List Char} {rest : List (List Char)} (h : behindMainWord (wordsSigns P.initOrder.toList) = c :: rest) (h1 : (stripLifts liftWords (c :: rest)).1 = []) (h2 : (c == "carried".toList) = false) : P.liftsFinal = false := by
 have e : (some c == some "carried".toList) = false := h2;unfold Program.liftsFinal Program.headLifts;dsimp only;rw [h, h1, List.head?_cons, e];simp
theorem zJu:(stripLifts liftWords (wordN 2::wordR)).1=[]:=by kernel_rfl
set_option maxRecDepth 100000 in
theorem jEs:Tryz.prog.make=some .cut:=jAb zOd (by kernel_rfl) (by kernel_rfl)
set_option maxRecDepth 100000 in
theorem jDw:Tryz.prog.liftsFinal=false:=zXp zOd zJu (by kernel_rfl)
set_option maxRecDepth 100000 in
theorem zUe:Tryz.prog.laysLater=false:=by kernel_rfl
set_option maxRecDepth 100000 in
theorem zNl:Tryz.prog.bearsReflect=false:=by kernel_rfl
set_option maxRecDepth 100000 in
theorem jE8:Tryz.prog.doorFits []=true:=by kernel_rfl
set_option maxRecDepth 100000 in
theorem may_:Tryz.prog.mayEnter=true:=jD5 zOd zJu (by kernel_rfl) zUe zNl jE8
set_option maxRecDepth 100000 in
theorem zTn:mapsRowed Tryz.prog=true:=by kernel_rfl
set_option maxRecDepth 100000 in
theorem zS2:Tryz.prog.plainKeys=false:=by kernel_rfl
set_option maxRecDepth 100000 in
theorem zQ8:Tryz.prog.stopsHeard=true:=by kernel_rfl
end Go.Proofs.YteppiphdbondeaaGreat.N
namespace Go.Proofs.YteppiphdbondeaaGreat.N
set_option linter.unusedSectionVars false
open Go.RowKit
section
theorem zYu (W:World) : @RdC (ZS W) (reaC_main W.heap.size) (seenZ W):=⟨by show W.heap.size<=(seenZ W).heap.size;simp[seenZ,seenW],rfl⟩
end
end Go.Proofs.YteppiphdbondeaaGreat.N
/- What rows of laws that compare char with the reference share: char, filters and lists of numbers out of what the statement lets the input be. -/
namespace Go.Proofs.YteppiphdbondeaaGreat.N
open Go Go.ChangeShapes Go.WideShapes Go.ChangeAt Go.RowKit Go.Proofs Go.Proofs.YteppiphdbondeaaGreat Go.Proofs.YteppiphdbondeaaGreat.Rows
set_option linter.unusedSectionVars false
theorem zGe {H:Type} {enc:TypeId×Value->H} {W W':World} (hn:Below W.heap.size W W'):∀{ts:List TypeId} {vs:List Value} {ds:List (DataW H)} {ps:List MemPlace},
  (∀t∈ts,Tryz.prog.readableRec t=true∧t<Tryz.prog.types.size)->DataW.TrodAll enc Tryz.prog W 0 (fun _=>true) true ts vs ds ps->(∀x∈ps,x.block<W.heap.size) ->
  DataW.TrodAll enc Tryz.prog W' 0 (fun b=>decide (b<W.heap.size)) true ts vs ds ps
 | [],_,_,_,_,h,_=>by
  obtain⟨rfl,rfl,rfl⟩:=trodAll_nil h
  exact trodAll_mk0
 | t::ts,vs,ds,ps,hr,h,hlt=>by
  obtain⟨v,vs',d,ds',p,q,rfl,rfl,rfl,h1,h2⟩:=trodAll_cons h;exact trodAll_cons_mk (Below.trod zN2 (hr t (by simp)).1 (hr t (by simp)).2 h1 hn (fun x hx=>hlt x (List.mem_append_left _ hx))) (zGe hn (fun u hu=>hr u (by simp[hu])) h2 (fun x hx=>hlt x (List.mem_append_right _ hx)))
set_option maxRecDepth 100000 in
theorem zQ2 {H:Type} {enc:TypeId×Value->H} {f:FuncId} {fn:Func} {s:ChangeSpec} (hr:fn.resultTypes=#[4]) (hs:s.vars=[]) (hread:∀t∈fn.params.toList,Tryz.prog.readableRec t=true∧t<Tryz.prog.types.size)
  {W:World} {args:Array Value} {ds gs:List (DataW H)} {before:List MemPlace} (hfn:s.fn H ds={results:=[.lit (.bool true)],args:=ds})
  (hW:DataW.Whole enc Tryz.prog fn.params.toList s.vars false W args.toList ds gs before)
  (hc : @Calls Tryz.prog (ZS W) f args (seenZ W) fun e w'=>e=.returned (.bool true)∧Grew (seenZ W) w' []) :
  @Calls Tryz.prog (ZS W) f args (seenZ W) fun e v'=>∃x,e=.returned x∧Below (seenZ W).heap.size (seenZ W) v'∧∀W',Below W.heap.size W W'->s.post enc Tryz.prog fn false true false false W args x W':=by
 have hW':=hW;obtain⟨p,q,hA,hV,rfl,_,_⟩:=hW;rw[hs] at hV;obtain⟨rfl,rfl⟩:=trodVars_none hV;simp only[List.append_nil] at hW';refine @Calls.mono _ (ZS W) _ _ _ _ _ hc fun e v' ⟨he,hg⟩=>⟨_,he,hg.1,fun W' hb=>?_⟩
 refine⟨_,_,_,[],p,[],hW',?_,?_,?_,hb.frame _,fun h=>Bool.noConfusion h⟩
 ·rw[List.append_nil,hfn,hr];exact trodAll_mk1 (shut_bool zZ3 true)
 ·rw[List.append_nil,hfn];exact zGe hb hread hA (fun x hx=>hW'.lt x hx)
 ·rw[List.append_nil,hfn,hs];rfl
set_option maxRecDepth 100000 in
theorem zDt {H:Type} {enc:TypeId×Value->H} {W:World} {fuel:Nat} {v:Value} {x:DataW H×List MemPlace} (hf:DataW.trod enc Tryz.prog W 0 (fun _=>true) true fuel 23 [v]=some x) (hlt:∀y∈x.2,y.block<W.heap.size) :
  ∃(A:Option Addr) (c:Nat) (l:List Int),v=.slice A l.length c∧RdL icell 1 W A l∧(A=Option.none->l=[]∧c=0):=by
 rcases open_ints zVd zNr zLr hf with ⟨hcs,hx⟩|⟨a,len,cap,zs,hcs,_,hl,hm,hz,hx,hcell,hwz⟩
 ·obtain rfl:=List.singleton_inj.1 hcs;exact⟨_,_,[],rfl,fun h=>absurd h (by simp),fun _=>⟨rfl,rfl⟩⟩
 ·obtain rfl:=List.singleton_inj.1 hcs;subst hx;simp only[if_true] at hz;obtain⟨b,off,spot⟩:=a;have hlen:(zs.take len).length=len:=by rw[List.length_take];omega
  refine⟨_,cap,zs.take len,by rw[hlen],fun hpos=>?_,fun h=>by cases h⟩;rw[hlen] at hpos;have hspot:spot=Option.none:=by simpa[Addr.add] using World.cell?_spot (hcell 0 om)
  subst hspot;refine⟨b,off,rfl,hlt (.cell b off) (MemPlace.mem_row.2 ⟨0,by omega,by simp⟩),fun k x hk j u hu=>?_⟩;rw[List.getElem?_take] at hk
  split at hk
  ·rename_i hkl
   cases j with
   | zero =>
    simp[icell] at hu;subst hu;have:=hcell k om;rw[List.getD_eq_getElem?_getD,hk] at this;rw[Nat.mul_one,Nat.add_zero];rw[add_plain] at this
    exact this
   | succ j=>simp[icell] at hu
  ·cases hk
set_option maxRecDepth 100000 in
theorem zL0 {H:Type} {enc:TypeId×Value->H} {W:World} {fuel:Nat} {cs:List Value} {x:DataW H×List MemPlace} (h:DataW.trod enc Tryz.prog W 0 (fun _=>true) true fuel 27 cs=some x) :
  ∃y:FltZ,y.wf∧cs=y.cells:=by
 obtain⟨xs,n,_,_,hcl,hxl,hf⟩:=DataW.trod_struct Tryz.underlying27 h;rw[co27] at hcl
 match cs,hcl with
 | [v0,v1,v2,v3],_ =>
  have key:∀v x,DataW.trod enc Tryz.prog W 0 (fun _=>true) true n 3 [v]=some x->∃m,v=.int .i64 m∧W64 m:=fun v x hx=>by
   obtain⟨m,h1,_,h3⟩:=DataW.trod_int zNr hx;exact⟨m,List.singleton_inj.1 h1,bounds_i64 h3⟩
  have keyb:∀v x,DataW.trod enc Tryz.prog W 0 (fun _=>true) true n 4 [v]=some x->∃b,v=.bool b:=fun v x hx=>by
   obtain⟨b,h1,_⟩:=DataW.trod_bool zZ3 hx;exact⟨b,List.singleton_inj.1 h1⟩
  have f0:=hf 0 _ J;have f1:=hf 1 _ J;have f2:=hf 2 _ J;have f3:=hf 3 _ J;simp[zLr] at f0 f1 f2;simp[co4] at f3;obtain⟨m0,rfl,w0⟩:=key v0 _ (f0.trans (List.getElem?_eq_getElem (by simp[hxl])));obtain⟨m1,rfl,w1⟩:=key v1 _ (f1.trans (List.getElem?_eq_getElem (by simp[hxl])));obtain⟨m2,rfl,w2⟩:=key v2 _ (f2.trans (List.getElem?_eq_getElem (by simp[hxl])));obtain⟨b,rfl⟩:=keyb v3 _ (f3.trans (List.getElem?_eq_getElem (by simp[hxl])));exact⟨⟨m0,m1,m2,b⟩,⟨w0,w1,w2⟩,rfl⟩
set_option maxRecDepth 100000 in
theorem jCl {H:Type} {enc:TypeId×Value->H} {W:World} {base:Nat} {v:Value} {d:DataW H} {p:List MemPlace} (hok:Value.okWide Tryz.prog W .any base 27 v)
  (h:DataW.Trod enc Tryz.prog W 0 (fun _=>true) true 27 v d p):∃y:FltZ,y.wf∧v=.agg y.cells.toArray:=by
 obtain⟨cs,rfl,_⟩:=okWide_struct Tryz.underlying27 hok;obtain⟨fuel,hf⟩:=h;obtain⟨y,hy,hc⟩:=zL0 hf;simp only[Value.cells] at hc;exact⟨y,hy,by rw[<-hc]⟩
set_option maxRecDepth 100000 in
theorem zQg {H:Type} {enc:TypeId×Value->H} {W:World} {fuel:Nat} {v:Value} {x:DataW H×List MemPlace} (hf:DataW.trod enc Tryz.prog W 0 (fun _=>true) true fuel 22 [v]=some x) (hlt:∀y∈x.2,y.block<W.heap.size) :
  ∃(A:Option Addr) (c:Nat) (l:List FltZ),v=.slice A l.length c∧RdL FltZ.cells 4 W A l∧(∀y∈l,y.wf)∧(A=Option.none->l=[]∧c=0):=by
 rcases Go.Deep.open_slice U22 hf with ⟨hcs,hx⟩|⟨a,len,cap,m,n,D,Pl,hcs,_,hl,hm,hmm,hx,hi⟩
 ·obtain rfl:=List.singleton_inj.1 hcs;exact⟨_,_,[],rfl,fun h=>absurd h (by simp),fun y hy=>(List.not_mem_nil hy).elim,fun _=>⟨rfl,rfl⟩⟩
 ·obtain rfl:=List.singleton_inj.1 hcs;subst hx;simp only[if_true] at hmm;subst hmm;rw[co27] at hi
  obtain⟨Y,hY⟩:=Go.Deep.choose_lt (α:=FltZ) (p:=fun i y=>y.wf∧∀j u,y.cells[j]?=some u->W.cell? (a.add (i*4+j))=some u) (fun i hlt'=>by
   obtain⟨cs',h1,h2⟩:=hi i hlt';obtain⟨y,hy,rfl⟩:=zL0 h2;obtain⟨_,_,h3⟩:=World.cells?_some h1;refine⟨y,hy,fun j u hu=>?_⟩
   have hj:j<4:=by
    have:=(List.getElem?_eq_some_iff.1 hu).1;simpa[FltZ.cells] using this
   have:=h3 j hj;rw[hu,Go.Deep.add_add] at this
   exact this)
  have hlen:((List.range len).map Y).length=len:=by simp
  obtain⟨b,off,spot⟩:=a
  refine⟨_,m,(List.range len).map Y,by rw[hlen],fun hpos=>?_,fun y hy=>?_,fun h=>by cases h⟩
  ·rw[hlen] at hpos;have hspot:spot=Option.none:=by simpa[Addr.add] using World.cell?_spot ((hY 0 om).2 0 _ J)
   subst hspot;refine⟨b,off,rfl,hlt (.cell b off) (List.mem_append_left _ (MemPlace.mem_row.2 ⟨0,by rw[co27];omega,by simp⟩)),fun k x hk j u hu=>?_⟩;rw[List.getElem?_map] at hk;obtain⟨i,h1,rfl⟩:=Option.map_eq_some_iff.1 hk;obtain⟨h2,h3⟩:=List.getElem?_eq_some_iff.1 h1;rw[List.getElem_range] at h3;subst h3;rw[List.length_range] at h2;have:=(hY k om).2 j u hu;rw[add_plain,<-Nat.add_assoc] at this;exact this
  ·obtain⟨i,h1,rfl⟩:=List.mem_map.1 hy;exact (hY i (by have:=List.mem_range.1 h1;omega)).1
set_option maxRecDepth 100000 in
theorem co25:Tryz.prog.cellsOf 25=3:=by kernel_rfl
theorem coFLS:Tryz.prog.cellsOf 22=1:=by kernel_rfl
theorem coINTS:Tryz.prog.cellsOf 23=1:=by kernel_rfl
set_option maxRecDepth 100000 in
theorem zXu {H:Type} {enc:TypeId×Value->H} {W:World} {base:Nat} {v:Value} {d:DataW H} {p:List MemPlace} (hok:Value.okWide Tryz.prog W .any base 25 v)
  (h:DataW.Trod enc Tryz.prog W 0 (fun _=>true) true 25 v d p) (hlt:∀y∈p,y.block<W.heap.size) :
  ∃x:CZ,v=.agg x.cells.toArray∧x.Rd W∧(∀f∈x.fz,f.wf)∧(x.fA=Option.none->x.fz=[]∧x.fc=0)∧(x.dA=Option.none->x.dz=[]∧x.dc=0):=by
 obtain⟨cs,rfl,hsz⟩:=okWide_struct Tryz.underlying25 hok;obtain⟨fuel,hf⟩:=h;obtain⟨y0,y1,y2,n,hx,hcl,h0,h1,h2⟩:=Go.Deep.trod_struct3 Tryz.underlying25 hf;simp only[Prod.mk.injEq] at hx;obtain⟨rfl,rfl⟩:=hx
 have hcs:∃v0 v1 v2,cs=#[v0,v1,v2]:=by
  rw[co25] at hsz;obtain⟨l⟩:=cs
  match l,hsz with
  | [v0,v1,v2],_=>exact⟨v0,v1,v2,rfl⟩
 obtain⟨v0,v1,v2,rfl⟩:=hcs;simp[Value.cells,coFLS,zLr,coINTS] at h0 h1 h2;obtain⟨A,c,l,rfl,r1,r2,r3⟩:=zQg h0 fun y hy=>hlt y (by simp[hy]);obtain⟨D,dc,dz,rfl,r4,r5⟩:=zDt h2 fun y hy=>hlt y (by simp[hy]);obtain⟨m,h1',_,_⟩:=DataW.trod_int zNr h1;obtain rfl:=List.singleton_inj.1 h1';exact⟨⟨A,c,l,m,D,dc,dz⟩,rfl,⟨r1,r4⟩,r2,r3,r5⟩
set_option maxRecDepth 100000 in
theorem zZl {H:Type} {enc:TypeId×Value->H} {W:World} {base:Nat} {v:Value} {d:DataW H} {p:List MemPlace} (hok:Value.okWide Tryz.prog W .any base 23 v)
  (h:DataW.Trod enc Tryz.prog W 0 (fun _=>true) true 23 v d p) (hlt:∀y∈p,y.block<W.heap.size):∃(A:Option Addr) (c:Nat) (l:List Int),v=.slice A l.length c∧RdL icell 1 W A l∧(A=Option.none->l=[]∧c=0):=by
 obtain⟨a0,len,cap,rfl⟩:=okWide_slice zVd hok;obtain⟨fuel,hf⟩:=h;exact zDt (x:=(d,p)) hf hlt
set_option maxRecDepth 100000 in
theorem zXa:Tryz.prog.readableRec 25=true∧25<Tryz.prog.types.size:=⟨by kernel_rfl,of_decide_eq_true (by kernel_rfl)⟩
set_option maxRecDepth 100000 in
theorem zY6:Tryz.prog.readableRec 27=true∧27<Tryz.prog.types.size:=⟨by kernel_rfl,of_decide_eq_true (by kernel_rfl)⟩
set_option maxRecDepth 100000 in
theorem jDv:Tryz.prog.readableRec 3=true∧3<Tryz.prog.types.size:=⟨by kernel_rfl,of_decide_eq_true (by kernel_rfl)⟩
theorem zV2:Tryz.prog.readableRec 23=true∧23<Tryz.prog.types.size:=⟨jAk,jFh⟩
end Go.Proofs.YteppiphdbondeaaGreat.N
namespace Go.Proofs.YteppiphdbondeaaGreat.N
set_option linter.unusedSectionVars false
open Go.RowKit
end Go.Proofs.YteppiphdbondeaaGreat.N
