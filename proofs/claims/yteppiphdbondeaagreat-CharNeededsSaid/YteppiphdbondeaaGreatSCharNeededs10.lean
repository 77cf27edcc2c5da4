/- Parts of the walk of the law CharNeededs: Y7, YI, YJ, Y8, Y9, Y10, YL, YN, Y11, Y12, YP, YQ, Y13, Y14, ChRow, RowC, RowC2, RowZ2. -/
import Derived.Test.YteppiphdbondeaaGreatSCharNeededs09
import Derived.Test.YteppiphdbondeaaGreatProg
import Derived.Test.YteppiphdbondeaaGreatSCharNeededs08
import Derived.Test.YteppiphdbondeaaGreatSCharNeededs03
import Derived.Test.YteppiphdbondeaaGreatSCharNeededs07
import Derived.Test.YteppiphdbondeaaGreatSCharNeededs04
import Derived.Test.YteppiphdbondeaaGreatRows
import Derived.ChangeSame
import Derived.ChangeVars
import Derived.JoinedOf
import Derived.RowKit
import Derived.RowKitTokens
import Derived.WitnessAt
import Derived.Stop.Joined
import Derived.ProofKit
import Derived.SizedLaws
import Derived.OpenShut
import Derived.Conc.Holds
import Derived.Deep.Slices
import Derived.Deep.Strs
namespace Go.Proofs.YteppiphdbondeaaGreat.N
set_option linter.unusedSectionVars false
open Go.RowKit
section
variable [I:Sys]
theorem F.ent101:Enters Tryz.prog 101:=jD Tryz.func101 rfl kr
theorem F.ent76:Enters Tryz.prog 76:=jD Tryz.func76 rfl kr
theorem F.ent77:Enters Tryz.prog 77:=jD Tryz.func77 rfl kr
theorem F.one109:One Tryz.prog 109:=⟨by unfold aggB;rw[Tryz.underlying109],by rw[Tryz.underlying109];simp⟩
theorem F.ti109:TI Tryz.prog 109 (.slice none 0 0) 1 24:=TI.of kr
theorem zM7 {fA dA:Option Addr} {fc dc kiln:Nat} {fs:List Flt} {days:List Nat} (hc:ChW fs kiln days) (w:World) (hF:RdL Flt.cells 4 w fA fs) (hD:RdL ncell 1 w dA days):Calls Tryz.prog 73 #[.agg (CA fA fs.length fc kiln dA days.length dc).toArray] w fun e w'=>∃(A:Option Addr) (c:Nat) (LS:List LZ),LS.reverse.map lmor=(List.range (days.length+1)).map (fun i=>lvlL fs kiln (days.take i))∧e=.returned (.slice A LS.length c)∧Grew w w' (.row 109 1 A LS.length c (LS.reverse.map lcell)::LS.flatMap (lrow fs.length)):=by
 refine enter (N:=92) [(0,.agg (CA fA fs.length fc kiln dA days.length dc).toArray)] Tryz.func73 J Tryz.ntmps73 J J (csr (jN J J ?_));intro b1;refine lax J J (csr (zY J J F.agg25 F.ti25 (kV (X:=(Option Addr×Nat)×(Option Addr×Nat)) (vs:=[_]) (p:=fun _=>True) (val:=fun y=>.agg (mmc fs.length (y.1,y.2,start fs)).toArray) (rs:=fun y=>mmr fs.length (y.1,y.2,start fs)) J J F.ent101 (fun a w ha=>(zYb hc.f3 w (hF.later ha.below)).mono (fun e w' h=>by obtain⟨sA,sc,wA,wc,h1,h2⟩:=h;exact⟨((sA,sc),(wA,wc)),trivial,h1,h2⟩)) ?_)));rintro⟨⟨sA,sc⟩,⟨wA,wc⟩⟩ -;dsimp only[mmc,mmr,List.cons_append,List.nil_append];refine vM (vs:=[(0,.agg ([.slice sA fs.length sc,.slice wA fs.length wc]:List Value).toArray)]) [.slice sA fs.length sc,.slice wA fs.length wc] J J U109 F.ti112 J J J (Lit.agg (l1:=[.slice sA fs.length sc,.slice wA fs.length wc]) J (rfl)) ?_;intro b14;refine zAk (n:=1) 2 J (by unfold maxLen;omega) (.head _) (jV (vs:=[(0,_)]) J J Tryz.underlying104 F.ti109 J J J ?_);intro b15;refine zAk (n:=1) 1 J (by unfold maxLen;omega) (.head _) (lax J J (csr (zI J J F.fi25_0 F.ti22 (zP J J F.one22 (jQ J J Tryz.underlying22 (kV (X:=Option Addr×Nat×List Meta) (vs:=[_]) (p:=fun y=>y.2.2.reverse.map (·.2.2)=exts [] fs.length) (val:=fun y=>.slice y.1 y.2.2.length y.2.1) (rs:=fun y=>.row 23 1 y.1 y.2.2.length y.2.1 (y.2.2.reverse.map mcell)::y.2.2.map mrow) J J F.ent75 (fun a w ha=>(zUg fs.length hc.f3 w).mono (fun e w' h=>by obtain⟨A',c',S',h1,h2,h3⟩:=h;exact⟨(A',c',S'),h1,h2,h3⟩)) ?_))))));rintro⟨A4,c4,S⟩ hS;dsimp only at hS ⊢;have hSl:S.length=4^fs.length:=by have h:=congrArg List.length hS;rw[wQ] at h;simpa using h
 have hS64:=Nat.pow_le_pow_right (n:=4) (by decide) hc.f3;have hS0:0<4^fs.length:=Nat.pow_pos (by decide);refine zCv (List.Perm.cons _ List.perm_append_comm) ?_;simp only[List.cons_append,List.nil_append];refine lax J J (zF (zF (zL ?_)));have hd4:=hc.d4;have hf3:=hc.f3;refine wB A4 om ?_;intro g4 hg4;refine lax J J (zU (xC (G:=Nat×Option Addr×Nat×List LZ) (fun g=>g.1<=days.length∧g.2.2.2.reverse.map lmor=(List.range (g.1+1)).map (fun i=>lvlL fs kiln (days.take i))) (fun g=>days.length-g.1) (fun g=>[(1,pt b1),(3,.slice g.2.1 g.2.2.2.length g.2.2.1),(4,.slice A4 S.length c4),(5,.int .i64 (g.1:Int))]) (fun g=>.row 109 1 g.2.1 g.2.2.2.length g.2.2.1 (g.2.2.2.reverse.map lcell)::.blk b1 (.cells (CA fA fs.length fc kiln dA days.length dc).toArray 25 (0,0))::.row 23 1 A4 S.length c4 (S.reverse.map mcell)::(g.2.2.2.flatMap (lrow fs.length)++S.map mrow)) (0,some ⟨b15,0,none⟩,1,[(some ⟨b14,0,none⟩,1,[((sA,sc),(wA,wc),start fs)])]) ⟨Nat.zero_le _,rfl⟩ sbn (by simp only[lrow,List.flatMap_cons,List.flatMap_nil,List.append_nil,List.reverse_cons,List.reverse_nil,List.nil_append,List.cons_append,mmr,mmc,List.map_cons,List.map_nil,lcell,List.length_cons,List.length_nil,Nat.zero_add];repeat (first|exact Pck.nil _|exact Pck.refl _|(apply Pck.cons;focus ((repeat (first|exact Rem.here _|apply Rem.there));done))|refine Pck.skip _ ?_)) ?_));rintro⟨d,oA,oc,LS⟩ ⟨hd0,hLS⟩;dsimp only at hd0 hLS ⊢;have hLl:LS.length=d+1:=by have h:=congrArg List.length hLS;simpa using h
 refine zF (csr (zA J J (zI J J F.fi25_2 F.ti23 (zP J J F.one23 (jQ J J U23 (zG J J J jW ?_))))))
 refine lnx (zJ J (fun hc0=>?_) (fun hc0=>?_))
 ·have hd:d<days.length:=om;obtain⟨bd,bo,hdA,hbd,hcd⟩:=hD om;obtain⟨sg,hsg⟩:∃y,days[d]?=some y:=⟨_,List.getElem?_eq_getElem hd⟩;have hsg12:=hc.dd sg (List.mem_of_getElem? hsg);obtain⟨x,hx⟩:∃y,LS.reverse[d]?=some y:=⟨_,List.getElem?_eq_getElem (by simp;omega)⟩;have hxL:x∈LS:=List.mem_reverse.1 (List.mem_of_getElem? hx)
  have hxm:lmor x=lvlL fs kiln (days.take d):=by
   have h:=yS hLS hx;rw[List.getElem?_map,List.getElem?_range om] at h;injection h with h;exact h.symm
  have hxok:∀m∈x.2.2,MOk m.2.2∧Thin fs.length m.2.2:=fun m hm=>by
   have h:m.2.2∈lvlL fs kiln (days.take d):=hxm▸List.mem_map_of_mem (List.mem_reverse.2 hm);exact⟨(jEg.1 h).ok hc.f3 hc.ff _ _,(jEg.1 h).thin hc.f3 hc.ff _ _⟩
  have hxn:x.2.2.length<=1000:=by
   rw[<-zAw,hxm];exact zEi (zE7 _) fun m hm=>(jEg.1 hm).ok hc.f3 hc.ff _ _
  have hten:=zNx hc.f3;refine zR (zE (zF (zU (csr (lax J J (csr (wB oA om ?_)))))));intro g3 hg3;refine zI J J F.fi25_0 F.ti22 (zP J J F.one22 (jQ J J Tryz.underlying22 (kV (X:=Nat) (vs:=[_,_]) (p:=fun _=>True) (val:=fun y=>.slice (some ⟨y,0,none⟩) (ten fs.length) (ten fs.length)) (rs:=fun y=>[.row 3 1 (some ⟨y,0,none⟩) (ten fs.length) (ten fs.length) (zis (tabK (ten fs.length) (cods fs.length []) 0))]) J J F.ent76 (fun a w ha=>(zWp (l:=[]) (A:=none) (c:=0) hc.f3 (fun _ h=>nomatch h) (by simp) w ⟨fun h=>absurd h (Nat.lt_irrefl _),fun _ h=>nomatch h⟩).mono (fun e w' h=>by obtain⟨b,h1,h2⟩:=h;exact⟨b,trivial,h1,h2⟩)) ?_)));rintro b30 -;dsimp only[List.cons_append,List.nil_append];refine lax J J (zF (csr (lax J J (zU (yM 112 2 (xC (G:=Nat×Option Addr×Nat×List MZ) (fun g=>g.1<=x.2.2.length∧g.2.2.2.reverse.map (·.2.2)=fndL fs kiln sg (lmor x) g.1) (fun g=>x.2.2.length-g.1) (fun g=>[(1,pt b1),(3,.slice oA LS.length oc),(4,.slice A4 S.length c4),(5,.int .i64 (d:Int)),(6,.slice g.2.1 g.2.2.2.length g.2.2.1),(7,.slice (some ⟨b30,0,none⟩) (ten fs.length) (ten fs.length)),(8,.int .i64 (g.1:Int))]) (fun g=>.row 112 2 g.2.1 g.2.2.2.length g.2.2.1 (g.2.2.2.reverse.flatMap (mmc fs.length))::.row 3 1 (some ⟨b30,0,none⟩) (ten fs.length) (ten fs.length) (zis (tabK (ten fs.length) (cods fs.length g.2.2.2.reverse) g.2.2.2.length))::.row 109 1 oA LS.length oc (LS.reverse.map lcell)::.blk b1 (.cells (CA fA fs.length fc kiln dA days.length dc).toArray 25 (0,0))::.row 23 1 A4 S.length c4 (S.reverse.map mcell)::(g.2.2.2.flatMap (mmr fs.length)++(LS.flatMap (lrow fs.length)++S.map mrow))) (0,none,0,[]) ⟨Nat.zero_le _,rfl⟩ sbn pkk ?_))))));rintro⟨i,A6,c6,R⟩ ⟨hi0,hR⟩;dsimp only at hi0 hR ⊢;refine zF (csr (zA J J (zA J J (zA J J (kI (j:=d) J (show _=some (Value.slice (some ⟨g3,0,none⟩) LS.length oc) from by rw[<-hg3];rfl) J Tryz.underlying104 F.ti109 J om (kK (v:=.slice x.1 x.2.2.length x.2.1) J J F.one109 (fun a w ha=>vK ha (InR.mem (A:=oA)) hg3 (by rw[show 0+d*1=d from by omega];exact zCd hx)) (jQ J J Tryz.underlying109 (zG J J J jW ?_))))))))
  refine lnx (zJ J (fun hc1=>?_) (fun hc1=>?_))
  ·have hi:i<x.2.2.length:=om;obtain⟨m,hm⟩:∃y,x.2.2.reverse[i]?=some y:=⟨_,List.getElem?_eq_getElem (by simp;omega)⟩;have hmx:m∈x.2.2:=List.mem_reverse.1 (List.mem_of_getElem? hm);have hml:(lmor x)[i]?=some m.2.2:=by unfold lmor;rw[List.getElem?_map,hm];rfl
   obtain⟨hmok,hmth⟩:=hxok m hmx;obtain⟨⟨mA,mc⟩,⟨vA,vc⟩,mo⟩:=m;dsimp only at hml hmok hmth;refine zR (zE (zF (zU (csr (zFf (fun a w ha=>zBo (ha.own _ ((show ∀r∈lrow fs.length x,r∈_ from (by intro r hr;repeat (first|exact List.mem_append_right _ (List.mem_append_left _ (List.mem_flatMap.2 ⟨x,hxL,hr⟩))|apply List.Mem.tail))) _ (List.mem_cons_self ..))) om) ?_)))));rintro⟨gx,hgx⟩;refine lax J J (zU (xC (G:=Nat×Option Addr×Nat×List MZ) (fun g=>g.1<=S.length∧g.2.2.2.reverse.map (·.2.2)=(candL fs kiln sg mo ((exts [] fs.length).take g.1)).foldl addM (fndL fs kiln sg (lmor x) i)) (fun g=>S.length-g.1) (fun g=>[(1,pt b1),(3,.slice oA LS.length oc),(4,.slice A4 S.length c4),(5,.int .i64 (d:Int)),(6,.slice g.2.1 g.2.2.2.length g.2.2.1),(7,.slice (some ⟨b30,0,none⟩) (ten fs.length) (ten fs.length)),(8,.int .i64 (i:Int)),(9,.int .i64 (g.1:Int))]) (fun g=>.row 112 2 g.2.1 g.2.2.2.length g.2.2.1 (g.2.2.2.reverse.flatMap (mmc fs.length))::.row 3 1 (some ⟨b30,0,none⟩) (ten fs.length) (ten fs.length) (zis (tabK (ten fs.length) (cods fs.length g.2.2.2.reverse) g.2.2.2.length))::.row 109 1 oA LS.length oc (LS.reverse.map lcell)::.blk b1 (.cells (CA fA fs.length fc kiln dA days.length dc).toArray 25 (0,0))::.row 23 1 A4 S.length c4 (S.reverse.map mcell)::(g.2.2.2.flatMap (mmr fs.length)++(LS.flatMap (lrow fs.length)++S.map mrow))) (0,A6,c6,R) ⟨Nat.zero_le _,by simp[candL,hR]⟩ sbn pkk ?_));rintro⟨k,A6,c6,R⟩ ⟨hk0,hR⟩;dsimp only at hk0 hR ⊢;refine zF (csr (zA J J (zA J J (jQ J J U35 (zG J J J jW ?_)))))
   refine lnx (zJ J (fun hc2=>?_) (fun hc2=>?_))
   ·have hk:k<S.length:=om;obtain⟨s,hs⟩:∃y,S.reverse[k]?=some y:=⟨_,List.getElem?_eq_getElem (by simp;omega)⟩;have hsS:s∈S:=List.mem_reverse.1 (List.mem_of_getElem? hs);have hsl:(exts [] fs.length)[k]?=some s.2.2:=yS hS hs;have hsn:s.2.2.length=fs.length:=by rw[yK _ _ _ (List.mem_of_getElem? hsl),List.length_nil];omega
    have hRa:∀y∈R.reverse.map (·.2.2),MOk y∧Thin fs.length y:=by
     rw[hR];refine zLi _ _ (zZ2 hc.f3 hc.ff fun z hz=>?_) (zNy hc.f3 hc.ff hmok hmth fun a ha=>zNf a (List.mem_of_mem_take ha));rw[hxm] at hz;exact⟨(jEg.1 hz).ok hc.f3 hc.ff _ _,(jEg.1 hz).thin hc.f3 hc.ff _ _⟩
    have hRn:R.length<=1000:=by
     have h:=zEi (l:=R.reverse.map (·.2.2)) (by rw[hR];exact zB1 _ _ zR3) fun y hy=>(hRa y hy).1;simpa using h
    refine zR (zE (zF (zU (zF ?_))));rcases hD:dayE fs kiln mo s.2.2 sg with ⟨e,m1⟩
    obtain rfl|⟨er,rfl⟩:e=0∨∃er,e=er+1:=by
     cases e with
     | zero=>exact .inl rfl
     | succ er=>exact .inr ⟨er,rfl⟩
    ·refine xK (G:=Nat×(Option Addr×Nat)×(Option Addr×Nat)) (fun _=>True) (fun g=>[(10,.pointer (some ⟨g.1,0,none⟩)),(11,.int .i64 0),(1,pt b1),(3,.slice oA LS.length oc),(4,.slice A4 S.length c4),(5,.int .i64 (d:Int)),(6,.slice A6 R.length c6),(7,.slice (some ⟨b30,0,none⟩) (ten fs.length) (ten fs.length)),(8,.int .i64 (i:Int)),(9,.int .i64 (k:Int))]) (fun g=>.row 3 1 g.2.1.1 fs.length g.2.1.2 (ints (sts fs.length m1))::.row 4 1 g.2.2.1 fs.length g.2.2.2 (bools (wbs fs.length m1))::.blk g.1 (.cells #[.slice g.2.1.1 fs.length g.2.1.2,.slice g.2.2.1 fs.length g.2.2.2] 112 (0,0))::.row 112 2 A6 R.length c6 (R.reverse.flatMap (mmc fs.length))::.row 3 1 (some ⟨b30,0,none⟩) (ten fs.length) (ten fs.length) (zis (tabK (ten fs.length) (cods fs.length R.reverse) R.length))::.row 109 1 oA LS.length oc (LS.reverse.map lcell)::.blk b1 (.cells (CA fA fs.length fc kiln dA days.length dc).toArray 25 (0,0))::.row 23 1 A4 S.length c4 (S.reverse.map mcell)::(R.flatMap (mmr fs.length)++(LS.flatMap (lrow fs.length)++S.map mrow))) ?_ ?_
     ·refine jY [] F.follows 24 J [false,false,false,false,false,false,false,false,false,false,false,false,false,false,false,false,false,false,false,false,false,false,false,false] J (zC 0 J J J (qB J F.agg25 F.ti25) (zC 1 J J J (zT J F.fi25_2 F.ti23) (zC 2 J J J (jO J F.one23) (zC 3 J J J (zW J) (zC 4 J J J (qC (j:=d) (show _=some (Value.slice (some ⟨bd,bo,none⟩) days.length dc) from by rw[<-hdA];rfl) J Tryz.underlying23 F.ti3 J hd) (zC 5 J J J (kO (v:=.int .i64 (sg:Int)) J F.one3 (fun a w ha=>ha.old (hcd d _ hsg 0 _ J) hbd)) (zC 6 J J J (zW J) (zC 7 J J J (zW J) (zC 8 J J J (qC (j:=d) (show _=some (Value.slice (some ⟨g3,0,none⟩) LS.length oc) from by rw[<-hg3];rfl) J Tryz.underlying104 F.ti109 J om) (zC 9 J J J (kO (v:=.slice x.1 x.2.2.length x.2.1) J F.one109 (fun a w ha=>vK ha (InR.mem (A:=oA)) hg3 (by rw[show 0+d*1=d from by omega];exact zCd hx))) (zC 10 J J J (zW J) (zC 11 J J J (qC (j:=i) (show _=some (Value.slice (some ⟨gx,0,none⟩) x.2.2.length x.2.1) from by rw[<-hgx];rfl) J Tryz.underlying109 F.ti112 J hi) ?_))))))))))))
      refine zIc 12 J J J kr kr kr sbl (vV (l:=[.slice mA fs.length mc,.slice vA fs.length vc]) J F.agg112 F.ti112 J (fun a w ha j u hu=>by
       obtain⟨b9,o9,h1,_,h3⟩:=(zHh ha (x:=x) (n:=fs.length) (by intro r hr;repeat (first|exact List.mem_append_right _ (List.mem_append_left _ (List.mem_flatMap.2 ⟨x,hxL,hr⟩))|apply List.Mem.tail))).outer (by simp;omega);rw[hgx] at h1
       cases h1
       exact h3 i _ hm j u hu)) J ?_
      refine zC 13 J J J (zW J) (zC 14 J J J (zW J) (zC 15 J J J (qC (j:=k) (show _=some (Value.slice (some ⟨g4,0,none⟩) S.length c4) from by rw[<-hg4];rfl) J Tryz.underlying35 F.ti23 J hk) (zC 16 J J J (kO (v:=.slice s.1 s.2.2.length s.2.1) J F.one23 (fun a w ha=>vK ha (InR.mem (A:=A4)) hg4 (by rw[show 0+k*1=k from by omega];exact zGc hs))) ?_)))
      refine qU 17 21 kr J J J J ?_ ?_
      ·refine kV (X:=(Option Addr×Nat)×(Option Addr×Nat)) (vs:=[_,_,_,_]) (p:=fun _=>True) (val:=fun y=>.tuple #[.agg (mmc fs.length (y.1,y.2,m1)).toArray,.int .i64 0]) (rs:=fun y=>mmr fs.length (y.1,y.2,m1)) J J F.ent77 (fun a w ha=>(zG3 (nd:=days.length) (dA:=dA) (dc:=dc) hc.f3 hc.ff hmok hsn om w (hF.later ha.below) ((zHh ha (x:=x) (n:=fs.length) (by intro r hr;repeat (first|exact List.mem_append_right _ (List.mem_append_left _ (List.mem_flatMap.2 ⟨x,hxL,hr⟩))|apply List.Mem.tail))).inner _ (List.mem_reverse.2 hmx)) (zEh ha (by repeat (first|exact List.mem_append_right _ (List.mem_append_right _ (List.mem_map_of_mem hsS))|apply List.Mem.tail)))).mono (fun e w' h=>by
        rw[hD] at h;rcases h with ⟨_,sA,sc,wA,wc,h1,h2⟩|⟨h0,_⟩
        ·exact⟨((sA,sc),(wA,wc)),trivial,h1,h2⟩
        ·exact absurd J h0)) ?_
       rintro⟨⟨qA,qc⟩,⟨uA,uc⟩⟩ -;dsimp only[mmc,mmr,List.cons_append,List.nil_append];refine zB (anb (zC 18 J J J (zW J) (zC 19 J J J (kT J J) (zC 20 J J J (kT J J) (an1 21 J (zZ J F.ti112 ?_))))));intro b10;exact zB (anb (an1 22 J (zD J J F.ti112 J (zB (anb (zC 23 J J J (kQ J) (adn (jU (b10,(qA,qc),(uA,uc)) trivial sbn pkk))))))))
      ·refine zZ J F.ti112 ?_;intro b10;refine zB (anb (an1 17 J ?_))
       refine kV (X:=(Option Addr×Nat)×(Option Addr×Nat)) (vs:=[_,_,_,_]) (p:=fun _=>True) (val:=fun y=>.tuple #[.agg (mmc fs.length (y.1,y.2,m1)).toArray,.int .i64 0]) (rs:=fun y=>mmr fs.length (y.1,y.2,m1)) J J F.ent77 (fun a w ha=>(zG3 (nd:=days.length) (dA:=dA) (dc:=dc) hc.f3 hc.ff hmok hsn om w (hF.later ha.below) ((zHh ha (x:=x) (n:=fs.length) (by intro r hr;repeat (first|exact List.mem_append_right _ (List.mem_append_left _ (List.mem_flatMap.2 ⟨x,hxL,hr⟩))|apply List.Mem.tail))).inner _ (List.mem_reverse.2 hmx)) (zEh ha (by repeat (first|exact List.mem_append_right _ (List.mem_append_right _ (List.mem_map_of_mem hsS))|apply List.Mem.tail)))).mono (fun e w' h=>by
        rw[hD] at h;rcases h with ⟨_,sA,sc,wA,wc,h1,h2⟩|⟨h0,_⟩
        ·exact⟨((sA,sc),(wA,wc)),trivial,h1,h2⟩
        ·exact absurd J h0)) ?_
       rintro⟨⟨qA,qc⟩,⟨uA,uc⟩⟩ -;dsimp only[mmc,mmr,List.cons_append,List.nil_append];exact zB (anb (zC 18 J J J (zW J) (zC 19 J J J (kT J J) (zC 20 J J J (kT J J) (an1 22 J (zD J J F.ti112 J (zB (anb (zC 23 J J J (kQ J) (adn (jU (b10,(qA,qc),(uA,uc)) trivial sbn pkk)))))))))))
     ·rintro⟨b10,⟨qA,qc⟩,⟨uA,uc⟩⟩ -;(try dsimp only);refine zE (zF ?_)
      have h1ok:MOk m1:=by
       have h:=(wJ (kiln:=kiln) (acts:=s.2.2) (sugar:=sg) hc.ff hmok om hc.f3).1;rw[hD] at h;exact h
      have h1th:=zH8 hc.f3 h1ok hmth hsn hD;have hlt:cdM m1 fs.length<ten fs.length:=zIt h1ok _;have hst:=zJ1 (fs:=fs) (kiln:=kiln) (d:=sg) (m:=mo) hsl;rw[hD,if_pos J] at hst
      rcases zOv (cs:=cods fs.length R.reverse) hlt R.length (by simp[cods]) with ⟨hg,hnew⟩|⟨jj,hj1,hj2,hg⟩
      ·refine zL (zA J J (zG J J J kC (zA J J (zN J J (zA J J (zN J J (zY J J F.agg112 F.ti112 (zN J J (jG (v:=.int .i64 ((cdM m1 fs.length:Nat):Int)) (vs:=[_]) J J F.ent78 (fun a w ha=>zHd hc.f3 h1ok w (zM1 ha (x:=((qA,qc),(uA,uc),m1)) (by intro r hr;simp only[mmr,List.mem_cons,List.not_mem_nil,or_false] at hr;rcases hr with rfl|rfl<;>simp))) (zN J J (kI (j:=cdM m1 fs.length) J J J Tryz.underlying23 F.ti3 J hlt (zN J J (kK (v:=.int .i64 (-1)) J J F.one3 (fun a w ha=>vK ha (InR.mem (A:=some ⟨b30,0,none⟩)) J (by rw[show 0+cdM m1 fs.length*1=cdM m1 fs.length from by omega];unfold zis;rw[List.getElem?_map,hg];rfl)) ?_)))))))))))));refine zN J J (zG J J J jW (jI J J J (lnx (qE J (csr (zA J J (zY J J F.agg112 F.ti112 (jG (v:=.int .i64 ((cdM m1 fs.length:Nat):Int)) (vs:=[_]) J J F.ent78 (fun a w ha=>zHd hc.f3 h1ok w (zM1 ha (x:=((qA,qc),(uA,uc),m1)) (by intro r hr;simp only[mmr,List.mem_cons,List.not_mem_nil,or_false] at hr;rcases hr with rfl|rfl<;>simp))) (zA J J (jQ J J Tryz.underlying109 (kI (j:=cdM m1 fs.length) J J J Tryz.underlying23 F.ti3 J hlt (zAr (A:=some ⟨b30,0,none⟩) (zis (tabK (ten fs.length) (cods fs.length (((qA,qc),(uA,uc),m1)::R).reverse) (R.length+1))) (show _=some (Value.pointer (some ⟨b30,0+cdM m1 fs.length*1,none⟩)) from rfl) J F.ti3 J (by rw[zK9,zFc];omega) (by rw[show 0+cdM m1 fs.length*1=cdM m1 fs.length from by omega,zKu];have h:=zXj (n:=ten fs.length) (cs:=cods fs.length R.reverse) (c:=cdM m1 fs.length);simp only[cods,List.length_map,List.length_reverse] at h ⊢;rw[<-h,List.reverse_cons,List.map_append];rfl) (lnx (zL (zA J J (zY J J F.agg112 F.ti112 (vM (vs:=[(0,.agg ([.slice qA fs.length qc,.slice uA fs.length uc]:List Value).toArray)]) [.slice qA fs.length qc,.slice uA fs.length uc] J J Tryz.underlying109 F.ti112 J J J (Lit.agg (l1:=[.slice qA fs.length qc,.slice uA fs.length uc]) J (rfl)) ?_)))))))))))))))));intro b85;refine jZ J J J Tryz.underlying109 F.ti112 J J J (by unfold maxLen;omega) om ?_;intro A86 c86;refine zH J J (zB (zK (zE (zL (zA J J (zG J J J (fun w=>jJ w (zV _ om om)) (zH J J (zB ?_))))))));have hnm:m1∉R.reverse.map (·.2.2):=fun hm1=>hnew (by rw[List.take_of_length_le (by simp[cods])];exact (zM5 (fun y hy=>hRa _ (List.mem_map_of_mem hy)) h1ok h1th).2 hm1);refine kR (k+1,A86,c86,((qA,qc),(uA,uc),m1)::R) ⟨by (try dsimp only);omega,?_⟩ tdo (by dsimp only;rw[List.length_cons];repeat (first|exact Sub.nil _|refine Sub.cons J ?_)) (by dsimp only;rw[List.length_cons,zYm];simp only[List.flatMap_cons,mmr,mmc,List.cons_append,List.nil_append];repeat (first|exact Pck.nil _|exact Pck.refl _|(apply Pck.cons;focus ((repeat (first|exact Rem.here _|apply Rem.there));done))|refine Pck.skip _ ?_));dsimp only;rw[hst,List.foldl_append,<-hR,zAb];show _=addM _ m1;unfold addM;rw[if_neg hnm]
      ·refine zL (zA J J (zG J J J kC (zA J J (zN J J (zA J J (zN J J (zY J J F.agg112 F.ti112 (zN J J (jG (v:=.int .i64 ((cdM m1 fs.length:Nat):Int)) (vs:=[_]) J J F.ent78 (fun a w ha=>zHd hc.f3 h1ok w (zM1 ha (x:=((qA,qc),(uA,uc),m1)) (by intro r hr;simp only[mmr,List.mem_cons,List.not_mem_nil,or_false] at hr;rcases hr with rfl|rfl<;>simp))) (zN J J (kI (j:=cdM m1 fs.length) J J J Tryz.underlying23 F.ti3 J hlt (zN J J (kK (v:=.int .i64 (jj:Int)) J J F.one3 (fun a w ha=>vK ha (InR.mem (A:=some ⟨b30,0,none⟩)) J (by rw[show 0+cdM m1 fs.length*1=cdM m1 fs.length from by omega];unfold zis;rw[List.getElem?_map,hg];rfl)) ?_)))))))))))));refine zN J J (zG J J J jW ?_)
       refine jI J J J (lnx (zJ J (fun hc3=>?_) (fun hc3=>?_)))
       ·omega
        done
       ·refine zR (zK (zE (zL (zA J J (zG J J J (fun w=>jJ w (zV _ om om)) (zH J J (zB ?_)))))));have hm1:m1∈R.reverse.map (·.2.2):=(zM5 (fun y hy=>hRa _ (List.mem_map_of_mem hy)) h1ok h1th).1 (List.mem_of_getElem? hj2);refine kR (k+1,A6,c6,R) ⟨by (try dsimp only);omega,?_⟩ tdo sbn pkk;dsimp only;rw[hst,List.foldl_append,<-hR];show _=addM _ m1;unfold addM;rw[if_pos hm1]
    ·refine xK (G:=Nat) (fun _=>True) (fun g=>[(10,pt g),(11,.int .i64 ((er+1:Nat):Int)),(1,pt b1),(3,.slice oA LS.length oc),(4,.slice A4 S.length c4),(5,.int .i64 (d:Int)),(6,.slice A6 R.length c6),(7,.slice (some ⟨b30,0,none⟩) (ten fs.length) (ten fs.length)),(8,.int .i64 (i:Int)),(9,.int .i64 (k:Int))]) (fun g=>.blk g (.cells #[.slice none 0 0,.slice none 0 0] 112 (0,0))::.row 112 2 A6 R.length c6 (R.reverse.flatMap (mmc fs.length))::.row 3 1 (some ⟨b30,0,none⟩) (ten fs.length) (ten fs.length) (zis (tabK (ten fs.length) (cods fs.length R.reverse) R.length))::.row 109 1 oA LS.length oc (LS.reverse.map lcell)::.blk b1 (.cells (CA fA fs.length fc kiln dA days.length dc).toArray 25 (0,0))::.row 23 1 A4 S.length c4 (S.reverse.map mcell)::(R.flatMap (mmr fs.length)++(LS.flatMap (lrow fs.length)++S.map mrow))) ?_ ?_
     ·refine jY [] F.follows 24 J [false,false,false,false,false,false,false,false,false,false,false,false,false,false,false,false,false,false,false,false,false,false,false,false] J (zC 0 J J J (qB J F.agg25 F.ti25) (zC 1 J J J (zT J F.fi25_2 F.ti23) (zC 2 J J J (jO J F.one23) (zC 3 J J J (zW J) (zC 4 J J J (qC (j:=d) (show _=some (Value.slice (some ⟨bd,bo,none⟩) days.length dc) from by rw[<-hdA];rfl) J Tryz.underlying23 F.ti3 J hd) (zC 5 J J J (kO (v:=.int .i64 (sg:Int)) J F.one3 (fun a w ha=>ha.old (hcd d _ hsg 0 _ J) hbd)) (zC 6 J J J (zW J) (zC 7 J J J (zW J) (zC 8 J J J (qC (j:=d) (show _=some (Value.slice (some ⟨g3,0,none⟩) LS.length oc) from by rw[<-hg3];rfl) J Tryz.underlying104 F.ti109 J om) (zC 9 J J J (kO (v:=.slice x.1 x.2.2.length x.2.1) J F.one109 (fun a w ha=>vK ha (InR.mem (A:=oA)) hg3 (by rw[show 0+d*1=d from by omega];exact zCd hx))) (zC 10 J J J (zW J) (zC 11 J J J (qC (j:=i) (show _=some (Value.slice (some ⟨gx,0,none⟩) x.2.2.length x.2.1) from by rw[<-hgx];rfl) J Tryz.underlying109 F.ti112 J hi) ?_))))))))))))
      refine zIc 12 J J J kr kr kr sbl (vV (l:=[.slice mA fs.length mc,.slice vA fs.length vc]) J F.agg112 F.ti112 J (fun a w ha j u hu=>by
       obtain⟨b9,o9,h1,_,h3⟩:=(zHh ha (x:=x) (n:=fs.length) (by intro r hr;repeat (first|exact List.mem_append_right _ (List.mem_append_left _ (List.mem_flatMap.2 ⟨x,hxL,hr⟩))|apply List.Mem.tail))).outer (by simp;omega);rw[hgx] at h1
       cases h1
       exact h3 i _ hm j u hu)) J ?_
      refine zC 13 J J J (zW J) (zC 14 J J J (zW J) (zC 15 J J J (qC (j:=k) (show _=some (Value.slice (some ⟨g4,0,none⟩) S.length c4) from by rw[<-hg4];rfl) J Tryz.underlying35 F.ti23 J hk) (zC 16 J J J (kO (v:=.slice s.1 s.2.2.length s.2.1) J F.one23 (fun a w ha=>vK ha (InR.mem (A:=A4)) hg4 (by rw[show 0+k*1=k from by omega];exact zGc hs))) ?_)))
      refine qU 17 21 kr J J J J ?_ ?_
      ·refine jG (v:=.tuple #[.agg ([.slice none 0 0,.slice none 0 0]:List Value).toArray,.int .i64 ((er+1:Nat):Int)]) (vs:=[_,_,_,_]) J J F.ent77 (fun a w ha=>(zG3 (nd:=days.length) (dA:=dA) (dc:=dc) hc.f3 hc.ff hmok hsn om w (hF.later ha.below) ((zHh ha (x:=x) (n:=fs.length) (by intro r hr;repeat (first|exact List.mem_append_right _ (List.mem_append_left _ (List.mem_flatMap.2 ⟨x,hxL,hr⟩))|apply List.Mem.tail))).inner _ (List.mem_reverse.2 hmx)) (zEh ha (by repeat (first|exact List.mem_append_right _ (List.mem_append_right _ (List.mem_map_of_mem hsS))|apply List.Mem.tail)))).mono (fun e w' h=>by
        rw[hD] at h;rcases h with ⟨h0,_⟩|⟨_,h1,h2⟩
        ·exact absurd h0 (Nat.succ_ne_zero er)
        ·exact⟨h1,h2⟩)) ?_
       refine zB (anb (zC 18 J J J (zW J) (zC 19 J J J (kT J J) (zC 20 J J J (kT J J) (an1 21 J (zZ J F.ti112 ?_))))));intro b10;exact zB (anb (an1 22 J (zD J J F.ti112 J (zB (anb (zC 23 J J J (kQ J) (adn (jU b10 trivial sbn pkk))))))))
      ·refine zZ J F.ti112 ?_;intro b10;refine zB (anb (an1 17 J ?_))
       refine jG (v:=.tuple #[.agg ([.slice none 0 0,.slice none 0 0]:List Value).toArray,.int .i64 ((er+1:Nat):Int)]) (vs:=[_,_,_,_]) J J F.ent77 (fun a w ha=>(zG3 (nd:=days.length) (dA:=dA) (dc:=dc) hc.f3 hc.ff hmok hsn om w (hF.later ha.below) ((zHh ha (x:=x) (n:=fs.length) (by intro r hr;repeat (first|exact List.mem_append_right _ (List.mem_append_left _ (List.mem_flatMap.2 ⟨x,hxL,hr⟩))|apply List.Mem.tail))).inner _ (List.mem_reverse.2 hmx)) (zEh ha (by repeat (first|exact List.mem_append_right _ (List.mem_append_right _ (List.mem_map_of_mem hsS))|apply List.Mem.tail)))).mono (fun e w' h=>by
        rw[hD] at h;rcases h with ⟨h0,_⟩|⟨_,h1,h2⟩
        ·exact absurd h0 (Nat.succ_ne_zero er)
        ·exact⟨h1,h2⟩)) ?_
       exact zB (anb (zC 18 J J J (zW J) (zC 19 J J J (kT J J) (zC 20 J J J (kT J J) (an1 22 J (zD J J F.ti112 J (zB (anb (zC 23 J J J (kQ J) (adn (jU b10 trivial sbn pkk)))))))))))
     ·rintro b10 -;(try dsimp only);refine zE (csr (zA J J (zG J J J kC (zA J J (zX J J J (zX J J J (zX J J J (zX J J J (zX J J J (zX J J J (jS J J J (lnx (kL J (zR (zK (zE (zL (zA J J (zG J J J (fun w=>jJ w (zV _ om om)) (zH J J (zB ?_)))))))))))))))))))));have hst:=zJ1 (fs:=fs) (kiln:=kiln) (d:=sg) (m:=mo) hsl;rw[hD,if_neg (Nat.succ_ne_zero er),List.append_nil] at hst;refine kR (k+1,A6,c6,R) ⟨by (try dsimp only);omega,by dsimp only;rw[hst,hR]⟩ tdo sbn pkk
   ·obtain rfl:k=S.length:=om;rw[List.take_of_length_le (by rw[wQ,hSl];exact Nat.le_refl _),<-zUl hml] at hR;refine jT (zM (zM (jF (zK (zE (zL (zA J J (zG J J J (fun w=>jJ w (zV _ om om)) (zH J J (zB (kR (i+1,A6,c6,R) ⟨by (try dsimp only);omega,hR⟩ tdo sbn pkk)))))))))))
  ·obtain rfl:i=x.2.2.length:=om;rw[<-zAw x,zYp,hxm] at hR;refine jT (zM (zM (jF (zE (zL (zA J J (zA J J (jV (vs:=[(0,_)]) J J U104 F.ti109 J J J ?_))))))));intro b89;refine jZ J J J Tryz.underlying104 F.ti109 J J J (by unfold maxLen;omega) om ?_;intro A90 c90;refine zH J J (zB (zK (zE (zL (zA J J (zG J J J (fun w=>jJ w (zV _ om om)) (zH J J (zB (kR (d+1,A90,c90,(A6,c6,R)::LS) ⟨by (try dsimp only);omega,?_⟩ tdo (by dsimp only;rw[List.length_cons];repeat (first|exact Sub.nil _|refine Sub.cons J ?_)) (by dsimp only;rw[List.length_cons,zAb,List.flatMap_cons,List.append_assoc];simp only[lrow,lcell,List.cons_append];repeat (first|exact Pck.nil _|exact Pck.refl _|(apply Pck.cons;focus ((repeat (first|exact Rem.here _|apply Rem.there));done))|refine Pck.skip _ ?_)))))))))));dsimp only;rw[zAb,hLS,zKa (k:=d+1),show lmor (A6,c6,R)=_ from hR]
   congr 2
   rw[List.take_add_one,hsg];exact zT9.symm
 ·obtain rfl:d=days.length:=om;exact jT (zM (zM (jF (zE (csr (zA J J (lax J J (zS (jB J (fun a w ha=>jL J J ha) (fun a w ha=>⟨oA,oc,LS,hLS,rfl,ha.grown (.cons_cons _ (.cons _ (.cons _ (List.sublist_append_left _ _))))⟩))))))))))

end
section
variable {A:Option Addr} {w:World}
theorem zN3 {n hi:Int} (h:szd n 1 hi=0):1<=n∧n<=hi:=by
 unfold szd at h
 split at h
 ·omega
 ·split at h<;>omega
theorem zT8 {f:FltZ} (h:chkF f=0):∃g:Flt,FltOk g∧g.toZ=f:=by
 obtain⟨p,g,n,wd⟩:=f;unfold chkF btw at h
 split at h
 ·rename_i h1;simp only[Bool.and_eq_true,decide_eq_true_eq] at h1;obtain⟨⟨⟨a1,a2⟩,a3,a4⟩,a5,a6⟩:=h1;refine⟨⟨p.toNat,g.toNat,n.toNat,wd⟩,⟨by dsimp only;omega,by dsimp only;omega,by dsimp only;omega,by dsimp only;omega⟩,?_⟩;unfold Flt.toZ;dsimp only;rw[Int.toNat_of_nonneg om,Int.toNat_of_nonneg om,Int.toNat_of_nonneg om]
 ·cases h
theorem zNh:∀(l:List FltZ),(∀f∈l,chkF f=0)->∃m:List Flt,(∀f∈m,FltOk f)∧m.map Flt.toZ=l
 | [],_=>⟨[],fun _ h=>(nomatch h),rfl⟩
 | f::l,h=>by
  obtain⟨g,hg,rfl⟩:=zT8 (h f (List.mem_cons_self ..));obtain⟨m,hm,rfl⟩:=zNh l fun x hx=>h x (List.mem_cons_of_mem _ hx);refine⟨g::m,fun x hx=>?_,rfl⟩
  rcases List.mem_cons.1 hx with rfl|hx
  ·exact hg
  ·exact hm x hx
theorem zOd {hi:Nat}:∀(l:List Int),(∀n∈l,btw n 0 hi=true)->∃m:List Nat,(∀n∈m,n<=hi)∧toZs m=l
 | [],_=>⟨[],fun _ h=>(nomatch h),rfl⟩
 | n::l,h=>by
  have h0:=h n (List.mem_cons_self ..);unfold btw at h0;simp only[Bool.and_eq_true,decide_eq_true_eq] at h0;obtain⟨m,hm,rfl⟩:=zOd l fun x hx=>h x (List.mem_cons_of_mem _ hx)
  refine⟨n.toNat::m,fun x hx=>?_,?_⟩
  ·rcases List.mem_cons.1 hx with rfl|hx
   ·omega
   ·exact hm x hx
  ·show ((n.toNat:Nat):Int)::toZs m=_;rw[Int.toNat_of_nonneg h0.1]
theorem zDo {fz:List FltZ} {kz:Int} {dz:List Int} (h:chk fz kz dz=0):∃fs kiln days,ChV fs kiln days∧fs.map Flt.toZ=fz∧((kiln:Nat):Int)=kz∧toZs days=dz:=by
 unfold chk at h
 split at h
 ·rename_i h1;exact absurd h h1
 rename_i h1
 split at h
 ·cases h
 rename_i h2
 split at h
 ·cases h
 rename_i h3
 split at h
 ·rename_i h4;exact absurd h h4
 rename_i h4
 split at h
 ·cases h
 rename_i h5;obtain⟨a1,a2⟩:=zN3 (Decidable.not_not.1 h1);obtain⟨b1,b2⟩:=zN3 (Decidable.not_not.1 h4)
 obtain⟨fs,hf,rfl⟩:=zNh fz fun f hf=>by
  rcases Nat.eq_zero_or_pos (chkF f) with h|h
  ·exact h
  ·exact absurd (List.any_eq_true.2 ⟨f,hf,by simp;omega⟩) h2
 obtain⟨days,hd,rfl⟩:=zOd (hi:=12) dz fun n hn=>by
  cases hb:btw n 0 12 with
  | true=>rfl
  | false=>exact absurd (List.any_eq_true.2 ⟨n,hn,by rw[hb];rfl⟩) h5
 have hk:0<=kz∧kz<=3:=by
  cases hb:btw kz 0 3 with
  | false=>exact absurd hb h3
  | true =>
   unfold btw at hb;simpa using hb
 rw[List.length_map] at a1 a2;have e:(toZs days).length=days.length:=by unfold toZs;rw[List.length_map]
 rw[e] at b1 b2;exact⟨fs,kz.toNat,days,⟨by omega,by omega,hf,by omega,by omega,by omega,hd⟩,rfl,Int.toNat_of_nonneg hk.1,rfl⟩
theorem RdL.unmapped {α β:Type} {cells:β->List Value} {cl:α->List Value} {size:Nat} {l:List α} (f:α->β) (h:RdL cells size w A (l.map f)) (hc:∀x,cells (f x)=cl x):RdL cl size w A l:=fun hl=>by
 obtain⟨b,o,h1,h2,h3⟩:=h (by simpa using hl);refine⟨b,o,h1,h2,fun k x hk j u hu=>h3 k (f x) (by rw[List.getElem?_map,hk];rfl) j u (by rw[hc];exact hu)⟩
theorem zI9 {fs:List Flt} (h:RdL FltZ.cells 4 w A (fs.map Flt.toZ)):RdL Flt.cells 4 w A fs:=RdL.unmapped Flt.toZ h fun _=>rfl
theorem zJc {days:List Nat} (h:RdL zcell 1 w A (toZs days)):RdL ncell 1 w A days:=RdL.unmapped (fun (n:Nat)=>(n:Int)) h fun _=>rfl
theorem vN (l:List Nat):(toZs l).length=l.length:=List.length_map ..
end
section
theorem zVu {fs:List Flt} {kiln:Nat} {days:List Nat}:(bstA fs kiln days).is=true↔0<(lvlL fs kiln days).length:=by
 rw[zZz]
 constructor
 ·rintro⟨x,hx⟩;exact List.length_pos_of_mem (jEg.2 hx)
 ·intro h;obtain⟨x,hx⟩:=List.exists_mem_of_length_pos h;exact⟨x,jEg.1 hx⟩
def FailsQ (fs:List Flt) (kiln:Nat) (days:List Nat) (n e:Nat):Prop:=∃d,d<=days.length∧(∀j,j<d->(bstA fs kiln (days.take (j+1))).is=true)∧(d<days.length->(bstA fs kiln (days.take (d+1))).is=false)∧n=(if d<days.length then d else 0)∧e=(if d<days.length then 0 else 11)
def RawP {α:Type} (P:List Flt->Nat->List Nat->α->Prop) (err:Nat->α) (fz:List FltZ) (kz:Int) (dz:List Int) (x:α):Prop :=
 (chk fz kz dz≠0∧x=err (chk fz kz dz))∨∃fs kiln days,ChV fs kiln days∧fs.map Flt.toZ=fz∧((kiln:Nat):Int)=kz∧toZs days=dz∧P fs kiln days x
theorem zRr:∀{l m:List Flt},l.map Flt.toZ=m.map Flt.toZ->l=m
 | [],[],_=>rfl
 | [],_::_,h=>nomatch h
 | _::_,[],h=>nomatch h
 | x::l,y::m,h=>by
  rw[List.map_cons,List.map_cons] at h;injection h with h1 h2;rw[zRr h2]
  congr 1
  obtain⟨a,b,c,d⟩:=x;obtain⟨a',b',c',d'⟩:=y;unfold Flt.toZ at h1;injection h1 with e1 e2 e3 e4;dsimp only at e1 e2 e3 e4;rw[Int.ofNat_inj.1 e1,Int.ofNat_inj.1 e2,Int.ofNat_inj.1 e3,e4]
theorem zOb:∀{l m:List Nat},toZs l=toZs m->l=m
 | [],[],_=>rfl
 | [],_::_,h=>nomatch h
 | _::_,[],h=>nomatch h
 | x::l,y::m,h=>by
  unfold toZs at h;rw[List.map_cons,List.map_cons] at h;injection h with h1 h2;rw[zOb (l:=l) (m:=m) h2,Int.ofNat_inj.1 h1]
theorem RawP.uniq {α:Type} {P:List Flt->Nat->List Nat->α->Prop} {err:Nat->α} {fz:List FltZ} {kz:Int} {dz:List Int} {x y:α} (hP:∀fs kiln days,ChV fs kiln days->P fs kiln days x->P fs kiln days y->x=y) (h:RawP P err fz kz dz x) (h':RawP P err fz kz dz y):x=y:=by
 rcases h with ⟨h1,h2⟩|⟨fs,kiln,days,hc,h1,h2,h3,h4⟩<;>rcases h' with ⟨h1',h2'⟩|⟨fs',kiln',days',hc',h1',h2',h3',h4'⟩
 ·rw[h2,h2']
 ·subst h1' h2' h3';exact absurd (chk0 hc') h1
 ·subst h1 h2 h3;exact absurd (chk0 hc) h1'
 ·subst h1 h2 h3;obtain rfl:=zRr h1';obtain rfl:=zOb h3';obtain rfl:=Int.ofNat_inj.1 h2';exact hP _ _ _ hc h4 h4'
end
section
variable [I:Sys]
theorem F.ent73:Enters Tryz.prog 73:=jD Tryz.func73 rfl kr
variable {dA fA:Option Addr} {days:List Nat} {dc fc kiln:Nat} {fs:List Flt}
theorem F.ent34:Enters Tryz.prog 34:=jD Tryz.func34 rfl kr
theorem jEe (hc:ChV fs kiln days) (w:World) (hF:RdL Flt.cells 4 w fA fs) (hD:RdL ncell 1 w dA days):Calls Tryz.prog 38 #[.agg (CA fA fs.length fc kiln dA days.length dc).toArray] w fun e w'=>(∃n er:Nat,FailsQ fs kiln days n er∧e=.returned (.tuple #[.int .i64 (n:Int),.int .i64 (er:Int)]))∧Grew w w' []:=by
 refine enter (N:=29) [(0,.agg (CA fA fs.length fc kiln dA days.length dc).toArray)] Tryz.func38 J Tryz.ntmps38 J J (csr (jN J J ?_));intro b1;refine zH J J (lax J J (zF (csr (zY J J F.agg25 F.ti25 ?_))))
 refine jG (v:=.int .i64 0) (vs:=[_]) J J F.ent34 (fun a w ha=>by
  have h:=zDj (fA:=fA) (dA:=dA) (fc:=fc) (dc:=dc) (fs:=fs.map Flt.toZ) (kiln:=(kiln:Int)) (days:=toZs days) (by have:=hc.f3;simp;omega) (by have:=hc.d4;simp[toZs];omega) w (RdL.mapped Flt.toZ (hF.later ha.below) (fun _=>rfl)) (RdL.mapped (fun (n:Nat)=>(n:Int)) (hD.later ha.below) (fun _=>rfl));rw[chk0 hc] at h
  simpa[toZs] using h) ?_
 refine lax J J (csr (zA J J (zG J J J kZ ?_)))
 refine lnx (zJ J (fun hc0=>?_) (fun hc0=>?_))
 ·exact absurd J hc0
  done
 ·refine zR (zE (csr (zY J J F.agg25 F.ti25 (kV (X:=Option Addr×Nat×List LZ) (vs:=[_]) (p:=fun y=>y.2.2.reverse.map lmor=(List.range (days.length+1)).map (fun i=>lvlL fs kiln (days.take i))) (val:=fun y=>.slice y.1 y.2.2.length y.2.1) (rs:=fun y=>.row 109 1 y.1 y.2.2.length y.2.1 (y.2.2.reverse.map lcell)::y.2.2.flatMap (lrow fs.length)) J J F.ent73 (fun a w ha=>(zM7 hc.w w (hF.later ha.below) (hD.later ha.below)).mono (fun e w' h=>by obtain⟨A',c',L',h1,h2,h3⟩:=h;exact⟨(A',c',L'),h1,h2,h3⟩)) ?_))));rintro⟨oA,oc,LS⟩ hLS;dsimp only at hLS ⊢;have hLl:LS.length=days.length+1:=by have h:=congrArg List.length hLS;simpa using h
  refine zCv (List.Perm.cons _ List.perm_append_comm) ?_;simp only[List.cons_append,List.nil_append];refine wB oA om ?_;intro g3 hg3;have hd4:=hc.d4;refine lax J J (zF (csr (lax J J (zU (qW (G:=Nat) (fun d=>d<=days.length∧∀j,j<d->(bstA fs kiln (days.take (j+1))).is=true) (fun d=>days.length-d) (fun d=>[(1,pt b1),(5,.slice oA LS.length oc),(6,.int .i64 (d:Int))]) (fun d=>.row 109 1 oA LS.length oc (LS.reverse.map lcell)::.blk b1 (.cells (CA fA fs.length fc kiln dA days.length dc).toArray 25 (0,0))::LS.flatMap (lrow fs.length)) 0 ⟨Nat.zero_le _,fun j hj=>absurd hj (Nat.not_lt_zero _)⟩ sbn sbl ?_)))));rintro d ⟨hd0,hall⟩;dsimp only;refine zF (csr (zA J J (zI J J F.fi25_2 F.ti23 (zP J J F.one23 (jQ J J U23 (zG J J J jW ?_))))))
  refine lnx (zJ J (fun hc1=>?_) (fun hc1=>?_))
  ·have hd:d<days.length:=om;obtain⟨x,hx⟩:∃y,LS.reverse[d+1]?=some y:=⟨_,List.getElem?_eq_getElem (by simp;omega)⟩;have hxL:x∈LS:=List.mem_reverse.1 (List.mem_of_getElem? hx)
   have hxm:lmor x=lvlL fs kiln (days.take (d+1)):=by
    have h:=yS hLS hx;rw[List.getElem?_map,List.getElem?_range om] at h;injection h with h;exact h.symm
   have hxok:∀m∈x.2.2,MOk m.2.2∧Thin fs.length m.2.2:=fun m hm=>by
    have h:m.2.2∈lvlL fs kiln (days.take (d+1)):=hxm▸List.mem_map_of_mem (List.mem_reverse.2 hm);exact⟨(jEg.1 h).ok hc.f3 hc.ff _ _,(jEg.1 h).thin hc.f3 hc.ff _ _⟩
   have hxn:x.2.2.length<=1000:=by
    rw[<-zAw,hxm];exact zEi (zE7 _) fun m hm=>(jEg.1 hm).ok hc.f3 hc.ff _ _
   refine zR (zE (zF (zU (csr (zA J J (zA J J (zG J J J (fun w=>jJ w (zV _ om om)) (kI (j:=d+1) J (show _=some (Value.slice (some ⟨g3,0,none⟩) LS.length oc) from by rw[<-hg3];rfl) J Tryz.underlying104 F.ti109 om om (kK (v:=.slice x.1 x.2.2.length x.2.1) J J F.one109 (fun a w ha=>vK ha (InR.mem (A:=oA)) hg3 (by rw[show 0+(d+1)*1=(d+1) from by omega];exact zCd hx)) (jQ J J Tryz.underlying109 (zG J J J kC ?_)))))))))))
   refine lnx (zJ J (fun hc2=>?_) (fun hc2=>?_))
   ·refine csr (zA J J (zH J J (lax J J (zS (jM (zO (zO (jM (zO ?_)))))))))
    exact jB J (fun a w ha=>qP J J J ha) (fun a w ha=>⟨⟨d,0,⟨d,hd0,hall,fun _=>by
     cases hb:(bstA fs kiln (days.take (d+1))).is with
     | false=>rfl
     | true =>
      have h:=zVu.1 hb;rw[<-hxm,zAw] at h
      omega,(if_pos hd).symm,(if_pos hd).symm⟩,rfl⟩,ha.grown nsl⟩)
   ·refine zR (zK (zE (zL (zA J J (zG J J J (fun w=>jJ w (zV _ om om)) (zH J J (zB (qF (d+1) ⟨by omega,fun j hj=>?_⟩ tdo sbn sbl))))))))
    rcases Nat.lt_or_ge j d with h|h
    ·exact hall j h
    ·obtain rfl:d=j:=om;rw[zVu,<-hxm,zAw];omega
  ·obtain rfl:d=days.length:=om;exact jT (zM (zM (jF (zE (csr (zH J J (lax J J (zS (jB J (fun a w ha=>qP J J J ha) (fun a w ha=>⟨⟨0,11,⟨days.length,Nat.le_refl _,hall,fun h=>absurd h (Nat.lt_irrefl _),(if_neg (Nat.lt_irrefl _)).symm,(if_neg (Nat.lt_irrefl _)).symm⟩,rfl⟩,ha.grown nsl⟩))))))))))

theorem zJl (hc:ChW fs kiln days) (w:World) (hF:RdL Flt.cells 4 w fA fs) (hD:RdL ncell 1 w dA days):Calls Tryz.prog 88 #[.agg (CA fA fs.length fc kiln dA days.length dc).toArray] w fun e w'=>e=.returned (.bool (bstA fs kiln days).is)∧Grew w w' []:=by
 refine enter (N:=12) [(0,.agg (CA fA fs.length fc kiln dA days.length dc).toArray)] Tryz.func88 J Tryz.ntmps88 J J (csr (jN J J ?_));intro b1;refine lax J J (zF (jY [] F.follows 10 J [false,false,false,false,false,false,false,false,false,false] J (zC 0 J J J (qB J F.agg25 F.ti25) (zC 2 J J J (zT J F.fi25_2 F.ti23) (zC 3 J J J (jO J F.one23) (zC 4 J J J (wG J U23) (an1 1 J (kV (X:=Option Addr×Nat×List LZ) (vs:=[_]) (p:=fun y=>y.2.2.reverse.map lmor=(List.range (days.length+1)).map (fun i=>lvlL fs kiln (days.take i))) (val:=fun y=>.slice y.1 y.2.2.length y.2.1) (rs:=fun y=>.row 109 1 y.1 y.2.2.length y.2.1 (y.2.2.reverse.map lcell)::y.2.2.flatMap (lrow fs.length)) J J F.ent73 (fun a w ha=>(zM7 hc w (hF.later ha.below) (hD.later ha.below)).mono (fun e w' h=>by obtain⟨A',c',L',h1,h2,h3⟩:=h;exact⟨(A',c',L'),h1,h2,h3⟩)) ?_))))))));rintro⟨oA,oc,LS⟩ hLS;dsimp only at hLS ⊢;have hLl:LS.length=days.length+1:=by have h:=congrArg List.length hLS;simpa using h
 refine zCv (List.Perm.cons _ List.perm_append_comm) ?_;simp only[List.cons_append,List.nil_append];refine wB oA om ?_;intro g3 hg3;obtain⟨x,hx⟩:∃y,LS.reverse[days.length]?=some y:=⟨_,List.getElem?_eq_getElem (by simp;omega)⟩;have hxL:x∈LS:=List.mem_reverse.1 (List.mem_of_getElem? hx)
 have hxm:lmor x=lvlL fs kiln (days.take (days.length)):=by
  have h:=yS hLS hx;rw[List.getElem?_map,List.getElem?_range om] at h;injection h with h;exact h.symm
 have hxok:∀m∈x.2.2,MOk m.2.2∧Thin fs.length m.2.2:=fun m hm=>by
  have h:m.2.2∈lvlL fs kiln (days.take (days.length)):=hxm▸List.mem_map_of_mem (List.mem_reverse.2 hm);exact⟨(jEg.1 h).ok hc.f3 hc.ff _ _,(jEg.1 h).thin hc.f3 hc.ff _ _⟩
 have hxn:x.2.2.length<=1000:=by
  rw[<-zAw,hxm];exact zEi (zE7 _) fun m hm=>(jEg.1 hm).ok hc.f3 hc.ff _ _
 rw[List.take_length] at hxm;refine zB (anb (an1 5 J (kI (j:=days.length) J (show _=some (Value.slice (some ⟨g3,0,none⟩) LS.length oc) from by rw[<-hg3];rfl) J Tryz.underlying104 F.ti109 om om (zB (anb (an1 6 J (kK (v:=.slice x.1 x.2.2.length x.2.1) J J F.one109 (fun a w ha=>vK ha (InR.mem (A:=oA)) hg3 (by rw[show 0+(days.length)*1=(days.length) from by omega];exact zCd hx)) (zB (anb (zC 7 J J J (wG J Tryz.underlying109) (zC 8 J J J (qN J J vX) (zC 9 J J J (kQ J) (adn (zE (zS ?_)))))))))))))))
 exact jB J (fun a w ha=>jL J J ha) (fun a w ha=>⟨by
  refine congrArg (fun b=>Ending.returned (.bool b)) ?_;rw[Bool.eq_iff_iff,zVu,<-hxm,zAw,decide_eq_true_iff]
  omega,ha.grown nsl⟩)

end
section
variable [I:Sys]
variable {dA fA:Option Addr} {days:List Nat} {dc fc kiln:Nat} {dz:List Int} {fs:List Flt} {fz:List FltZ} {kz:Int}
theorem F.ent88:Enters Tryz.prog 88:=jD Tryz.func88 rfl kr
theorem F.ent89:Enters Tryz.prog 89:=jD Tryz.func89 rfl kr
theorem jEh (hfl:fz.length<1000000) (hdl:dz.length<1000000) (hk:chk fz kz dz≠0) (w:World) (hF:RdL FltZ.cells 4 w fA fz) (hD:RdL zcell 1 w dA dz):Calls Tryz.prog 37 #[.agg #[.slice fA fz.length fc,.int .i64 kz,.slice dA dz.length dc]] w fun e w'=>e=.returned (.tuple #[.int .i64 0,.int .i64 ((chk fz kz dz:Nat):Int)])∧Grew w w' []:=by
 refine enter (N:=31) [(0,.agg #[.slice fA fz.length fc,.int .i64 kz,.slice dA dz.length dc])] Tryz.func37 J Tryz.ntmps37 J J (csr (jN J J ?_));intro b1;refine zH J J (lax J J (zF (csr (zY J J F.agg25 F.ti25 (jG (v:=.int .i64 ((chk fz kz dz:Nat):Int)) (vs:=[_]) J J F.ent33 (fun a w ha=>wH hfl hdl w (hF.later ha.below) (hD.later ha.below)) (lax J J (csr (zA J J (zG J J J kZ ?_)))))))))
 refine lnx (zJ J (fun hc0=>?_) (fun hc0=>?_))
 ·exact csr (zA J J (zH J J (lax J J (zS (zO (jB J (fun a w ha=>qP J J J ha) (fun a w ha=>⟨rfl,ha.grown nsl⟩)))))))
 ·exfalso;omega
  done

theorem zWs (hfl:fz.length<1000000) (hdl:dz.length<1000000) (hk:chk fz kz dz≠0) (w:World) (hF:RdL FltZ.cells 4 w fA fz) (hD:RdL zcell 1 w dA dz):Calls Tryz.prog 41 #[.agg #[.slice fA fz.length fc,.int .i64 kz,.slice dA dz.length dc]] w fun e w'=>e=.returned (.tuple #[.slice none 0 0,.int .i64 ((chk fz kz dz:Nat):Int)])∧Grew w w' []:=by
 refine enter (N:=42) [(0,.agg #[.slice fA fz.length fc,.int .i64 kz,.slice dA dz.length dc])] Tryz.func41 J Tryz.ntmps41 J J (csr (jN J J ?_));intro b1;refine zH J J (lax J J (zF (csr (zY J J F.agg25 F.ti25 (jG (v:=.int .i64 ((chk fz kz dz:Nat):Int)) (vs:=[_]) J J F.ent33 (fun a w ha=>wH hfl hdl w (hF.later ha.below) (hD.later ha.below)) (lax J J (csr (zA J J (zG J J J kZ ?_)))))))))
 refine lnx (zJ J (fun hc0=>?_) (fun hc0=>?_))
 ·exact csr (zA J J (zH J J (lax J J (zS (zO (jB J (fun a w ha=>qP J J J ha) (fun a w ha=>⟨rfl,ha.grown nsl⟩)))))))
 ·exfalso;omega
  done

theorem zUd (hfl:fz.length<1000000) (hdl:dz.length<1000000) (hk:chk fz kz dz≠0) (w:World) (hF:RdL FltZ.cells 4 w fA fz) (hD:RdL zcell 1 w dA dz):Calls Tryz.prog 42 #[.agg #[.slice fA fz.length fc,.int .i64 kz,.slice dA dz.length dc]] w fun e w'=>e=.returned (.tuple #[.slice none 0 0,.int .i64 ((chk fz kz dz:Nat):Int)])∧Grew w w' []:=by
 refine enter (N:=32) [(0,.agg #[.slice fA fz.length fc,.int .i64 kz,.slice dA dz.length dc])] Tryz.func42 J Tryz.ntmps42 J J (csr (jN J J ?_));intro b1;refine zH J J (lax J J (zF (csr (zY J J F.agg25 F.ti25 (jG (v:=.int .i64 ((chk fz kz dz:Nat):Int)) (vs:=[_]) J J F.ent34 (fun a w ha=>zDj hfl hdl w (hF.later ha.below) (hD.later ha.below)) (lax J J (csr (zA J J (zG J J J kZ ?_)))))))))
 refine lnx (zJ J (fun hc0=>?_) (fun hc0=>?_))
 ·exact csr (zA J J (zH J J (lax J J (zS (zO (jB J (fun a w ha=>qP J J J ha) (fun a w ha=>⟨rfl,ha.grown nsl⟩)))))))
 ·exfalso;omega
  done

theorem jDb (hfl:fz.length<1000000) (hdl:dz.length<1000000) (hk:chk fz kz dz≠0) (w:World) (hF:RdL FltZ.cells 4 w fA fz) (hD:RdL zcell 1 w dA dz):Calls Tryz.prog 43 #[.agg #[.slice fA fz.length fc,.int .i64 kz,.slice dA dz.length dc]] w fun e w'=>e=.returned (.tuple #[.int .i64 0,.int .i64 ((chk fz kz dz:Nat):Int)])∧Grew w w' []:=by
 refine enter (N:=20) [(0,.agg #[.slice fA fz.length fc,.int .i64 kz,.slice dA dz.length dc])] Tryz.func43 J Tryz.ntmps43 J J (csr (jN J J ?_));intro b1;refine zH J J (lax J J (zF (csr (zY J J F.agg25 F.ti25 (jG (v:=.int .i64 ((chk fz kz dz:Nat):Int)) (vs:=[_]) J J F.ent33 (fun a w ha=>wH hfl hdl w (hF.later ha.below) (hD.later ha.below)) (lax J J (csr (zA J J (zG J J J kZ ?_)))))))))
 refine lnx (zJ J (fun hc0=>?_) (fun hc0=>?_))
 ·exact csr (zA J J (zH J J (lax J J (zS (zO (jB J (fun a w ha=>qP J J J ha) (fun a w ha=>⟨rfl,ha.grown nsl⟩)))))))
 ·exfalso;omega
  done

theorem zZr (hfl:fz.length<1000000) (hdl:dz.length<1000000) (hk:chk fz kz dz≠0) (w:World) (hF:RdL FltZ.cells 4 w fA fz) (hD:RdL zcell 1 w dA dz):Calls Tryz.prog 44 #[.agg #[.slice fA fz.length fc,.int .i64 kz,.slice dA dz.length dc]] w fun e w'=>e=.returned (.tuple #[.int .i64 0,.int .i64 ((chk fz kz dz:Nat):Int)])∧Grew w w' []:=by
 refine enter (N:=20) [(0,.agg #[.slice fA fz.length fc,.int .i64 kz,.slice dA dz.length dc])] Tryz.func44 J Tryz.ntmps44 J J (csr (jN J J ?_));intro b1;refine zH J J (lax J J (zF (csr (zY J J F.agg25 F.ti25 (jG (v:=.int .i64 ((chk fz kz dz:Nat):Int)) (vs:=[_]) J J F.ent34 (fun a w ha=>zDj hfl hdl w (hF.later ha.below) (hD.later ha.below)) (lax J J (csr (zA J J (zG J J J kZ ?_)))))))))
 refine lnx (zJ J (fun hc0=>?_) (fun hc0=>?_))
 ·exact csr (zA J J (zH J J (lax J J (zS (zO (jB J (fun a w ha=>qP J J J ha) (fun a w ha=>⟨rfl,ha.grown nsl⟩)))))))
 ·exfalso;omega
  done

theorem jA5 (hc:ChV fs kiln days) (w:World) (hF:RdL Flt.cells 4 w fA fs) (hD:RdL ncell 1 w dA days):Calls Tryz.prog 44 #[.agg (CA fA fs.length fc kiln dA days.length dc).toArray] w fun e w'=>e=.returned (.tuple #[.int .i64 ((optN (klnN fs days 4):Nat):Int),.int .i64 ((optE (klnN fs days 4):Nat):Int)])∧Grew w w' []:=by
 refine enter (N:=20) [(0,.agg (CA fA fs.length fc kiln dA days.length dc).toArray)] Tryz.func44 J Tryz.ntmps44 J J (csr (jN J J ?_));intro b1;refine zH J J (lax J J (zF (csr (zY J J F.agg25 F.ti25 ?_))))
 refine jG (v:=.int .i64 0) (vs:=[_]) J J F.ent34 (fun a w ha=>by
  have h:=zDj (fA:=fA) (dA:=dA) (fc:=fc) (dc:=dc) (fs:=fs.map Flt.toZ) (kiln:=(kiln:Int)) (days:=toZs days) (by have:=hc.f3;simp;omega) (by have:=hc.d4;simp[toZs];omega) w (RdL.mapped Flt.toZ (hF.later ha.below) (fun _=>rfl)) (RdL.mapped (fun (n:Nat)=>(n:Int)) (hD.later ha.below) (fun _=>rfl));rw[chk0 hc] at h
  simpa[toZs] using h) ?_
 refine lax J J (csr (zA J J (zG J J J kZ ?_)))
 refine lnx (zJ J (fun hc0=>?_) (fun hc0=>?_))
 ·exact absurd J hc0
  done
 ·refine zR (zE (zF (csr (lax J J (zU (xC (G:=Nat×Nat) (fun g=>g.1<=4∧klnN fs days g.1=none) (fun g=>4-g.1) (fun g=>[(1,pt b1),(5,.int .i64 (g.1:Int))]) (fun g=>[.blk b1 (.cells #[.slice fA fs.length fc,.int .i64 (g.2:Int),.slice dA days.length dc] 25 (0,0))]) (0,kiln) ⟨Nat.zero_le _,rfl⟩ sbn pkk ?_))))));rintro⟨k,kx⟩ ⟨hk,hkn⟩;dsimp only at hk hkn ⊢;refine zF (csr (zA J J (zG J J J zEt ?_)))
  refine lnx (zJ J (fun hc1=>?_) (fun hc1=>?_))
  ·refine zR (zE (zF (zU (csr (zA J J (zI J J F.fi25_1 F.ti3 (zD J J F.ti3 J (lnx (csr (zY J J F.agg25 F.ti25 (jG (v:=.bool (bstA fs k days).is) (vs:=[_]) J J F.ent88 (fun a w ha=>zJl (dc:=dc) (fc:=fc) (hc.kil (k:=k) om).w w (hF.later ha.below) (hD.later ha.below)) ?_)))))))))))
   refine lnx (kD J (fun hc2=>?_) (fun hc2=>?_))
   ·exact csr (zA J J (zH J J (lax J J (zS (jM (zO (zO (jM (zO (jB J (fun a w ha=>qP J J J ha) (fun a w ha=>⟨by rw[show klnN fs days 4=some k from zQs om hkn hc2];rfl,ha.grown nsl⟩)))))))))))
   ·refine zR (zK (zE (zL (zA J J (zG J J J (fun w=>jJ w (zV _ om om)) (zH J J (zB (kR (k+1,k) ⟨by omega,by unfold klnN;rw[hkn];simp;simpa using hc2⟩ tdo sbn pkk))))))))
  ·obtain rfl:k=4:=om;exact jT (zM (zM (jF (zE (csr (zH J J (lax J J (zS (jB J (fun a w ha=>qP J J J ha) (fun a w ha=>⟨by rw[hkn];rfl,ha.grown nsl⟩))))))))))

theorem zU5 (hc:ChV fs kiln days) (w:World) (hF:RdL Flt.cells 4 w fA fs) (hD:RdL ncell 1 w dA days):Calls Tryz.prog 42 #[.agg (CA fA fs.length fc kiln dA days.length dc).toArray] w fun e w'=>∃oA oc,e=.returned (if (bstA fs kiln days).is=true then .tuple #[.slice oA (nedL fs kiln days fs.length).length oc,.int .i64 0] else .tuple #[.slice none 0 0,.int .i64 11])∧Grew w w' [.row 3 1 oA (if (bstA fs kiln days).is=true then (nedL fs kiln days fs.length).length else 0) oc (ints (if (bstA fs kiln days).is=true then (nedL fs kiln days fs.length) else []))]:=by
 refine enter (N:=32) [(0,.agg (CA fA fs.length fc kiln dA days.length dc).toArray)] Tryz.func42 J Tryz.ntmps42 J J (csr (jN J J ?_));intro b1;refine zH J J (lax J J (zF (csr (zY J J F.agg25 F.ti25 ?_))))
 refine jG (v:=.int .i64 0) (vs:=[_]) J J F.ent34 (fun a w ha=>by
  have h:=zDj (fA:=fA) (dA:=dA) (fc:=fc) (dc:=dc) (fs:=fs.map Flt.toZ) (kiln:=(kiln:Int)) (days:=toZs days) (by have:=hc.f3;simp;omega) (by have:=hc.d4;simp[toZs];omega) w (RdL.mapped Flt.toZ (hF.later ha.below) (fun _=>rfl)) (RdL.mapped (fun (n:Nat)=>(n:Int)) (hD.later ha.below) (fun _=>rfl));rw[chk0 hc] at h
  simpa[toZs] using h) ?_
 refine lax J J (csr (zA J J (zG J J J kZ ?_)))
 refine lnx (zJ J (fun hc0=>?_) (fun hc0=>?_))
 ·exact absurd J hc0
  done
 ·refine zR (zE (zF (zF ?_)))
  rcases his0:(bstA fs kiln days).is with _|_
  ·refine zL (zY J J F.agg25 F.ti25 (jG (v:=.bool (bstA fs kiln days).is) (vs:=[_]) J J F.ent88 (fun a w ha=>zJl (fc:=fc) (dc:=dc) hc.w w (hF.later ha.below) (hD.later ha.below)) ?_));rw[his0];exact kP J J (lnx (qE J (csr (zH J J (lax J J (zS (zO (jB J (fun a w ha=>qP J J J ha) (fun a w ha=>⟨none,0,rfl,(ha.add_nil 3 1).grown (.cons_cons _ nsl)⟩)))))))))
  ·refine zL (zY J J F.agg25 F.ti25 (jG (v:=.bool (bstA fs kiln days).is) (vs:=[_]) J J F.ent88 (fun a w ha=>zJl (fc:=fc) (dc:=dc) hc.w w (hF.later ha.below) (hD.later ha.below)) ?_));rw[his0];refine kP J J (lnx (kL J (zR (zE (csr (lax J J (zF (csr (lax J J (zU (yM 3 1 ?_)))))))))));have hf1:=hc.f1;have hf3:=hc.f3;refine xC (G:=Nat×Option Addr×Nat) (fun g=>g.1<=fs.length) (fun g=>fs.length-g.1) (fun g=>[(1,pt b1),(5,.slice g.2.1 (nedL fs kiln days g.1).length g.2.2),(6,.int .i64 (g.1:Int))]) (fun g=>[.row 3 1 g.2.1 (nedL fs kiln days g.1).length g.2.2 (ints (nedL fs kiln days g.1)),.blk b1 (.cells (CA fA fs.length fc kiln dA days.length dc).toArray 25 (0,0))]) (0,none,0) (Nat.zero_le _) sbn pkk ?_;rintro⟨k,oA,oc⟩ hk;dsimp only at hk ⊢;refine zF (csr (zA J J (zI J J F.fi25_0 F.ti22 (zP J J F.one22 (jQ J J U22 (zG J J J jW ?_))))))
   refine lnx (zJ J (fun hc2=>?_) (fun hc2=>?_))
   ·have hk2:k<fs.length:=om;have hnl:=zK4 (fs:=fs) (kiln:=kiln) (days:=days) k;refine zR (zE (zF (zU (csr (zY J J F.agg25 F.ti25 (zA J J (kV (X:=Option Addr×Nat) (vs:=[_,_]) (p:=fun _=>True) (val:=fun y=>.agg #[.slice y.1 (fs.eraseIdx k).length y.2,.int .i64 (kiln:Int),.slice dA days.length dc]) (rs:=fun y=>[.row 27 4 y.1 (fs.eraseIdx k).length y.2 ((fs.eraseIdx k).flatMap Flt.cells)]) J J F.ent89 (fun a w ha=>(zU2 (dA:=dA) (dc:=dc) (kiln:=kiln) (days:=days) (i:=k) om om w (hF.later ha.below)).mono (fun e w' h=>by obtain⟨A',c',h1,h2⟩:=h;exact⟨(A',c'),trivial,h1,h2⟩)) ?_)))))));rintro⟨A3,c3⟩ -;dsimp only[List.cons_append,List.nil_append];refine jG (v:=.bool (bstA (fs.eraseIdx k) kiln days).is) (vs:=[_]) J J F.ent88 (fun a w ha=>zJl (fA:=A3) (fc:=c3) (dc:=dc) (hc.without (i:=k)) w (zO4 (A:=A3) ha J) (hD.later ha.below)) ?_
    refine kP J J (lnx (kD J (fun hc3=>?_) (fun hc3=>?_)))
    ·have hny:=zKp (fs:=fs) (kiln:=kiln) (days:=days) (k:=k) (by simpa using hc3);refine zL (zA J J (zA J J (jV (vs:=[(0,_)]) J J U23 F.ti3 J J J ?_)));intro b29;refine jZ J J J Tryz.underlying23 F.ti3 J J J (by unfold maxLen;omega) om ?_;intro A9 c9;refine zH J J (zB (zK (zE (zL (zA J J (zG J J J (fun w=>jJ w (zV _ om om)) (zH J J (zB (kR (k+1,A9,c9) tdo tdo (by dsimp only;rw[hny,List.length_append,List.length_singleton];repeat (first|exact Sub.nil _|refine Sub.cons J ?_)) (by dsimp only;rw[hny,List.length_append,List.length_singleton,zDq];repeat (first|exact Pck.nil _|exact Pck.refl _|(apply Pck.cons;focus ((repeat (first|exact Rem.here _|apply Rem.there));done))|refine Pck.skip _ ?_)))))))))))
    ·have hnn:=zM4 (fs:=fs) (kiln:=kiln) (days:=days) (k:=k) (by simpa using hc3);refine zR (zK (zE (zL (zA J J (zG J J J (fun w=>jJ w (zV _ om om)) (zH J J (zB (kR (k+1,oA,oc) tdo tdo (by dsimp only;rw[hnn];repeat (first|exact Sub.nil _|refine Sub.cons J ?_)) (by dsimp only;rw[hnn];repeat (first|exact Pck.nil _|exact Pck.refl _|(apply Pck.cons;focus ((repeat (first|exact Rem.here _|apply Rem.there));done))|refine Pck.skip _ ?_))))))))))
   ·obtain rfl:k=fs.length:=om;exact jT (zM (zM (jF (zE (csr (zA J J (zH J J (lax J J (zS (jB J (fun a w ha=>qP J J J ha) (fun a w ha=>⟨oA,oc,rfl,ha.grown (.cons_cons _ nsl)⟩)))))))))))

end
section
variable {o size:Nat} {α:Type}
structure CZ where
 fA:Option Addr
 fc:Nat
 fz:List FltZ
 kz:Int
 dA:Option Addr
 dc:Nat
 dz:List Int
def CZ.cells (x:CZ):List Value:=[.slice x.fA x.fz.length x.fc,.int .i64 x.kz,.slice x.dA x.dz.length x.dc]
def CZ.rows (x:CZ):List Res:=[.row 27 4 x.fA x.fz.length x.fc (x.fz.flatMap FltZ.cells),.row 3 1 x.dA x.dz.length x.dc (x.dz.flatMap zcell)]
structure CZ.Rd (w:World) (x:CZ):Prop where
 f:RdL FltZ.cells 4 w x.fA x.fz
 d:RdL zcell 1 w x.dA x.dz
def W64 (n:Int):Prop:=-9223372036854775808<=n∧n<=9223372036854775807
structure FltZ.wf (f:FltZ):Prop where
 power:W64 f.power
 gain:W64 f.gain
 now:W64 f.now
structure CZ.Ok (x:CZ):Prop where
 fw:∀f∈x.fz,f.wf
 f0:x.fA=none->x.fz=[]∧x.fc=0
 d0:x.dA=none->x.dz=[]∧x.dc=0
 fl:x.fz.length<=20
 dl:x.dz.length<=20
theorem CZ.Rd.later [I:Sys] {w w':World} {x:CZ} (h:x.Rd w) (hb:Below w.heap.size w w'):x.Rd w':=⟨h.f.later hb,h.d.later hb⟩
theorem zVm (x:FltZ):x.cells.length=4:=rfl
theorem jB0 (x:FltZ):∀u∈x.cells,u.oneCell'=true:=by
 intro u hu;simp[FltZ.cells] at hu;rcases hu with rfl|rfl|rfl|rfl<;>rfl
theorem jDs (x:Int):∀u∈zcell x,u.oneCell'=true:=by
 intro u hu;simp[zcell] at hu;rw[hu]
 rfl
theorem zZx (fs:List Flt):(fs.map Flt.toZ).flatMap FltZ.cells=fs.flatMap Flt.cells:=by rw[List.flatMap_map];rfl
theorem jB8 (l:List Nat):(toZs l).flatMap zcell=ints l:=by
 unfold toZs ints;rw[List.flatMap_map,List.map_eq_flatMap]
 rfl
theorem zPx {l vs:List α} {N:Nat} (h:o+vs.length<=N) (hN:N<=l.length):(l.take o++vs++l.drop (o+vs.length)).take N=(l.take N).take o++vs++(l.take N).drop (o+vs.length):=by
 have hl:(l.take o++vs).length=o+vs.length:=by rw[List.length_append,List.length_take];omega
 rw[List.take_append,List.take_of_length_le (by rw[hl];exact h),hl,List.take_take,Nat.min_eq_left om,List.drop_take]
theorem zLx {cells:α->List Value} (hs:∀x,(cells x).length=size) (f:α):∀(l:List α) (j:Nat),j<l.length->(l.flatMap cells).take (j*size)++cells f++(l.flatMap cells).drop (j*size+(cells f).length)=(l.set j f).flatMap cells
 | [],j,h=>absurd h (Nat.not_lt_zero _)
 | x::l,0,_=>by
  rw[List.set_cons_zero,List.flatMap_cons,List.flatMap_cons,Nat.zero_mul,List.take_zero,List.nil_append,Nat.zero_add,hs,List.drop_append,List.drop_of_length_le (by rw[hs];exact Nat.le_refl _),hs,Nat.sub_self,List.drop_zero,List.nil_append]
 | x::l,j+1,h=>by
  rw[List.set_cons_succ,List.flatMap_cons,List.flatMap_cons,<-zLx hs f l j (by simpa using h),Nat.succ_mul,List.take_append,List.take_of_length_le (by rw[hs];omega),hs,List.drop_append,List.drop_of_length_le (by rw[hs,hs];omega),hs,List.nil_append,hs,Nat.add_sub_cancel,show j*size+size+size-size=j*size+size from by omega];simp only[List.append_assoc]
section
variable [I:Sys] {C:Ctx} {fr:List (Nat×Value)} {hp hp':List Res} {a:Act} {w:World} {ops:Array Oper} {Q:Exit->Act->World->Prop} {rest:List Oper} {d:Nat} {ty:TypeId} {pos:String} {after:Array Edge}
theorem zKx {x y:Operand} {t e:TypeId} {A:Option Addr} {g n c m k9:Nat} {xs vs:List Value} (xs':List Value) {v z:Value} (hx:ev fr x=some (.pointer (some ⟨g,o,none⟩))) (hy:ev fr y=some v) (hi:TI C.P t z k9 m) [hc:Cells v vs] (hn:vs.length=k9)
  (hA:A=some ⟨g,0,none⟩) (ho:o+vs.length<=xs.length) (hxs:xs.take o++vs++xs.drop (o+vs.length)=xs') [hr:InR A e size n c xs hp] [hu:UpR A e size n c xs (.row e size A n c xs') hp hp']
  (k:Lst C ops Q rest fr hp'):Lst C ops Q (⟨none,.store t x y,ty,pos,after,none⟩::rest) fr hp:=by
 obtain⟨i,hi,_,hsz,_⟩:=hi;refine zDc (fun _ _ _=>zBi ..) (fun a w ha=>?_) k;have hown:=ha.own _ hr.mem;obtain⟨hlen,hcase⟩:=hown
 rcases hcase with ⟨h1,_⟩|⟨g',cap,cur,hv,hB,hheap,hle,hmax,hcs,htake⟩
 ·injection h1 with e1;rw[hA] at e1
  cases e1
 ·injection hv with e1 e2 e3;rw[hA] at e1;injection e1 with e1;injection e1 with e1;subst e1;subst e3;have h9:n*size<=c*size:=Nat.mul_le_mul_right _ hle;have hcl:n*size<=cur.toList.length:=by simp only[Array.length_toList];omega
  have hxl:o+vs.length<=n*size:=by rw[<-htake,List.length_take] at ho;omega
  have hs:Splice cur.toList o vs (cur.toList.take o++vs++cur.toList.drop (o+vs.length)):=⟨rfl,by omega⟩;obtain⟨w',h1,h2,h3⟩:=zCz hs (by simpa using hheap) hc.one C.P
  have hcr:(cur.toList.take o++vs++cur.toList.drop (o+vs.length)).length=cur.toList.length:=by
   simp only[List.length_append,List.length_take,List.length_drop];omega
  have hxl2:xs'.length=xs.length:=by
   rw[<-hxs];simp only[List.length_append,List.length_take,List.length_drop];omega
  refine⟨w',?_,ha.turn hu.upd (by rw[hA];exact h3) ⟨by rw[hxl2];exact hlen,.inr ⟨g,c,(cur.toList.take o++vs++cur.toList.drop (o+vs.length)).toArray,by rw[hA],hB,h2,hle,hmax,by rw[List.size_toArray,hcr];simpa using hcs,?_⟩⟩ (fun k hk=>.inl hk)⟩
  ·simp[execOp,ha.eval hx,ha.eval hy,Instr.storeAt,Instr.sureAddr,storeVar,sizeOf,typeInfo,hi,hc.eq,hsz,hn,h1]
  ·rw[<-hxs,<-htake];exact zPx hxl hcl
theorem jCf (ha:At C fr hp a w) {x:CZ} (h:∀r∈x.rows,r∈hp):x.Rd w :=
 ⟨kS ha (cells:=FltZ.cells) (size:=4) (e:=27) (c:=x.fc) (n:=x.fz.length) (l:=x.fz) (fun _=>rfl) (h _ (List.mem_cons_self ..)) J,
  kS ha (cells:=zcell) (size:=1) (e:=3) (c:=x.dc) (n:=x.dz.length) (l:=x.dz) (fun _=>rfl) (h _ (List.mem_cons_of_mem _ (List.mem_cons_self ..))) J⟩
end
end
section
variable {f:FltZ} {n:Int}
theorem w64wf (h:W64 n):(Go.Lit.int .i64 n).wf=true:=by
 unfold W64 at h;simp[Go.Lit.wf,IntKind.min,IntKind.max,IntKind.signed,IntKind.bits];omega
theorem zPh (h:W64 n) (d:Nat):Tryz.prog.keyLits (d+1) 3 [.int .i64 n]=some [.int .i64 n]:=by
 unfold Program.keyLits;rw[Tryz.underlying3];simp[w64wf h]
def FltZ.lits (f:FltZ):List Go.Lit:=[.int .i64 f.power,.int .i64 f.gain,.int .i64 f.now,.bool f.washed]
theorem co27:Tryz.prog.cellsOf 27=4:=by kernel_rfl
theorem kt27:Tryz.prog.keyType 27=true:=by kernel_rfl
theorem jCo (h:f.wf) (d:Nat):Tryz.prog.keyLits (d+1+1) 27 f.cells=some f.lits:=by
 obtain⟨h1,h2,h3⟩:=h
 conv=>lhs;unfold Program.keyLits
 rw[Tryz.underlying27];simp[co27,co3,co4,FltZ.cells,FltZ.lits,zPh h1,zPh h2,zPh h3,zRd]
theorem jAr (h:f.wf):∃x,keyOf Tryz.prog 27 (.agg f.cells.toArray)=some x:=by
 unfold keyOf;rw[Tryz.underlying27];simp only[kt27,Bool.true_and];have hf:(Value.agg f.cells.toArray).formed Tryz.prog 27=true:=by simp[Value.formed,Tryz.underlying27,co27,FltZ.cells]
 rw[if_pos hf,tszC];have:(Value.agg f.cells.toArray).cells.toList=f.cells:=rfl;rw[this,jCo h];exact⟨_,rfl⟩
theorem fltLaw:WideMaps.KeyLaw Tryz.prog 27:=deep_law (m:=4) (by omega) (by kernel_rfl) (by kernel_rfl) (by rw[Tryz.underlying27])
theorem zQm (h:f.wf) (x y:Operand) (w:World):(do eqGuard .neq 27 x y (.agg f.cells.toArray) (.agg f.cells.toArray);binOp .neq 27 (.agg f.cells.toArray) (.agg f.cells.toArray):Sem Value).run Tryz.prog w=.ok (.bool false) w:=by
 obtain⟨k1,hk1⟩:=jAr h;obtain⟨r,h1,h2⟩:=zDi (P:=Tryz.prog) (m:=4) om (k:=27) kr (by rw[Tryz.underlying27]) kr fltLaw hk1 hk1 x y w
 cases r with
 | false=>exact h1
 | true=>exact absurd rfl (h2.1 rfl)
theorem zOm {f:Flt} (h:FltOk f):f.toZ.wf:=by
 obtain⟨h1,h2,h3,h4⟩:=h;unfold Flt.toZ;exact⟨by unfold W64;dsimp only;omega,by unfold W64;dsimp only;omega,by unfold W64;dsimp only;omega⟩
instance TB.flt (a b c:Int) (d:Bool) (u:Value):TB (.agg #[.int .i64 a,.int .i64 b,.int .i64 c,.bool d]) u:=TB.agg (by
 intro x hx;simp at hx
 rcases hx with rfl|rfl|rfl|rfl
 ·exact .int _ _
 ·exact .int _ _
 ·exact .int _ _
 ·exact .bool _) u
theorem zS3 (l:List Int):l.flatMap zcell=l.map (Value.int .i64):=by
 rw[List.map_eq_flatMap]
 rfl
theorem jDw (l:List Int) (j:Nat) (v:Int):(l.flatMap zcell).set j (.int .i64 v)=(l.set j v).flatMap zcell:=by
 rw[zS3,zS3,List.map_set]
theorem zPz (l:List Int):(l.flatMap zcell).length=l.length:=by rw[zS3,List.length_map]
theorem zO8 (l:List FltZ):(l.flatMap FltZ.cells).length=l.length*4:=by
 induction l with
 | nil=>rfl
 | cons x l ih=>rw[List.flatMap_cons,List.length_append,ih,List.length_cons,zVm];omega
def CZ.Fine (x:CZ):Prop:=∃fs kiln days,ChV fs kiln days∧x.fz=fs.map Flt.toZ∧x.kz=((kiln:Nat):Int)∧x.dz=toZs days
end
section
variable [I:Sys]
variable {dA fA:Option Addr} {dc fc:Nat} {dz:List Int} {fz:List FltZ} {kz:Int}
theorem jC6 {A:Option Addr} {c:Nat} {l:List Int} (h0:A=none->l=[]∧c=0) (hl:l.length<=1000) (w:World) (hA:RdL zcell 1 w A l):Calls Tryz.prog 55 #[.slice A l.length c] w fun e w'=>∃A' c',e=.returned (.slice A' l.length c')∧Grew w w' [.row 3 1 A' l.length c' (l.flatMap zcell)]:=by
 refine enter (N:=6) [(0,.slice A l.length c)] Tryz.func55 J Tryz.ntmps55 J J (csr (lax J J (csr (zDe J U23 F.ti3 ?_))));intro b3;refine zBf 1 (.head _) (zA J J (zBw (cells:=zcell) J J J Tryz.underlying23 F.ti3 J J (fun _=>rfl) jDs (fun a w ha=>hA.later ha.below) h0 J (by unfold maxLen;omega) om ?_));intro A1 c1;refine lax J J (zS ?_);simp only[Nat.zero_add,List.nil_append];exact jB J (fun a w ha=>jL J J ha) (fun a w ha=>⟨A1,c1,rfl,ha.grown sbl⟩)

theorem jBr (f0:fA=none->fz=[]∧fc=0) (d0:dA=none->dz=[]∧dc=0) (hfl:fz.length<=1000) (hdl:dz.length<=1000) (w:World) (hF:RdL FltZ.cells 4 w fA fz) (hD:RdL zcell 1 w dA dz):Calls Tryz.prog 14 #[.agg #[.slice fA fz.length fc,.int .i64 kz,.slice dA dz.length dc]] w fun e w'=>∃A c D dc',e=.returned (.agg #[.slice A fz.length c,.int .i64 kz,.slice D dz.length dc'])∧Grew w w' [.row 27 4 A fz.length c (fz.flatMap FltZ.cells),.row 3 1 D dz.length dc' (dz.flatMap zcell)]:=by
 refine enter (N:=13) [(0,.agg #[.slice fA fz.length fc,.int .i64 kz,.slice dA dz.length dc])] Tryz.func14 J Tryz.ntmps14 J J (csr (jN J J ?_));intro b1;refine zZ J F.ti25 ?_;intro b2;refine lnx (zF (jY [.b b2] F.follows 11 J [false,false,false,false,false,false,false,false,false,false,false] J (zC 1 J J J (zT J F.fi25_0 F.ti22) (zC 2 J J J (jO J F.one22) (zC 4 J J J (zT J F.fi25_1 F.ti3) (zC 5 J J J (jO J F.one3) (zC 6 J J J (zT J F.fi25_2 F.ti23) (zC 7 J J J (jO J F.one23) (an1 0 J (zDe J U22 F.ti27 ?_))))))))));intro b3;refine zBf 4 (.head _) (zB (anb (an1 3 J (zBw (cells:=FltZ.cells) J J J Tryz.underlying22 F.ti27 J J (fun _=>rfl) jB0 (fun a w ha=>hF.later ha.below) f0 J (by unfold maxLen;omega) om ?_))));intro A2 c2;simp only[Nat.zero_add,List.nil_append];refine zB (anb (an1 8 J (kV (X:=Option Addr×Nat) (vs:=[_]) (p:=fun _=>True) (val:=fun y=>.slice y.1 dz.length y.2) (rs:=fun y=>[.row 3 1 y.1 dz.length y.2 (dz.flatMap zcell)]) J J F.ent55 (fun a w ha=>(jC6 d0 hdl w (hD.later ha.below)).mono (fun e w' h=>by obtain⟨A',c',h1,h2⟩:=h;exact⟨(A',c'),trivial,h1,h2⟩)) ?_)));rintro⟨A3,c3⟩ -;dsimp only[List.cons_append,List.nil_append];exact zB (anb (zC 9 J J J (xS (vs:=[(0,_),(1,_),(2,_)]) (l':=[_,_,_]) J F.ti25 F.pl25 (.cons J J (.cons J J (.cons J J (.nil _)))) J) (an1 10 J (zD J J F.ti25 J (zB (anb (adn (zE (zS (jB J (fun a w ha=>by exact qS (ha:=ha) J J F.agg25 F.ti25 J) (fun a w ha=>⟨A2,c2,A3,c3,rfl,(ha.pck pkk).grown (List.Sublist.refl _)⟩)))))))))))

theorem zUp {fA' dA':Option Addr} {fc' dc':Nat} (hw:∀f∈fz,f.wf) (hfl:fz.length<=1000) (hdl:dz.length<=1000) (w:World) (hF:RdL FltZ.cells 4 w fA fz) (hD:RdL zcell 1 w dA dz) (hF':RdL FltZ.cells 4 w fA' fz) (hD':RdL zcell 1 w dA' dz):Calls Tryz.prog 18 #[.agg #[.slice fA fz.length fc,.int .i64 kz,.slice dA dz.length dc],.agg #[.slice fA' fz.length fc',.int .i64 kz,.slice dA' dz.length dc']] w fun e w'=>e=.returned (.bool true)∧Grew w w' []:=by
 refine enter (N:=46) [(0,.agg #[.slice fA fz.length fc,.int .i64 kz,.slice dA dz.length dc]),(1,.agg #[.slice fA' fz.length fc',.int .i64 kz,.slice dA' dz.length dc'])] Tryz.func18 J Tryz.ntmps18 J J (csr (jN J J ?_));intro b2;refine jN J J ?_;intro b3;refine lax J J (zF (csr (zI J J F.fi25_0 F.ti22 (zP J J F.one22 (jQ J J Tryz.underlying22 (zI J J F.fi25_0 F.ti22 (zP J J F.one22 (jQ J J Tryz.underlying22 (zG (v:=.bool false) J J J (fun w=>by rw[kZ,decide_eq_false (fun h=>h J)]) (zA J J (zN J J (zI J J F.fi25_1 F.ti3 (zN J J (zP J J F.one3 (zN J J (zI J J F.fi25_1 F.ti3 (zN J J (zP J J F.one3 (zN J J (zG (v:=.bool false) J J J (fun w=>by rw[kZ,decide_eq_false (fun h=>h J)]) (jS J J J (zA J J (zN J J (zI J J F.fi25_2 F.ti23 (zN J J (zP J J F.one23 (zN J J (zI J J F.fi25_2 F.ti23 (zN J J (zP J J F.one23 (zN J J ?_)))))))))))))))))))))))))))))))
 refine jG (v:=.bool true) (vs:=[_,_]) J J F.ent45 (fun a w ha=>by
  have h:=zIp (ca:=dc) (cb:=dc') (l:=dz) (m:=dz) om om w (hD.later ha.below) (hD'.later ha.below);rw[decide_eq_true J] at h
  exact h) ?_
 refine zN J J (kP J J (jS J J J (lnx (kL J (zR (zE (zF (csr (lax J J (zU (qW (G:=Nat) (fun k=>k<=fz.length) (fun k=>fz.length-k) (fun k=>[(2,pt b2),(3,pt b3),(5,.int .i64 (k:Int))]) (fun k=>[.blk b3 (.cells #[.slice fA' fz.length fc',.int .i64 kz,.slice dA' dz.length dc'] 25 (0,0)),.blk b2 (.cells #[.slice fA fz.length fc,.int .i64 kz,.slice dA dz.length dc] 25 (0,0))]) 0 (Nat.zero_le _) sbn sbl ?_)))))))))));intro k hk;(try dsimp only at hk ⊢);refine zF (csr (zA J J (zI J J F.fi25_0 F.ti22 (zP J J F.one22 (jQ J J U22 (zG J J J jW ?_))))))
 refine lnx (zJ J (fun hc1=>?_) (fun hc1=>?_))
 ·have hk2:k<fz.length:=om;obtain⟨bf,bo,hfA,hbf,hcf⟩:=hF om;obtain⟨bg,go,hgA,hbg,hcg⟩:=hF' om;obtain⟨f,hx⟩:∃x,fz[k]?=some x:=⟨_,List.getElem?_eq_getElem hk2⟩;have hwf:=hw f (List.mem_of_getElem? hx);obtain⟨pw,gn,nw,wd⟩:=f;refine zR (zE (zF (zU (zF (jY [] F.follows 11 J [false,false,false,false,false,false,false,false,false,false,false] J (zC 0 J J J (zT J F.fi25_0 F.ti22) (zC 1 J J J (jO J F.one22) (zC 2 J J J (zW J) (zC 3 J J J (qC (j:=k) (show _=some (Value.slice (some ⟨bf,bo,none⟩) fz.length fc) from by rw[<-hfA];rfl) J Tryz.underlying22 F.ti27 J hk2) (zC 4 J J J (vV (l:=[.int .i64 pw,.int .i64 gn,.int .i64 nw,.bool wd]) J F.agg27 F.ti27 J (fun a w ha j u hu=>ha.old (hcf k _ hx j u hu) hbf)) (zC 5 J J J (zT J F.fi25_0 F.ti22) (zC 6 J J J (jO J F.one22) (zC 7 J J J (zW J) (zC 8 J J J (qC (j:=k) (show _=some (Value.slice (some ⟨bg,go,none⟩) fz.length fc') from by rw[<-hgA];rfl) J Tryz.underlying22 F.ti27 J hk2) (zC 9 J J J (vV (l:=[.int .i64 pw,.int .i64 gn,.int .i64 nw,.bool wd]) J F.agg27 F.ti27 J (fun a w ha j u hu=>ha.old (hcg k _ hx j u hu) hbg)) (zC 10 J J J (zK5 (v:=.bool false) J J (zQm hwf _ _)) (adn (zE (kL J (zR (zK (zE (zL (zA J J (zG J J J (fun w=>jJ w (zV _ om om)) (zH J J (zB (qF (k+1) om tdo sbn sbl))))))))))))))))))))))))))))
 ·exact jT (zM (zM (jF (zE (csr (lax J J (zS (jB J (fun a w ha=>jL J J ha) (fun a w ha=>⟨rfl,ha.grown nsl⟩)))))))))

theorem jCq (w:World):Calls Tryz.prog 10 #[.agg #[.slice fA fz.length fc,.int .i64 kz,.slice dA dz.length dc]] w fun e w'=>e=.returned (.bool (decide (20<fz.length)||decide (20<dz.length)||(decide (fz.length=3)&&decide (2<dz.length))))∧Grew w w' []:=by
 refine enter (N:=25) [(0,.agg #[.slice fA fz.length fc,.int .i64 kz,.slice dA dz.length dc])] Tryz.func10 J Tryz.ntmps10 J J (csr (jN J J ?_));intro b1
 refine lax J J (csr (yZ 22 24 (.bool (decide (20<fz.length)||decide (20<dz.length)||(decide (fz.length=3)&&decide (2<dz.length)))) ?_ ?_))
 ·refine zI J J F.fi25_0 F.ti22 (zP J J F.one22 (jQ J J U22 (zG J J J vX ?_)))
  refine zA J J (vW (t:=7) J (fun hg7=>?_) (fun hg7=>?_))
  ·exact zX J J J (zX J J J (zX J J J (zX J J J (jI J J J (zA J J (zX J J J (zX J J J (zX J J J (zX J J J (zX J J J (kJ J J J (kJ J J J (kJ J J J (kJ J J J (zX J J J (jI J J J (zB (xF (.cons (by simp_all[look]<;>first|omega|(rw[Bool.eq_iff_iff];simp;omega)) sbn) sbl))))))))))))))))))
  ·refine zN J J (zI J J F.fi25_2 F.ti23 (zN J J (zP J J F.one23 (zN J J (jQ J J U23 (zN J J (zG J J J vX ?_)))))))
   refine jS J J J (zA J J (vW (t:=13) J (fun hg13=>?_) (fun hg13=>?_)))
   ·exact zX J J J (zX J J J (zX J J J (zX J J J (zX J J J (kJ J J J (kJ J J J (kJ J J J (kJ J J J (zX J J J (jI J J J (zB (xF (.cons (by simp_all[look]<;>first|omega|(rw[Bool.eq_iff_iff];simp;omega)) sbn) sbl))))))))))))
   ·refine zN J J (zI J J F.fi25_0 F.ti22 (zN J J (zP J J F.one22 (zN J J (jQ J J U22 (zN J J (zG J J J kC ?_)))))))
    refine zN J J (zA J J (vW (t:=18) J (fun hg18=>?_) (fun hg18=>?_)))
    ·exact zN J J (zI J J F.fi25_2 F.ti23 (zN J J (zP J J F.one23 (zN J J (jQ J J Tryz.underlying23 (zN J J (zG J J J vX (zN J J (jI J J J (jS J J J (zB (xF (.cons (by simp_all[look]<;>first|omega|(rw[Bool.eq_iff_iff];simp;omega)) sbn) sbl))))))))))))
    ·exact zX J J J (zX J J J (zX J J J (zX J J J (zN J J (jS J J J (jS J J J (zB (xF (.cons (by simp_all[look]<;>first|omega|(rw[Bool.eq_iff_iff];simp;omega)) sbn) sbl))))))))
 exact lax J J (zS (jB J (fun a w ha=>jL J J ha) (fun a w ha=>⟨rfl,ha.grown nsl⟩)))

end
section
variable [I:Sys]
theorem zVz {C:Ctx} {fr:List (Nat×Value)} {T:List Res} {a:Act} {w:World} (hC:C.P=Tryz.prog) {hb tk st nc:Nat} {nA:Option Addr} {nums:List Int} (hB:C.w0.heap.size=C.B) (hN:RdL icell 1 C.w0 nA nums) (htk:tk<=700000) (hst:st<18446744073709551616) {fA dA:Option Addr} {fc dc0:Nat} {fz:List FltZ} {kz sg pw gn nw:Int} {wd:Bool} {dz:List Int} (hf:FltZ.wf ⟨pw,gn,nw,wd⟩) (ha:At C fr (.blk hb (hatO nA nums.length nc (tk) (st))::T) a w):Calls C.P 12 #[.agg #[.slice fA fz.length fc,.int .i64 kz,.slice dA dz.length dc0],.agg #[.int .i64 pw,.int .i64 gn,.int .i64 nw,.bool wd],.int .i64 sg,pt hb] w fun e w'=>(∃(tk' st' b:Nat) (own other:CZ),tk'<=tk+110∧st'<18446744073709551616∧own.Fine∧own.Ok∧other.Ok∧other.fz.length=own.fz.length∧other.dz.length=own.dz.length∧e=.returned (.slice (some ⟨b,0,none⟩) 4 4)∧At C fr (.row 25 3 (some ⟨b,0,none⟩) 4 4 ([(⟨fA,fc,fz,kz,dA,dc0,dz⟩:CZ),own,own,other].flatMap CZ.cells)::(own.rows++other.rows++.blk hb (hatO nA nums.length nc tk' st')::T)) a w'):=by
 obtain⟨P,B,w0,N0,ds⟩:=C;obtain rfl:P=Tryz.prog:=hC;(try dsimp only at hB);(try dsimp only at hN);refine vZ (N:=42) [(0,.agg #[.slice fA fz.length fc,.int .i64 kz,.slice dA dz.length dc0]),(1,.agg #[.int .i64 pw,.int .i64 gn,.int .i64 nw,.bool wd]),(2,.int .i64 sg),(3,pt hb)] ha Tryz.func12 J Tryz.ntmps12 J J (csr (jN J J ?_));intro b4;refine jN J J ?_;intro b5;refine lax J J (csr (zA J J (zAt (X:=Nat×Nat×Nat×List Flt×List Nat×Option Addr×Option Addr×Nat×Nat) (vs:=[_]) hb (fun y=>hatO nA nums.length nc y.1 y.2.1) (fun y=>[.row 27 4 y.2.2.2.2.2.1 y.2.2.2.1.length y.2.2.2.2.2.2.2.1 (y.2.2.2.1.flatMap Flt.cells),.row 3 1 y.2.2.2.2.2.2.1 y.2.2.2.2.1.length y.2.2.2.2.2.2.2.2 (ints y.2.2.2.2.1)]) (fun y=>y.1<=tk+101∧y.2.1<18446744073709551616∧ChV y.2.2.2.1 y.2.2.1 y.2.2.2.2.1) (fun y=>.agg #[.slice y.2.2.2.2.2.1 y.2.2.2.1.length y.2.2.2.2.2.2.2.1,.int .i64 (y.2.2.1:Int),.slice y.2.2.2.2.2.2.1 y.2.2.2.2.1.length y.2.2.2.2.2.2.2.2]) J J F.ent53 (fun a w ha=>(jCb (C:=⟨Tryz.prog,B,w0,_,_⟩) J hB hN (tk:=tk) om hst ha).mono (fun e w' h=>by obtain⟨t',s',k',f',d',A',D',c',dc',h1,h2,h3,h4,h5⟩:=h;exact⟨(t',s',k',f',d',A',D',c',dc'),⟨h1,h2,h3⟩,h4,h5⟩)) ?_)));rintro⟨tk1,s1,kiln,fs,days,A,D,c,dc⟩ ⟨htk1,hs1,hc⟩;dsimp only[List.cons_append,List.nil_append] at htk1 hs1 hc ⊢;refine zZ J F.ti25 ?_;intro b9;refine zD J J F.ti25 J (lnx (csr (zY J J F.agg25 F.ti25 (kV (X:=Option Addr×Nat×Option Addr×Nat) (vs:=[_]) (p:=fun _=>True) (val:=fun g=>.agg #[.slice g.1 fs.length g.2.1,.int .i64 (kiln:Int),.slice g.2.2.1 days.length g.2.2.2]) (rs:=fun g=>[.row 27 4 g.1 fs.length g.2.1 (fs.flatMap Flt.cells),.row 3 1 g.2.2.1 days.length g.2.2.2 (ints days)]) J J F.ent14 (fun a w ha=>(zTp hc.f1 (by have:=hc.f3;omega) hc.d1 (by have:=hc.d4;omega) w (zO4 (A:=A) ha J) (zNo (A:=D) ha J)).mono (fun e w' h=>by obtain⟨A',c',D',dc',h1,h2⟩:=h;exact⟨(A',c',D',dc'),trivial,h1,h2⟩)) ?_))));rintro⟨A2,c2,D2,dc2⟩ -;dsimp only[List.cons_append,List.nil_append];have hf1:=hc.f1;have hf3:=hc.f3;have hd1:=hc.d1;have hd4:=hc.d4;rw[<-zZx fs,<-jB8 days];refine zZ J F.ti25 ?_;intro b10;refine zD J J F.ti25 J (lnx (zF (csr (zA J J (zBg J J J hB hN hs1 om om om ?_)))));rintro s2 sb hs2
 refine lnx (xK (G:=Nat×Nat×List FltZ×List Int) (fun g=>g.1<=tk1+2∧g.2.1<18446744073709551616∧g.2.2.1.length=fs.length∧g.2.2.2.length=days.length∧∀y∈g.2.2.1,y.wf) (fun g=>[(3,pt hb),(4,pt b4),(9,pt b9),(10,pt b10)]) (fun g=>.blk hb (hatO nA nums.length nc (g.1) (g.2.1))::.blk b4 (.cells #[.slice fA fz.length fc,.int .i64 kz,.slice dA dz.length dc0] 25 (0,0))::.blk b9 (.cells #[.slice A fs.length c,.int .i64 (kiln:Int),.slice D days.length dc] 25 (0,0))::.blk b10 (.cells #[.slice A2 fs.length c2,.int .i64 (kiln:Int),.slice D2 days.length dc2] 25 (0,0))::.row 27 4 A fs.length c ((fs.map Flt.toZ).flatMap FltZ.cells)::.row 3 1 D days.length dc ((toZs days).flatMap zcell)::.row 27 4 A2 fs.length c2 (g.2.2.1.flatMap FltZ.cells)::.row 3 1 D2 days.length dc2 (g.2.2.2.flatMap zcell)::T) ?_ ?_)
 ·refine kD J (fun hc0=>?_) (fun hc0=>?_)
  ·have hfw:∀y∈fs.map Flt.toZ,y.wf:=fun y hy=>by
    obtain⟨z,hz,rfl⟩:=List.mem_map.1 hy;exact zOm (hc.ff z hz)
   refine jY [.b hb,.r A2] F.follows 11 J [false,false,false,false,false,false,false,false,false,false,false] J (zC 0 J J J (zT J F.fi25_0 F.ti22) (zC 1 J J J (jO J F.one22) (zC 2 J J J (zW J) (zC 3 J J J (zT J F.fi25_0 F.ti22) (zC 4 J J J (jO J F.one22) (zC 5 J J J (wG J U22) (zC 6 J J J (qN (v:=.int .i64 ((fs.length:Int)-1)) J J (fun w=>xO w (zV _ om om))) (zC 8 J J J (qB J F.agg27 F.ti27) (an1 7 J (yC J J J hB hN hs2 om om ?_))))))))));rintro s3 x1 hs3 hx1;refine zB (anb (an1 9 J ?_));have hl1:x1<fs.length:=om;refine wB A2 hf1 ?_;intro g2 hg2;exact kI (j:=x1) J (show _=some (Value.slice (some ⟨g2,0,none⟩) fs.length c2) from by rw[<-hg2];rfl) J Tryz.underlying22 F.ti27 J hl1 (zB (anb (an1 10 J (zKx (A:=A2) (vs:=[.int .i64 pw,.int .i64 gn,.int .i64 nw,.bool wd]) (((fs.map Flt.toZ).set x1 (⟨pw,gn,nw,wd⟩:FltZ)).flatMap FltZ.cells) (show _=some (Value.pointer (some ⟨g2,0+x1*4,none⟩)) from rfl) J F.ti27 J hg2 (by rw[zO8,List.length_map];show 0+x1*4+4<=_;omega) (by rw[show 0+x1*4=x1*4 from by omega];exact zLx zVm (⟨pw,gn,nw,wd⟩:FltZ) _ _ (by rw[List.length_map];exact hl1)) (zB (anb (adn (jU (tk1+1+1,s3,(fs.map Flt.toZ).set x1 (⟨pw,gn,nw,wd⟩:FltZ),toZs days) ⟨by (try dsimp only);omega,hs3,by rw[List.length_set,List.length_map],vN _,fun y hy=>(List.mem_or_eq_of_mem_set hy).elim (hfw y) fun e=>e▸hf⟩ sbn pkk))))))))
  ·have hfw:∀y∈fs.map Flt.toZ,y.wf:=fun y hy=>by
    obtain⟨z,hz,rfl⟩:=List.mem_map.1 hy;exact zOm (hc.ff z hz)
   refine jY [.b hb,.r D2] F.follows 11 J [false,false,false,false,false,false,false,false,false,false,false] J (zC 0 J J J (zT J F.fi25_2 F.ti23) (zC 1 J J J (jO J F.one23) (zC 2 J J J (zW J) (zC 3 J J J (zT J F.fi25_2 F.ti23) (zC 4 J J J (jO J F.one23) (zC 5 J J J (wG J U23) (zC 6 J J J (qN (v:=.int .i64 ((days.length:Int)-1)) J J (fun w=>xO w (zV _ om om))) (zC 8 J J J (zW J) (an1 7 J (yC J J J hB hN hs2 om om ?_))))))))));rintro s3 x1 hs3 hx1;refine zB (anb (an1 9 J ?_));have hl1:x1<days.length:=om;refine wB D2 hd1 ?_;intro g2 hg2;exact kI (j:=x1) J (show _=some (Value.slice (some ⟨g2,0,none⟩) days.length dc2) from by rw[<-hg2];rfl) J Tryz.underlying23 F.ti3 J hl1 (zB (anb (an1 10 J (zAr (A:=D2) (((toZs days).set x1 sg).flatMap zcell) (show _=some (Value.pointer (some ⟨g2,0+x1*1,none⟩)) from rfl) J F.ti3 hg2 (by rw[zPz,vN];omega) (by rw[show 0+x1*1=x1 from by omega,jDw]) (zB (anb (adn (jU (tk1+1+1,s3,fs.map Flt.toZ,(toZs days).set x1 sg) ⟨by (try dsimp only);omega,hs3,List.length_map ..,by rw[List.length_set,vN],hfw⟩ sbn pkk))))))))
 ·rintro⟨tk2,st2,fz2,dz2⟩ ⟨htk2,hst2,hl2,hd2,hw2⟩;dsimp only at htk2 hst2 hl2 hd2 hw2 ⊢;refine zE (csr (wB A hf1 ?_));intro gA hgA;refine wB D hd1 ?_;intro gD hgD;refine wB A2 hf1 ?_;intro gA2 hgA2;refine wB D2 hd1 ?_;intro gD2 hgD2;refine zY J J F.agg25 F.ti25 (zY J J F.agg25 F.ti25 (zY J J F.agg25 F.ti25 (zY J J F.agg25 F.ti25 (vM (vs:=[(0,.agg ([.slice fA fz.length fc,.int .i64 kz,.slice dA dz.length dc0]:List Value).toArray),(1,.agg ([.slice A fs.length c,.int .i64 (kiln:Int),.slice D days.length dc]:List Value).toArray),(2,.agg ([.slice A fs.length c,.int .i64 (kiln:Int),.slice D days.length dc]:List Value).toArray),(3,.agg ([.slice A2 fs.length c2,.int .i64 (kiln:Int),.slice D2 days.length dc2]:List Value).toArray)]) [.slice fA fz.length fc,.int .i64 kz,.slice dA dz.length dc0,.slice A fs.length c,.int .i64 (kiln:Int),.slice D days.length dc,.slice A fs.length c,.int .i64 (kiln:Int),.slice D days.length dc,.slice A2 fs.length c2,.int .i64 (kiln:Int),.slice D2 days.length dc2] J J U30 F.ti25 J J J (Lit.agg (l1:=[.slice fA fz.length fc,.int .i64 kz,.slice dA dz.length dc0]) J (Lit.agg (l1:=[.slice A fs.length c,.int .i64 (kiln:Int),.slice D days.length dc]) J (Lit.agg (l1:=[.slice A fs.length c,.int .i64 (kiln:Int),.slice D days.length dc]) J (Lit.agg (l1:=[.slice A2 fs.length c2,.int .i64 (kiln:Int),.slice D2 days.length dc2]) J (rfl))))) ?_))));intro b41;refine zAk (n:=4) 3 J (by unfold maxLen;omega) (.head _) ?_
  refine lax J J (zS (jB J (fun a w ha=>jL J J ha) (fun _ _ ha'=>⟨tk2,st2,b41,(⟨A,c,fs.map Flt.toZ,(kiln:Int),D,dc,toZs days⟩:CZ),(⟨A2,c2,fz2,(kiln:Int),D2,dc2,dz2⟩:CZ),by omega,hst2,⟨fs,kiln,days,hc,rfl,rfl,rfl⟩,⟨fun y hy=>?_,fun h=>?_,fun h=>?_,?_,?_⟩,⟨hw2,fun h=>?_,fun h=>?_,?_,?_⟩,?_,?_,rfl,?_⟩)))
  ·obtain⟨z,hz,rfl⟩:=List.mem_map.1 hy;exact zOm (hc.ff z hz)
  ·rw[hgA] at h;cases h
  ·rw[hgD] at h;cases h
  ·rw[List.length_map];omega
  ·rw[vN];omega
  ·rw[hgA2] at h;cases h
  ·rw[hgD2] at h;cases h
  ·rw[hl2];omega
  ·rw[hd2];omega
  ·rw[List.length_map];exact hl2
  ·rw[vN];exact hd2
  ·simp only[CZ.rows,CZ.cells,List.flatMap_cons,List.flatMap_nil,List.append_nil,List.cons_append,List.nil_append,List.length_map,vN,hl2,hd2];exact ha.back (ha'.pck pkk)

variable {P:List Flt->Nat->List Nat->Nat×Nat->Prop} {args:Array Value} {days:List Nat} {f:FuncId} {fs:List Flt} {kiln:Nat} {w w':World}
theorem Grew.nilRow (h:Grew w w' []) (e size:Nat):Grew w w' [.row e size Option.none 0 0 []] :=
 ⟨h.1,fun r hr=>by
  rw[List.mem_singleton] at hr;subst hr
  exact⟨by simp,.inl ⟨rfl,rfl⟩⟩,List.nodup_nil⟩
abbrev E0 (c:Nat):Nat×Nat:=(0,c)
def KilnR (fs:List Flt) (_:Nat) (days:List Nat) (y:Nat×Nat):Prop:=y=(optN (klnN fs days 4),optE (klnN fs days 4))
def NeedR (fs:List Flt) (kiln:Nat) (days:List Nat) (y:List Nat×Nat):Prop:=y=if (bstA fs kiln days).is=true then (nedL fs kiln days fs.length,0) else ([],11)
theorem KilnR.uniq {fz:List FltZ} {kz:Int} {dz:List Int} {x y:Nat×Nat} (h:RawP KilnR E0 fz kz dz x) (h':RawP KilnR E0 fz kz dz y):x=y:=RawP.uniq (P:=KilnR) (fun _ _ _ _ a b=>Eq.trans a (Eq.symm b)) h h'
theorem NeedR.uniq {fz:List FltZ} {kz:Int} {dz:List Int} {x y:List Nat×Nat} (h:RawP NeedR (fun c=>([],c)) fz kz dz x) (h':RawP NeedR (fun c=>([],c)) fz kz dz y):x=y:=RawP.uniq (P:=NeedR) (fun _ _ _ _ a b=>Eq.trans a (Eq.symm b)) h h'
section
variable {fA dA:Option Addr} {fc dc:Nat} {fz:List FltZ} {kz:Int} {dz:List Int}
abbrev cz3 (fA dA:Option Addr) (fc dc:Nat) (fz:List FltZ) (kz:Int) (dz:List Int):Value:=.agg #[.slice fA fz.length fc,.int .i64 kz,.slice dA dz.length dc]
abbrev tu2 (y:Nat×Nat):Value:=.tuple #[.int .i64 (y.1:Int),.int .i64 (y.2:Int)]
def Ans (P:List Flt->Nat->List Nat->Nat×Nat->Prop) (fz:List FltZ) (kz:Int) (dz:List Int) (w:World) (e:Ending) (w':World):Prop:=∃y:Nat×Nat,RawP P E0 fz kz dz y∧e=.returned (tu2 y)∧Grew w w' []
theorem zRe (hk:chk fz kz dz≠0) (h:Calls Tryz.prog f args w fun e w'=>e=.returned (.tuple #[.int .i64 0,.int .i64 ((chk fz kz dz:Nat):Int)])∧Grew w w' []):Calls Tryz.prog f args w fun e w'=>Ans P fz kz dz w e w' :=
 h.mono fun _ _ ⟨h1,h2⟩=>⟨(0,chk fz kz dz),.inl ⟨hk,rfl⟩,h1,h2⟩
theorem zT6 (hc:ChV fs kiln days) (h:Calls Tryz.prog f args w fun e w'=>(∃n er:Nat,P fs kiln days (n,er)∧e=.returned (.tuple #[.int .i64 (n:Int),.int .i64 (er:Int)]))∧Grew w w' []):Calls Tryz.prog f args w fun e w'=>Ans P (fs.map Flt.toZ) kiln (toZs days) w e w' :=
 h.mono fun _ _ ⟨⟨n,er,h1,h2⟩,h3⟩=>⟨(n,er),.inr ⟨fs,kiln,days,hc,rfl,rfl,rfl,h1⟩,h2,h3⟩
theorem jC7 (hfl:fz.length<1000000) (hdl:dz.length<1000000) (w:World) (hF:RdL FltZ.cells 4 w fA fz) (hD:RdL zcell 1 w dA dz):Calls Tryz.prog 43 #[cz3 fA dA fc dc fz kz dz] w fun e w'=>Ans KilnR fz kz dz w e w':=by
 by_cases hk:chk fz kz dz=0
 ·obtain⟨fs,kiln,days,hc,rfl,rfl,rfl⟩:=zDo hk;refine zT6 hc ?_;unfold cz3;rw[List.length_map,vN];exact (jBq hc w (zI9 hF) (zJc hD)).mono fun e w' h=>⟨⟨_,_,rfl,h.1⟩,h.2⟩
 ·exact zRe hk (jDb hfl hdl hk w hF hD)
theorem jAj (hfl:fz.length<1000000) (hdl:dz.length<1000000) (w:World) (hF:RdL FltZ.cells 4 w fA fz) (hD:RdL zcell 1 w dA dz):Calls Tryz.prog 44 #[cz3 fA dA fc dc fz kz dz] w fun e w'=>Ans KilnR fz kz dz w e w':=by
 by_cases hk:chk fz kz dz=0
 ·obtain⟨fs,kiln,days,hc,rfl,rfl,rfl⟩:=zDo hk;refine zT6 hc ?_;unfold cz3;rw[List.length_map,vN];exact (jA5 hc w (zI9 hF) (zJc hD)).mono fun e w' h=>⟨⟨_,_,rfl,h.1⟩,h.2⟩
 ·exact zRe hk (zZr hfl hdl hk w hF hD)
def AnsL (P:List Flt->Nat->List Nat->List Nat×Nat->Prop) (fz:List FltZ) (kz:Int) (dz:List Int) (w:World) (e:Ending) (w':World):Prop:=∃(A:Option Addr) (c:Nat) (y:List Nat×Nat),RawP P (fun c=>([],c)) fz kz dz y∧e=.returned (.tuple #[.slice A y.1.length c,.int .i64 (y.2:Int)])∧Grew w w' [.row 3 1 A y.1.length c (ints y.1)]
theorem zPd {P:List Flt->Nat->List Nat->List Nat×Nat->Prop} (hk:chk fz kz dz≠0) (h:Calls Tryz.prog f args w fun e w'=>e=.returned (.tuple #[.slice none 0 0,.int .i64 ((chk fz kz dz:Nat):Int)])∧Grew w w' []):Calls Tryz.prog f args w fun e w'=>AnsL P fz kz dz w e w' :=
 h.mono fun _ _ ⟨h1,h2⟩=>⟨none,0,([],chk fz kz dz),.inl ⟨hk,rfl⟩,h1,h2.nilRow 3 1⟩
theorem zQz {e:Ending} (hc:ChV fs kiln days)
  (h:∃oA oc,e=.returned (if (bstA fs kiln days).is=true then .tuple #[.slice oA (nedL fs kiln days fs.length).length oc,.int .i64 0] else .tuple #[.slice none 0 0,.int .i64 11])∧Grew w w' [.row 3 1 oA (if (bstA fs kiln days).is=true then (nedL fs kiln days fs.length).length else 0) oc (ints (if (bstA fs kiln days).is=true then (nedL fs kiln days fs.length) else []))]):AnsL NeedR (fs.map Flt.toZ) kiln (toZs days) w e w':=by
 obtain⟨oA,oc,h1,h2⟩:=h
 cases hb:(bstA fs kiln days).is with
 | true =>
  rw[hb] at h1 h2
  exact⟨oA,oc,(nedL fs kiln days fs.length,0),.inr ⟨fs,kiln,days,hc,rfl,rfl,rfl,by unfold NeedR;rw[hb];rfl⟩,h1,h2⟩
 | false =>
  rw[hb] at h1 h2;exact⟨none,0,([],11),.inr ⟨fs,kiln,days,hc,rfl,rfl,rfl,by unfold NeedR;rw[hb];rfl⟩,h1,h2.less.nilRow 3 1⟩
theorem zXq (hfl:fz.length<1000000) (hdl:dz.length<1000000) (hcap:fz.length<=fc) (w:World) (hF:RdL FltZ.cells 4 w fA fz) (hD:RdL zcell 1 w dA dz):Calls Tryz.prog 41 #[cz3 fA dA fc dc fz kz dz] w fun e w'=>AnsL NeedR fz kz dz w e w':=by
 by_cases hk:chk fz kz dz=0
 ·obtain⟨fs,kiln,days,hc,rfl,rfl,rfl⟩:=zDo hk;unfold cz3;rw[List.length_map] at hcap;rw[List.length_map,vN];exact (zX6 hc hcap w (zI9 hF) (zJc hD)).mono fun e w' h=>zQz hc h
 ·exact zPd hk (zWs hfl hdl hk w hF hD)
theorem zVd (hfl:fz.length<1000000) (hdl:dz.length<1000000) (w:World) (hF:RdL FltZ.cells 4 w fA fz) (hD:RdL zcell 1 w dA dz):Calls Tryz.prog 42 #[cz3 fA dA fc dc fz kz dz] w fun e w'=>AnsL NeedR fz kz dz w e w':=by
 by_cases hk:chk fz kz dz=0
 ·obtain⟨fs,kiln,days,hc,rfl,rfl,rfl⟩:=zDo hk;unfold cz3;rw[List.length_map,vN];exact (zU5 hc w (zI9 hF) (zJc hD)).mono fun e w' h=>zQz hc h
 ·exact zPd hk (zUd hfl hdl hk w hF hD)
end
end
section
variable {T:List Res} {w0:World} {x:CZ}
theorem zY0 {n m:Nat} (h:(decide (20<n)||decide (20<m)||(decide (n=3)&&decide (2<m)))=false):n<=20∧m<=20:=by
 simp at h;omega
def Seen (w0:World) (T:List Res) (x:CZ):Prop:=∀{N:Nat} {ds:List Deferred} {fr:List (Nat×Value)} {hp:List Res} {a:Act} {w:World},(∀r∈T,r∈hp)->At ⟨Tryz.prog,w0.heap.size,w0,N,ds⟩ fr hp a w->x.Rd w
theorem Seen.old [I:Sys] (h:x.Rd w0):Seen w0 T x:=fun _ ha=>h.later ha.below
theorem Seen.own [I:Sys] (h:∀r∈x.rows,r∈T):Seen w0 T x:=fun hT ha=>jCf ha fun r hr=>hT r (h r hr)
theorem zQ6 {x0 x1 x2:CZ} {P:CZ->Prop} (h0:P x0) (h1:P x1) (h2:P x2) {k:Nat} {x:CZ} (h:([x0,x1,x1,x2]:List CZ)[k]?=some x):P x:=by
 have hm:=List.mem_of_getElem? h;simp only[List.mem_cons,List.not_mem_nil,or_false] at hm
 rcases hm with rfl|rfl|rfl|rfl
 ·exact h0
 ·exact h1
 ·exact h1
 ·exact h2
theorem zWv {fz:List FltZ} {kz:Int} {dz:List Int} {y:List Nat×Nat} (h:RawP NeedR (fun c=>([],c)) fz kz dz y):y.1.length<=3:=by
 rcases h with ⟨_,rfl⟩|⟨fs,kiln,days,hc,_,_,_,rfl⟩
 ·exact Nat.zero_le _
 ·split
  ·exact Nat.le_trans (zK4 _) hc.f3
  ·exact Nat.zero_le _
theorem zT5 [I:Sys] {C:Ctx} {fr:List (Nat×Value)} {hp:List Res} {a:Act} {w:World} (ha:At C fr hp a w) {A:Option Addr} {c n:Nat} {l:List Nat} [hr:InR A 3 1 n c (ints l) hp] (hn:n=l.length):RdL zcell 1 w A (toZs l):=RdL.mapped (fun (n:Nat)=>(n:Int)) (zNo ha hn) (fun _=>rfl)
end
section
variable [I:Sys]
theorem F.ent10:Enters Tryz.prog 10:=jD Tryz.func10 rfl kr
theorem F.ent12:Enters Tryz.prog 12:=jD Tryz.func12 rfl kr
theorem F.ent18:Enters Tryz.prog 18:=jD Tryz.func18 rfl kr
theorem F.ent41:Enters Tryz.prog 41:=jD Tryz.func41 rfl kr
theorem F.ent42:Enters Tryz.prog 42:=jD Tryz.func42 rfl kr
theorem F.ent44:Enters Tryz.prog 44:=jD Tryz.func44 rfl kr
theorem zMi [R:ReaC] {fA dA nA:Option Addr} {fc dc0 nc:Nat} {fz:List FltZ} {kz sg pw gn nw:Int} {wd:Bool} {dz nums:List Int} (f0:fA=none->fz=[]∧fc=0) (d0:dA=none->dz=[]∧dc0=0) (hw:∀y∈fz,y.wf) (hf:FltZ.wf ⟨pw,gn,nw,wd⟩) (w:World) (hF:RdL FltZ.cells 4 w fA fz) (hD:RdL zcell 1 w dA dz) (hN:RdL icell 1 w nA nums) (hR:RdC w):Calls Tryz.prog 8 #[.agg #[.slice fA fz.length fc,.int .i64 kz,.slice dA dz.length dc0],.agg #[.int .i64 pw,.int .i64 gn,.int .i64 nw,.bool wd],.int .i64 sg,.slice nA nums.length nc] w fun e w'=>e=.returned (.bool true)∧Grew w w' []:=by
 refine enter (N:=95) [(0,.agg #[.slice fA fz.length fc,.int .i64 kz,.slice dA dz.length dc0]),(1,.agg #[.int .i64 pw,.int .i64 gn,.int .i64 nw,.bool wd]),(2,.int .i64 sg),(3,.slice nA nums.length nc)] Tryz.func8 J Tryz.ntmps8 J J (csr (jN J J ?_));intro b4;refine jN J J ?_;intro b5;refine lax J J (zF (csr (zY J J F.agg25 F.ti25 (jG (v:=.bool (decide (20<fz.length)||decide (20<dz.length)||(decide (fz.length=3)&&decide (2<dz.length)))) (vs:=[_]) J J F.ent10 (fun a w ha=>jCq w) ?_))))
 refine lnx (kD J (fun hc0=>?_) (fun hc0=>?_))
 ·exact csr (jG (v:=.bool true) (vs:=[]) J J F.ent11 (fun a w ha=>zLt w (hR.later ha.below)) (lax J J (zS (zO (jB J (fun a w ha=>jL J J ha) (fun a w ha=>⟨rfl,ha.grown nsl⟩))))))
 ·refine zR (zE (zF (jY [] F.follows 7 J [false,false,false,false,false,false,false] J (zC 0 J J J (qB J F.agg25 F.ti25) (zC 1 J J J (qB J F.agg27 F.ti27) (zC 2 J J J (zW J) (zC 3 J J J (zW J) (an1 4 J (kV (X:=Nat) (vs:=[_]) (p:=fun _=>True) (val:=fun b=>pt b) (rs:=fun b=>[.blk b (hatO nA nums.length nc 0 11400714819323198485)]) J J F.ent13 (fun a w ha=>(zXb nA nums.length nc w).mono (fun e w' h=>by obtain⟨b,h1,h2⟩:=h;exact⟨b,trivial,h1,h2⟩)) ?_)))))))));intro hb _;dsimp only[List.cons_append,List.nil_append];refine zB (anb (an1 5 J (zAt (X:=Nat×Nat×Nat×CZ×CZ) (vs:=[_,_,_,_]) hb (fun y=>hatO nA nums.length nc y.1 y.2.1) (fun y=>.row 25 3 (some ⟨y.2.2.1,0,none⟩) 4 4 ([(⟨fA,fc,fz,kz,dA,dc0,dz⟩:CZ),y.2.2.2.1,y.2.2.2.1,y.2.2.2.2].flatMap CZ.cells)::(y.2.2.2.1.rows++y.2.2.2.2.rows)) (fun y=>y.1<=0+110∧y.2.1<18446744073709551616∧y.2.2.2.1.Fine∧y.2.2.2.1.Ok∧y.2.2.2.2.Ok∧y.2.2.2.2.fz.length=y.2.2.2.1.fz.length∧y.2.2.2.2.dz.length=y.2.2.2.1.dz.length) (fun y=>.slice (some ⟨y.2.2.1,0,none⟩) 4 4) J J F.ent12 (fun a w ha=>(zVz J J hN (tk:=0) om om hf ha).mono (fun e w' h=>by obtain⟨t',s',b',o',q',h1,h2,h3,h4,h5,h6,h7,h8,h9⟩:=h;exact⟨(t',s',b',o',q'),⟨h1,h2,h3,h4,h5,h6,h7⟩,h8,h9⟩)) ?_)));rintro⟨tk1,st1,bs,own,other⟩ ⟨htk1,hst1,hfine,hok1,hok2,hl2,hd2⟩;dsimp only[CZ.rows,List.cons_append,List.nil_append] at htk1 hst1 hfine hok1 hok2 hl2 hd2 ⊢;refine zB (anb (zC 6 J J J (kQ J) (adn (zE (zF (csr (lax J J (zU ?_))))))));obtain⟨hv1,hv2⟩:=zY0 hc0;refine xC (G:=Nat) (fun k=>k<=4) (fun k=>4-k) (fun k=>[(9,.slice (some ⟨bs,0,none⟩) 4 4),(10,.int .i64 (k:Int))]) (fun _=>[.row 25 3 (some ⟨bs,0,none⟩) 4 4 (([(⟨fA,fc,fz,kz,dA,dc0,dz⟩:CZ),own,own,other]:List CZ).flatMap CZ.cells),.row 27 4 own.fA own.fz.length own.fc (own.fz.flatMap FltZ.cells),.row 3 1 own.dA own.dz.length own.dc (own.dz.flatMap zcell),.row 27 4 other.fA other.fz.length other.fc (other.fz.flatMap FltZ.cells),.row 3 1 other.dA other.dz.length other.dc (other.dz.flatMap zcell)]) 0 (Nat.zero_le _) sbn pkk ?_;intro k hk0;(try dsimp only at hk0 ⊢);refine zF (csr (zA J J (zA J J (jQ J J U30 (zG J J J jW ?_)))))
  refine lnx (zJ J (fun hc1=>?_) (fun hc1=>?_))
  ·have hk4:k<4:=om;obtain⟨x,hx⟩:∃x,([(⟨fA,fc,fz,kz,dA,dc0,dz⟩:CZ),own,own,other]:List CZ)[k]?=some x:=⟨_,List.getElem?_eq_getElem hk4⟩;have hxok:x.Ok:=zQ6 ⟨hw,f0,d0,hv1,hv2⟩ hok1 hok2 hx;have hxr:Seen w [.row 25 3 (some ⟨bs,0,none⟩) 4 4 (([(⟨fA,fc,fz,kz,dA,dc0,dz⟩:CZ),own,own,other]:List CZ).flatMap CZ.cells),.row 27 4 own.fA own.fz.length own.fc (own.fz.flatMap FltZ.cells),.row 3 1 own.dA own.dz.length own.dc (own.dz.flatMap zcell),.row 27 4 other.fA other.fz.length other.fc (other.fz.flatMap FltZ.cells),.row 3 1 other.dA other.dz.length other.dc (other.dz.flatMap zcell)] x:=zQ6 (P:=Seen w _) (Seen.old ⟨hF,hD⟩) (Seen.own (by intro r hr;simp only[CZ.rows,List.mem_cons,List.not_mem_nil,or_false] at hr ⊢;rcases hr with rfl|rfl<;>simp)) (Seen.own (by intro r hr;simp only[CZ.rows,List.mem_cons,List.not_mem_nil,or_false] at hr ⊢;rcases hr with rfl|rfl<;>simp)) hx;obtain⟨xA,xc,xf,xk,xD,xd,xz⟩:=x;obtain⟨xw,xf0,xd0,xfl,xdl⟩:=hxok;dsimp only at xw xf0 xd0 xfl xdl;refine zR (zE (zF (zU (csr (zA J J (zA J J (kI (j:=k) J J J U30 F.ti25 J hk4 ?_)))))))
   refine qI (l:=[.slice xA xf.length xc,.int .i64 xk,.slice xD xz.length xd]) J J F.agg25 F.ti25 J (fun a w ha j u hu=>by
    obtain⟨b9,o9,h1,_,h3⟩:=kS ha (cells:=CZ.cells) (size:=3) (e:=25) (c:=4) (n:=4) (l:=([(⟨fA,fc,fz,kz,dA,dc0,dz⟩:CZ),own,own,other]:List CZ)) (fun _=>rfl) (InR.mem (A:=some ⟨bs,0,none⟩)) J (by simp)
    cases h1
    exact h3 k _ hx j u hu) ?_
   refine kV (X:=Option Addr×Nat×Option Addr×Nat) (vs:=[_]) (p:=fun _=>True) (val:=fun g=>.agg #[.slice g.1 xf.length g.2.1,.int .i64 xk,.slice g.2.2.1 xz.length g.2.2.2]) (rs:=fun g=>[.row 27 4 g.1 xf.length g.2.1 (xf.flatMap FltZ.cells),.row 3 1 g.2.2.1 xz.length g.2.2.2 (xz.flatMap zcell)]) J J F.ent14 (fun a w ha=>(jBr (fz:=xf) (dz:=xz) xf0 xd0 om om w (hxr (fun r hr=>by repeat (first|exact hr|apply List.mem_cons_of_mem)) ha).f (hxr (fun r hr=>by repeat (first|exact hr|apply List.mem_cons_of_mem)) ha).d).mono (fun e w' h=>by obtain⟨A',c',D',dc',h1,h2⟩:=h;exact⟨(A',c',D',dc'),trivial,h1,h2⟩)) ?_;rintro⟨A1,c1,D1,dc1⟩ -;dsimp only[List.cons_append,List.nil_append];refine zZ J F.ti25 ?_;intro b11;refine zD J J F.ti25 J (lnx (csr (zY J J F.agg25 F.ti25 (kV (X:=Option Addr×Nat×List Nat×Nat) (vs:=[_]) (p:=fun y=>RawP NeedR (fun c=>([],c)) xf xk xz y.2.2) (val:=fun y=>.tuple #[.slice y.1 y.2.2.1.length y.2.1,.int .i64 (y.2.2.2:Int)]) (rs:=fun y=>[.row 3 1 y.1 y.2.2.1.length y.2.1 (ints y.2.2.1)]) J J F.ent41 (fun a w ha=>(zXq (fz:=xf) (dz:=xz) om om (zY8 (A:=A1) ha) w (kS ha (cells:=FltZ.cells) (size:=4) (e:=27) (c:=c1) (n:=xf.length) (l:=xf) (fun _=>rfl) (InR.mem (A:=A1)) J) (kS ha (cells:=zcell) (size:=1) (e:=3) (c:=dc1) (n:=xz.length) (l:=xz) (fun _=>rfl) (InR.mem (A:=D1)) J)).mono (fun e w' h=>by obtain⟨A',c',y,h1,h2,h3⟩:=h;exact⟨(A',c',y),h1,h2,h3⟩)) ?_))));rintro⟨A5,c5,l1,e1⟩ hp1;dsimp only[List.cons_append,List.nil_append] at hp1 ⊢;have hl1:=zWv hp1;dsimp only at hl1;refine zA J J (jE J J J (jE J J J (zH J J (lax J J (csr (zA J J (zA J J (kI (j:=k) J J J U30 F.ti25 J hk4 ?_))))))))
   refine qI (l:=[.slice xA xf.length xc,.int .i64 xk,.slice xD xz.length xd]) J J F.agg25 F.ti25 J (fun a w ha j u hu=>by
    obtain⟨b9,o9,h1,_,h3⟩:=kS ha (cells:=CZ.cells) (size:=3) (e:=25) (c:=4) (n:=4) (l:=([(⟨fA,fc,fz,kz,dA,dc0,dz⟩:CZ),own,own,other]:List CZ)) (fun _=>rfl) (InR.mem (A:=some ⟨bs,0,none⟩)) J (by simp)
    cases h1
    exact h3 k _ hx j u hu) ?_
   refine kV (X:=Option Addr×Nat×List Nat×Nat) (vs:=[_]) (p:=fun y=>RawP NeedR (fun c=>([],c)) xf xk xz y.2.2) (val:=fun y=>.tuple #[.slice y.1 y.2.2.1.length y.2.1,.int .i64 (y.2.2.2:Int)]) (rs:=fun y=>[.row 3 1 y.1 y.2.2.1.length y.2.1 (ints y.2.2.1)]) J J F.ent42 (fun a w ha=>(zVd (fz:=xf) (dz:=xz) om om w (hxr (fun r hr=>by repeat (first|exact hr|apply List.mem_cons_of_mem)) ha).f (hxr (fun r hr=>by repeat (first|exact hr|apply List.mem_cons_of_mem)) ha).d).mono (fun e w' h=>by obtain⟨A',c',y,h1,h2,h3⟩:=h;exact⟨(A',c',y),h1,h2,h3⟩)) ?_;rintro⟨A6,c6,l2,e2⟩ hp2;dsimp only[List.cons_append,List.nil_append] at hp2 ⊢;obtain⟨rfl,rfl⟩:=Prod.ext_iff.1 (NeedR.uniq hp1 hp2);dsimp only;refine zA J J (jE J J J (jE J J J (zH J J (lax J J (csr (zY J J F.agg25 F.ti25 (kV (X:=Nat×Nat) (vs:=[_]) (p:=fun y=>RawP KilnR E0 xf xk xz y) (val:=fun y=>.tuple #[.int .i64 (y.1:Int),.int .i64 (y.2:Int)]) (rs:=fun _=>[]) J J F.ent43 (fun a w ha=>(jC7 (fz:=xf) (dz:=xz) om om w (kS ha (cells:=FltZ.cells) (size:=4) (e:=27) (c:=c1) (n:=xf.length) (l:=xf) (fun _=>rfl) (InR.mem (A:=A1)) J) (kS ha (cells:=zcell) (size:=1) (e:=3) (c:=dc1) (n:=xz.length) (l:=xz) (fun _=>rfl) (InR.mem (A:=D1)) J)).mono (fun e w' h=>by obtain⟨y,h1,h2,h3⟩:=h;exact⟨y,h1,h2,h3⟩)) ?_)))))));rintro⟨n3,e3⟩ hp3;dsimp only[List.nil_append] at hp3 ⊢;refine zA J J (jE J J J (jE J J J (zH J J (lax J J (csr (zA J J (zA J J (kI (j:=k) J J J U30 F.ti25 J hk4 ?_))))))))
   refine qI (l:=[.slice xA xf.length xc,.int .i64 xk,.slice xD xz.length xd]) J J F.agg25 F.ti25 J (fun a w ha j u hu=>by
    obtain⟨b9,o9,h1,_,h3⟩:=kS ha (cells:=CZ.cells) (size:=3) (e:=25) (c:=4) (n:=4) (l:=([(⟨fA,fc,fz,kz,dA,dc0,dz⟩:CZ),own,own,other]:List CZ)) (fun _=>rfl) (InR.mem (A:=some ⟨bs,0,none⟩)) J (by simp)
    cases h1
    exact h3 k _ hx j u hu) ?_
   refine kV (X:=Nat×Nat) (vs:=[_]) (p:=fun y=>RawP KilnR E0 xf xk xz y) (val:=fun y=>.tuple #[.int .i64 (y.1:Int),.int .i64 (y.2:Int)]) (rs:=fun _=>[]) J J F.ent44 (fun a w ha=>(jAj (fz:=xf) (dz:=xz) om om w (hxr (fun r hr=>by repeat (first|exact hr|apply List.mem_cons_of_mem)) ha).f (hxr (fun r hr=>by repeat (first|exact hr|apply List.mem_cons_of_mem)) ha).d).mono (fun e w' h=>by obtain⟨y,h1,h2,h3⟩:=h;exact⟨y,h1,h2,h3⟩)) ?_;rintro⟨n4,e4⟩ hp4;dsimp only[List.nil_append] at hp4 ⊢;obtain⟨rfl,rfl⟩:=Prod.ext_iff.1 (KilnR.uniq hp3 hp4);dsimp only;refine zA J J (jE J J J (jE J J J (zH J J (lax J J (zF (jY [] F.follows 28 J [false,false,false,false,false,false,false,false,false,false,false,false,false,false,false,false,false,false,false,false,false,false,false,false,false,false,false,false] J (zC 0 J J J (zW J) (zC 1 J J J (zW J) (zC 2 J J J (qN (v:=.bool false) J J (fun w=>by rw[kZ,decide_eq_false (fun h=>h J)])) (zC 3 J J J (zW J) (kX 4 J J J J J kr kr kr sbl (zW J) J (kX 5 J J J J J kr kr kr sbl (zW J) J (kX 6 J J J J J kr kr kr sbl (qN (v:=.bool false) J J (fun w=>by rw[kZ,decide_eq_false (fun h=>h J)])) J (zC 7 J J J (wD J J) (zC 8 J J J (zW J) (kX 9 J J J J J kr kr kr sbl (zW J) J (kX 10 J J J J J kr kr kr sbl (zW J) J (kX 11 J J J J J kr kr kr sbl (qN (v:=.bool false) J J (fun w=>by rw[kZ,decide_eq_false (fun h=>h J)])) J (zC 12 J J J (wD J J) (zC 13 J J J (zW J) (kX 14 J J J J J kr kr kr sbl (zW J) J (kX 15 J J J J J kr kr kr sbl (zW J) J (an1 16 J (zN J J ?_))))))))))))))))))))))))
   refine jG (v:=.bool true) (vs:=[_,_]) J J F.ent45 (fun a w ha=>by
    have h:=zIp (ca:=c5) (cb:=c6) (l:=toZs l1) (m:=toZs l1) (by rw[vN];omega) (by rw[vN];omega) w (zT5 (A:=A5) ha J) (zT5 (A:=A6) ha J);rw[decide_eq_true J,vN] at h
    exact h) ?_
   refine zB (anb (kX 17 J J J J J kr kr kr sbl (zEy J) J (zC 18 J J J (wD J J) (zC 19 J J J (zW J) (kX 20 J J J J J kr kr kr sbl (qB J F.agg25 F.ti25) J (kX 21 J J J J J kr kr kr sbl (zW J) J (kX 22 J J J J J kr kr kr sbl (zW J) J (kX 23 J J J J J kr kr kr sbl (qC (j:=k) J J U30 F.ti25 J hk4) J ?_))))))))
   refine kX 24 J J J J J kr kr kr sbl (vV (l:=[.slice xA xf.length xc,.int .i64 xk,.slice xD xz.length xd]) J F.agg25 F.ti25 J (fun a w ha j u hu=>by
    obtain⟨b9,o9,h1,_,h3⟩:=kS ha (cells:=CZ.cells) (size:=3) (e:=25) (c:=4) (n:=4) (l:=([(⟨fA,fc,fz,kz,dA,dc0,dz⟩:CZ),own,own,other]:List CZ)) (fun _=>rfl) (InR.mem (A:=some ⟨bs,0,none⟩)) J (by simp)
    cases h1
    exact h3 k _ hx j u hu)) J ?_
   refine an1 25 J (zN J J (jG (v:=.bool true) (vs:=[_,_]) J J F.ent18 (fun a w ha=>zUp (fz:=xf) (dz:=xz) xw om om w (kS ha (cells:=FltZ.cells) (size:=4) (e:=27) (c:=c1) (n:=xf.length) (l:=xf) (fun _=>rfl) (InR.mem (A:=A1)) J) (kS ha (cells:=zcell) (size:=1) (e:=3) (c:=dc1) (n:=xz.length) (l:=xz) (fun _=>rfl) (InR.mem (A:=D1)) J) (hxr (fun r hr=>by repeat (first|exact hr|apply List.mem_cons_of_mem)) ha).f (hxr (fun r hr=>by repeat (first|exact hr|apply List.mem_cons_of_mem)) ha).d) (zB (anb (kX 26 J J J J J kr kr kr sbl (zEy J) J (zC 27 J J J (wD J J) (adn (zE (kL J (zR (zK (zE (zL (zA J J (zG J J J (fun w=>jJ w (zV _ om om)) (zH J J (zB (kR (k+1) om tdo sbn pkk))))))))))))))))))
  ·exact jT (zM (zM (jF (zE (csr (jG (v:=.bool true) (vs:=[]) J J F.ent11 (fun a w ha=>zLt w (hR.later ha.below)) (lax J J (zS (jB J (fun a w ha=>jL J J ha) (fun a w ha=>⟨rfl,ha.grown nsl⟩))))))))))

end
section
open Go.Conc
variable {low:Nat} {msg:Nat->Value} {tW:TypeId}
def seenZ (W:World):World:={seenW W with output:=gout [0]}
theorem zU6 (W:World):Hid (Viewed W) (fun _=>False) W (seenZ W):=by
 have h:=zUb W;exact⟨h.1,h.2,h.3,h.4,h.5,h.6,h.7,h.8,h.9,h.10⟩
theorem zSm {W:World} {p:Addr} {u:Value} (h:W.cell? p=some u):(seenZ W).cell? p=some u:=zTa h
section
variable {P:Program} {W:World} {f:FuncId} {args:Array Value} {Post:Value->World->Prop}
theorem zPw {F:Nat->Prop} {w w' v':World} (hk:Kept F (fun _=>False) w w') (hv:Hid F (fun _=>False) w' v') (hb:Bas W (Viewed W) (fun i=>i=0) (fun _=>F) w) (hv0:Below (seenZ W).heap.size (seenZ W) v'):Below W.heap.size W w':=by
 refine⟨hk.os.trans hb.os,hk.tape.trans hb.tape,hk.output.trans hb.output,Nat.le_trans hb.size hk.size,fun b hlt=>?_⟩
 by_cases hF:F b
 ·rw[hk.block b (Nat.lt_of_lt_of_le hlt hb.size) (.inl hF)];exact (hb.held b (hb.new b hlt hF)).2.1
 ·rw[<-hv.same b hF (fun x=>x),hv0.block b (by simpa[seenZ,seenW] using hlt)];show (seenW W).heap[b]?=_;rw[zBl]
  cases h:W.heap[b]? with
  | none=>rfl
  | some o =>
   cases o with
   | view p t=>exact absurd ((hb.held b ⟨p,t,h⟩).2.2 0 rfl) hF
   | _=>rfl
def sig0:Cst:=⟨0,0,0,[],0,false,false,false,0,0,.rest,[],[],fun _=>none,[]⟩
theorem zSk:sig0.blank:=⟨fun _=>rfl,rfl,rfl,rfl,rfl,rfl,rfl,rfl,rfl⟩
theorem jAd (low:Nat):Cok low sig0:=by
 refine⟨List.nodup_nil,rfl,fun j=>?_,fun j p h=>(by cases h),fun b hb=>(by cases hb),fun h=>(by cases h),fun h=>(by cases h),fun h=>(by cases h),by decide,rfl,.nil,zSk⟩
 constructor
 ·intro h;cases h
 ·rintro⟨p,h⟩;cases h
theorem jA0 {σ:Cst} (hok:Cok low σ) (h:σ.gh 0=some [0]):Alone (Cp low tW msg) σ∧σ.lent=[]∧∀c,¬(Cst.ts σ).Ca c:=by
 rw[zA7] at h;have hp:=hok.phase
 cases hm:σ.mn<;>rw[hm] at h<;>simp[Mn.enc] at h
 unfold Cst.phase at hp;rw[hm] at hp;obtain⟨h1,h2,h3,h4,h5,h6,h7,h8,h9⟩:=hp
 refine⟨?_,h9,fun c hc=>?_⟩
 ·refine⟨fun j hj=>zA1 hj h1,?_⟩;show (Cst.ts σ).D 0=0;simp[Cst.ts,hm,Mn.deaf]
 ·rcases hc with ⟨h,_⟩|⟨h,_⟩<;>omega
theorem zKo (hK:low=W.heap.size) (noInit:P.inits.idxOf? f=none)
  (h : @Calls P (zSys P (Cp low tW msg)) f args (seenZ W) fun e v'=>∃x,e=.returned x∧Below (seenZ W).heap.size (seenZ W) v'∧∀W',Below W.heap.size W W'->Post x W') :
  ∃N last o w' t',runNT P (N+1) (solo (G (Frame.enter P f args .normal) []) W) #[]=(.ended o w',t')∧runN P N (solo (G (Frame.enter P f args .normal) []) W)=.next last∧step P last=.ended o w'∧Go.Conc.Good P Post last o w' t':=by
 refine jBx (K:=Cp low tW msg) (σ:=sig0) (γ:=[0]) zY2 hK (zU6 W) J (jAd low) J (fun j hj=>zA8 hj J) (fun b hb=>(by cases hb)) J J (@Gs.mono P (zSys P (Cp low tW msg)) _ _ _ _ (h []) fun g v' hs=>?_);obtain⟨e,fr,v₀,⟨x,rfl,hb,hp⟩,hr,rfl,hfn,hm,hd,hkd,fn,hf,ht,hres⟩:=hs;have hb':Below (seenZ W).heap.size (seenZ W) v':=hb.trans (hr.mono hb.size);refine⟨rfl,⟨[0],hb'.output,fun σ hok hg=>jA0 hok hg⟩,fun F w hv hbas=>?_⟩;obtain⟨w',h1,h2,h3,h4,h5⟩:=ht.ok (hres v' (Rl.refl v')) hv;have hno:P.inits.idxOf? fr.fn=none:=by rw[hfn];exact noInit
 refine⟨x,w',seen P fr.fn ((results fn fr.tmps).events P v' #[]),?_,?_,hp w' (zPw h4 h3 hbas hb')⟩
 ·rw[<-h2];simp[G,stepG,unwind,doReturn,hm,hd,hkd,hf,h1,hno,GStep.after]
 ·rw[<-hv.size];exact fun e he=>h5 e (Go.Conc.mem_seen he)
end
theorem zBk {H:Type} {enc:TypeId×Value->H} {a:Assume} {C:Checked} {os:Os} {f:FuncId} {fn:Func} {s:ChangeSpec} {conds:List PathCond} {apart fresh handsOn again:Bool} (tW:TypeId) (msg:Nat->Value)
  (own:ownKnob C.prog.godebug=none) (started:os.Started) (noInit:C.prog.inits.idxOf? f=none) (hfn:C.prog.funcs[f]?=some fn)
  (witness:∃(w:World) (tape:Tape) (i:Input),w.os=os∧(w.forCall tape i).Shaped C.prog∧i.vars=[]∧Input.okWide C.prog (w.forCall tape i) .any w.heap.size f i ∧
   s.pre6 enc C.prog fn conds apart (w.forCall tape i).memory i.args∧a.holds C.prog (lone (Frame.enter C.prog f i.args .normal) [] (w.forCall tape i)))
  (contract:∀(W:World) (base:Nat) (args:Array Value) (ds gs:List (DataW H)) (before:List MemPlace),
   (∀(j:Nat) t v,fn.params[j]?=some t->args[j]?=some v->Value.okWide C.prog W .any base t v) ->
   DataW.Whole enc C.prog fn.params.toList s.vars apart W args.toList ds gs before ->
   conds.all (PathCond.test C.prog ⟨fn.params.toList,ds,s.plain.varTypes C.prog,gs⟩)=true ->
   (DataW.weightsEach C.prog (fn.params.toList++s.plain.varTypes C.prog) (ds++gs)).all (·<=reachBytes)=true ->
   a.holds C.prog (lone (Frame.enter C.prog f args .normal) [] W) ->
   @Calls C.prog (zSys C.prog (Cp W.heap.size tW msg)) f args (seenZ W) fun e v'=>∃x,e=.returned x∧Below (seenZ W).heap.size (seenZ W) v'∧∀W',Below W.heap.size W W'->s.post enc C.prog fn apart fresh handsOn again W args x W') :
  ReturnsInLeavingWide a C os f .any (s.pre6 enc C.prog fn conds apart) (s.post enc C.prog fn apart fresh handsOn again):=by
 refine returnsInLeavingWide_of_good own started witness ?_;intro w tape i _ _ _ hok hpre hholds;obtain⟨_,_,_,fn',hfn',_,_,_,_,hval⟩:=hok;have e:fn'=fn:=Option.some.inj (hfn'.symm.trans hfn);subst e;obtain⟨⟨ds,gs,before,hw,hc⟩,hz⟩:=hpre;have hw':=DataW.Whole.of_heap (w':=w.forCall tape i) (by rfl) hw;have hcalls:=contract (w.forCall tape i) w.heap.size i.args ds gs before hval hw' hc (hz.weights hw) hholds;obtain⟨M,last,o,w',t',h1,h2,h3,h4⟩:=zKo J noInit hcalls;exact⟨M,last,o,w',t',h1,h2,h3,h4.mono fun v hp=>ChangeSpec.post_blind hp⟩
end
end Go.Proofs.YteppiphdbondeaaGreat.N
/- What rows of laws about char share: the program's closed facts, and the law from its call in company. -/
namespace Go.Proofs.YteppiphdbondeaaGreat.N
open Go Go.ChangeShapes Go.WideShapes Go.ChangeAt Go.RowKit Go.Proofs Go.Proofs.YteppiphdbondeaaGreat Go.Proofs.YteppiphdbondeaaGreat.Rows
set_option linter.unusedSectionVars false
theorem own_:ownKnob Tryz.prog.godebug=Option.none:=by kernel_rfl
theorem zOl:laidOutB Tryz.prog=true:=by kernel_rfl
theorem zKz:Tryz.prog.cellsOf 3=1:=by kernel_rfl
theorem zVr:Tryz.prog.underlying 23=some (.slice 3):=by kernel_rfl
theorem zM2:Tryz.prog.underlying 3=some (.int .i64):=by kernel_rfl
theorem zYw:Tryz.prog.underlying 4=some .bool:=by kernel_rfl
theorem zZw:Tryz.prog.readableRec 23=true:=by kernel_rfl
set_option maxRecDepth 100000 in
theorem jDu:23<Tryz.prog.types.size:=of_decide_eq_true (by kernel_rfl)
theorem zIk {α:Type} {cells:α->List Value} {size:Nat} {W:World} {A:Option Addr} {l:List α} (h:RdL cells size W A l):RdL cells size (seenZ W) A l:=fun hl=>by
 obtain⟨b,o,h1,h2,h3⟩:=h hl;exact⟨b,o,h1,by simpa[seenZ,seenW] using h2,fun k x hk j u hu=>zSm (h3 k x hk j u hu)⟩
abbrev ZS (W:World):Sys:=zSys Tryz.prog (Cp W.heap.size 158 msgM)
def orderN:List Nat:=[104,97,114,110,101,115,115,32,48,54,49,51,49,99,97,48,49,54,101,97,100,102,48,51,102,57,97,100,49,54,102,55,49,53,56,54,56,53,50,50,99,48,48,49,51,57,48,55,101,97,57,51,53,54,52,57,55,51,57,53,55,101,98,49,102,52,55,54,50,57,48,57,32,99,117,116,32,97,116,32,109,117,115,99,111,118,97,100,111,47,109,117,115,99,111,118,97,100,111,108,97,119,48,52,46,67,104,97,114,70,101,119,101,115,116,115,32,109,117,115,99,111,118,97,100,111,47,109,117,115,99,111,118,97,100,111,108,97,119,48,52,46,67,104,97,114,66,117,121,115,32,109,117,115,99,111,118,97,100,111,47,109,117,115,99,111,118,97,100,111,108,97,119,48,52,46,67,104,97,114,65,103,97,105,110,115,32,109,117,115,99,111,118,97,100,111,47,109,117,115,99,111,118,97,100,111,108,97,119,48,52,46,67,104,97,114,67,111,117,114,115,101,115,32,109,117,115,99,111,118,97,100,111,47,109,117,115,99,111,118,97,100,111,108,97,119,48,52,46,67,104,97,114,70,97,105,108,115,32,109,117,115,99,111,118,97,100,111,47,109,117,115,99,111,118,97,100,111,108,97,119,48,52,46,67,104,97,114,78,101,101,100,101,100,115,32,109,117,115,99,111,118,97,100,111,47,109,117,115,99,111,118,97,100,111,108,97,119,48,52,46,67,104,97,114,77,111,115,116,115]
def wordsN:List (List Nat):=[[104,97,114,110,101,115,115],[48,54,49,51,49,99,97,48,49,54,101,97,100,102,48,51,102,57,97,100,49,54,102,55,49,53,56,54,56,53,50,50,99,48,48,49,51,57,48,55,101,97,57,51,53,54,52,57,55,51,57,53,55,101,98,49,102,52,55,54,50,57,48,57],[99,117,116],[97,116],[109,117,115,99,111,118,97,100,111,47,109,117,115,99,111,118,97,100,111,108,97,119,48,52,46,67,104,97,114,70,101,119,101,115,116,115],[109,117,115,99,111,118,97,100,111,47,109,117,115,99,111,118,97,100,111,108,97,119,48,52,46,67,104,97,114,66,117,121,115],[109,117,115,99,111,118,97,100,111,47,109,117,115,99,111,118,97,100,111,108,97,119,48,52,46,67,104,97,114,65,103,97,105,110,115],[109,117,115,99,111,118,97,100,111,47,109,117,115,99,111,118,97,100,111,108,97,119,48,52,46,67,104,97,114,67,111,117,114,115,101,115],[109,117,115,99,111,118,97,100,111,47,109,117,115,99,111,118,97,100,111,108,97,119,48,52,46,67,104,97,114,70,97,105,108,115],[109,117,115,99,111,118,97,100,111,47,109,117,115,99,111,118,97,100,111,108,97,119,48,52,46,67,104,97,114,78,101,101,100,101,100,115],[109,117,115,99,111,118,97,100,111,47,109,117,115,99,111,118,97,100,111,108,97,119,48,52,46,67,104,97,114,77,111,115,116,115]]
set_option maxRecDepth 100000 in
theorem jCk:Tryz.prog.initOrder=String.ofList (orderN.map Char.ofNat):=by kernel_rfl
theorem jAm:Tryz.prog.initOrder.toList=orderN.map Char.ofNat:=by rw[jCk,String.toList_ofList]
def wordN (k:Nat):List Char:=(wordsN.getD k []).map Char.ofNat
def wordR:List (List Char):=(wordsN.drop 3).map (·.map Char.ofNat)
set_option maxRecDepth 100000 in
theorem jAs:wordsSigns Tryz.prog.initOrder.toList=wordN 0::wordN 1::wordN 2::wordR:=by
 rw[jAm]
 kernel_rfl
theorem zTu {a b : List Char} {r : List (List Char)} (h1 : (a == "harness".toList || a == "ownmain".toList) = true) (h2 : isSumSigns b = true) : behindMainWord (a :: b :: r) = r := by
 unfold behindMainWord;dsimp only;rw[h1,h2]
 rfl
theorem zPa:behindMainWord (wordsSigns Tryz.prog.initOrder.toList)=wordN 2::wordR:=by
 rw[jAs];exact zTu kr kr
theorem zY6 {P : Program} {c : List Char} {rest : List (List Char)} (h : behindMainWord (wordsSigns P.initOrder.toList) = c :: rest) (h1 : (c == "gc".toList || c == "spec".toList) = false) (h2 : (c == "cut".toList) = true) : P.make = some .cut := by
 unfold Program.make;rw[h];dsimp only;rw[h1,h2]
 rfl
theorem jCn {P : Program} {c : List Char} {rest : List (List Char)} (h : behindMainWord (wordsSigns P.initOrder.toList) = c :: rest) (h1 : (stripLifts liftWords (c :: rest)).1 = []) (h2 : ((stripLifts liftWords (c :: rest)).2.head? == some "cut".toList) = true) (h3 : P.laysLater = false) (h4 : P.bearsReflect = false) (h5 : P.doorFits [] = true) : P.mayEnter = true := by
 unfold Program.mayEnter;rw[h];dsimp only;rw[h1,h2,h3,h4,h5];simp
theorem zYc {P : Program} {c : List Char} {rest : List (List Char)} (h : behindMainWord (wordsSigns P.initOrder.toList) = c :: rest) (h1 : (stripLifts liftWords (c :: rest)).1 = []) (h2 : (c == "carried".toList) = false) : P.liftsFinal = false := by
 have e : (some c == some "carried".toList) = false := h2;unfold Program.liftsFinal Program.headLifts;dsimp only;rw [h, h1, List.head?_cons, e];simp
theorem zI5:(stripLifts liftWords (wordN 2::wordR)).1=[]:=by kernel_rfl
set_option maxRecDepth 100000 in
theorem jDe:Tryz.prog.make=some .cut:=zY6 zPa (by kernel_rfl) (by kernel_rfl)
set_option maxRecDepth 100000 in
theorem jCh:Tryz.prog.liftsFinal=false:=zYc zPa zI5 (by kernel_rfl)
set_option maxRecDepth 100000 in
theorem zTe:Tryz.prog.laysLater=false:=by kernel_rfl
set_option maxRecDepth 100000 in
theorem zMj:Tryz.prog.bearsReflect=false:=by kernel_rfl
set_option maxRecDepth 100000 in
theorem jDd:Tryz.prog.doorFits []=true:=by kernel_rfl
set_option maxRecDepth 100000 in
theorem may_:Tryz.prog.mayEnter=true:=jCn zPa zI5 (by kernel_rfl) zTe zMj jDd
set_option maxRecDepth 100000 in
theorem zSs:mapsRowed Tryz.prog=true:=by kernel_rfl
set_option maxRecDepth 100000 in
theorem zS7:Tryz.prog.plainKeys=false:=by kernel_rfl
set_option maxRecDepth 100000 in
theorem zQe:Tryz.prog.stopsHeard=true:=by kernel_rfl
end Go.Proofs.YteppiphdbondeaaGreat.N
namespace Go.Proofs.YteppiphdbondeaaGreat.N
set_option linter.unusedSectionVars false
open Go.RowKit
section
theorem zWr (W:World) : @RdC (ZS W) (reaC_main W.heap.size) (seenZ W):=⟨by show W.heap.size<=(seenZ W).heap.size;simp[seenZ,seenW],rfl⟩
end
end Go.Proofs.YteppiphdbondeaaGreat.N
/- What rows of laws that compare char with the reference share: char, filters and lists of numbers out of what the statement lets the input be. -/
namespace Go.Proofs.YteppiphdbondeaaGreat.N
open Go Go.ChangeShapes Go.WideShapes Go.ChangeAt Go.RowKit Go.Proofs Go.Proofs.YteppiphdbondeaaGreat Go.Proofs.YteppiphdbondeaaGreat.Rows
set_option linter.unusedSectionVars false
theorem zFx {H:Type} {enc:TypeId×Value->H} {W W':World} (hn:Below W.heap.size W W'):∀{ts:List TypeId} {vs:List Value} {ds:List (DataW H)} {ps:List MemPlace},
  (∀t∈ts,Tryz.prog.readableRec t=true∧t<Tryz.prog.types.size)->DataW.TrodAll enc Tryz.prog W 0 (fun _=>true) true ts vs ds ps->(∀x∈ps,x.block<W.heap.size) ->
  DataW.TrodAll enc Tryz.prog W' 0 (fun b=>decide (b<W.heap.size)) true ts vs ds ps
 | [],_,_,_,_,h,_=>by
  obtain⟨rfl,rfl,rfl⟩:=trodAll_nil h
  exact trodAll_mk0
 | t::ts,vs,ds,ps,hr,h,hlt=>by
  obtain⟨v,vs',d,ds',p,q,rfl,rfl,rfl,h1,h2⟩:=trodAll_cons h;exact trodAll_cons_mk (Below.trod zOl (hr t (by simp)).1 (hr t (by simp)).2 h1 hn (fun x hx=>hlt x (List.mem_append_left _ hx))) (zFx hn (fun u hu=>hr u (by simp[hu])) h2 (fun x hx=>hlt x (List.mem_append_right _ hx)))
set_option maxRecDepth 100000 in
theorem zP2 {H:Type} {enc:TypeId×Value->H} {f:FuncId} {fn:Func} {s:ChangeSpec} (hr:fn.resultTypes=#[4]) (hs:s.vars=[]) (hread:∀t∈fn.params.toList,Tryz.prog.readableRec t=true∧t<Tryz.prog.types.size)
  {W:World} {args:Array Value} {ds gs:List (DataW H)} {before:List MemPlace} (hfn:s.fn H ds={results:=[.lit (.bool true)],args:=ds})
  (hW:DataW.Whole enc Tryz.prog fn.params.toList s.vars false W args.toList ds gs before)
  (hc : @Calls Tryz.prog (ZS W) f args (seenZ W) fun e w'=>e=.returned (.bool true)∧Grew (seenZ W) w' []) :
  @Calls Tryz.prog (ZS W) f args (seenZ W) fun e v'=>∃x,e=.returned x∧Below (seenZ W).heap.size (seenZ W) v'∧∀W',Below W.heap.size W W'->s.post enc Tryz.prog fn false true false false W args x W':=by
 have hW':=hW;obtain⟨p,q,hA,hV,rfl,_,_⟩:=hW;rw[hs] at hV;obtain⟨rfl,rfl⟩:=trodVars_none hV;simp only[List.append_nil] at hW';refine @Calls.mono _ (ZS W) _ _ _ _ _ hc fun e v' ⟨he,hg⟩=>⟨_,he,hg.1,fun W' hb=>?_⟩
 refine⟨_,_,_,[],p,[],hW',?_,?_,?_,hb.frame _,fun h=>Bool.noConfusion h⟩
 ·rw[List.append_nil,hfn,hr];exact trodAll_mk1 (shut_bool zYw true)
 ·rw[List.append_nil,hfn];exact zFx hb hread hA (fun x hx=>hW'.lt x hx)
 ·rw[List.append_nil,hfn,hs];rfl
set_option maxRecDepth 100000 in
theorem zGu {H:Type} {enc:TypeId×Value->H} {W:World} {fuel:Nat} {v:Value} {x:DataW H×List MemPlace} (hf:DataW.trod enc Tryz.prog W 0 (fun _=>true) true fuel 23 [v]=some x) (hlt:∀y∈x.2,y.block<W.heap.size) :
  ∃(A:Option Addr) (c:Nat) (l:List Int),v=.slice A l.length c∧RdL icell 1 W A l∧(A=Option.none->l=[]∧c=0):=by
 rcases open_ints zVr zM2 zKz hf with ⟨hcs,hx⟩|⟨a,len,cap,zs,hcs,_,hl,hm,hz,hx,hcell,hwz⟩
 ·obtain rfl:=List.singleton_inj.1 hcs;exact⟨_,_,[],rfl,fun h=>absurd h (by simp),fun _=>⟨rfl,rfl⟩⟩
 ·obtain rfl:=List.singleton_inj.1 hcs;subst hx;simp only[if_true] at hz;obtain⟨b,off,spot⟩:=a;have hlen:(zs.take len).length=len:=by rw[List.length_take];omega
  refine⟨_,cap,zs.take len,by rw[hlen],fun hpos=>?_,fun h=>by cases h⟩;rw[hlen] at hpos;have hspot:spot=Option.none:=by simpa[Addr.add] using World.cell?_spot (hcell 0 om)
  subst hspot;refine⟨b,off,rfl,hlt (.cell b off) (MemPlace.mem_row.2 ⟨0,by omega,by simp⟩),fun k x hk j u hu=>?_⟩;rw[List.getElem?_take] at hk
  split at hk
  ·rename_i hkl
   cases j with
   | zero =>
    simp[icell] at hu;subst hu;have:=hcell k om;rw[List.getD_eq_getElem?_getD,hk] at this;rw[Nat.mul_one,Nat.add_zero];rw[add_plain] at this
    exact this
   | succ j=>simp[icell] at hu
  ·cases hk
set_option maxRecDepth 100000 in
theorem zLq {H:Type} {enc:TypeId×Value->H} {W:World} {fuel:Nat} {cs:List Value} {x:DataW H×List MemPlace} (h:DataW.trod enc Tryz.prog W 0 (fun _=>true) true fuel 27 cs=some x) :
  ∃y:FltZ,y.wf∧cs=y.cells:=by
 obtain⟨xs,n,_,_,hcl,hxl,hf⟩:=DataW.trod_struct Tryz.underlying27 h;rw[co27] at hcl
 match cs,hcl with
 | [v0,v1,v2,v3],_ =>
  have key:∀v x,DataW.trod enc Tryz.prog W 0 (fun _=>true) true n 3 [v]=some x->∃m,v=.int .i64 m∧W64 m:=fun v x hx=>by
   obtain⟨m,h1,_,h3⟩:=DataW.trod_int zM2 hx;exact⟨m,List.singleton_inj.1 h1,bounds_i64 h3⟩
  have keyb:∀v x,DataW.trod enc Tryz.prog W 0 (fun _=>true) true n 4 [v]=some x->∃b,v=.bool b:=fun v x hx=>by
   obtain⟨b,h1,_⟩:=DataW.trod_bool zYw hx;exact⟨b,List.singleton_inj.1 h1⟩
  have f0:=hf 0 _ J;have f1:=hf 1 _ J;have f2:=hf 2 _ J;have f3:=hf 3 _ J;simp[zKz] at f0 f1 f2;simp[co4] at f3;obtain⟨m0,rfl,w0⟩:=key v0 _ (f0.trans (List.getElem?_eq_getElem (by simp[hxl])));obtain⟨m1,rfl,w1⟩:=key v1 _ (f1.trans (List.getElem?_eq_getElem (by simp[hxl])));obtain⟨m2,rfl,w2⟩:=key v2 _ (f2.trans (List.getElem?_eq_getElem (by simp[hxl])));obtain⟨b,rfl⟩:=keyb v3 _ (f3.trans (List.getElem?_eq_getElem (by simp[hxl])));exact⟨⟨m0,m1,m2,b⟩,⟨w0,w1,w2⟩,rfl⟩
set_option maxRecDepth 100000 in
theorem zZm {H:Type} {enc:TypeId×Value->H} {W:World} {base:Nat} {v:Value} {d:DataW H} {p:List MemPlace} (hok:Value.okWide Tryz.prog W .any base 27 v)
  (h:DataW.Trod enc Tryz.prog W 0 (fun _=>true) true 27 v d p):∃y:FltZ,y.wf∧v=.agg y.cells.toArray:=by
 obtain⟨cs,rfl,_⟩:=okWide_struct Tryz.underlying27 hok;obtain⟨fuel,hf⟩:=h;obtain⟨y,hy,hc⟩:=zLq hf;simp only[Value.cells] at hc;exact⟨y,hy,by rw[<-hc]⟩
set_option maxRecDepth 100000 in
theorem zN8 {H:Type} {enc:TypeId×Value->H} {W:World} {fuel:Nat} {v:Value} {x:DataW H×List MemPlace} (hf:DataW.trod enc Tryz.prog W 0 (fun _=>true) true fuel 22 [v]=some x) (hlt:∀y∈x.2,y.block<W.heap.size) :
  ∃(A:Option Addr) (c:Nat) (l:List FltZ),v=.slice A l.length c∧RdL FltZ.cells 4 W A l∧(∀y∈l,y.wf)∧(A=Option.none->l=[]∧c=0):=by
 rcases Go.Deep.open_slice U22 hf with ⟨hcs,hx⟩|⟨a,len,cap,m,n,D,Pl,hcs,_,hl,hm,hmm,hx,hi⟩
 ·obtain rfl:=List.singleton_inj.1 hcs;exact⟨_,_,[],rfl,fun h=>absurd h (by simp),fun y hy=>(List.not_mem_nil hy).elim,fun _=>⟨rfl,rfl⟩⟩
 ·obtain rfl:=List.singleton_inj.1 hcs;subst hx;simp only[if_true] at hmm;subst hmm;rw[co27] at hi
  obtain⟨Y,hY⟩:=Go.Deep.choose_lt (α:=FltZ) (p:=fun i y=>y.wf∧∀j u,y.cells[j]?=some u->W.cell? (a.add (i*4+j))=some u) (fun i hlt'=>by
   obtain⟨cs',h1,h2⟩:=hi i hlt';obtain⟨y,hy,rfl⟩:=zLq h2;obtain⟨_,_,h3⟩:=World.cells?_some h1;refine⟨y,hy,fun j u hu=>?_⟩
   have hj:j<4:=by
    have:=(List.getElem?_eq_some_iff.1 hu).1;simpa[FltZ.cells] using this
   have:=h3 j hj;rw[hu,Go.Deep.add_add] at this
   exact this)
  have hlen:((List.range len).map Y).length=len:=by simp
  obtain⟨b,off,spot⟩:=a
  refine⟨_,m,(List.range len).map Y,by rw[hlen],fun hpos=>?_,fun y hy=>?_,fun h=>by cases h⟩
  ·rw[hlen] at hpos;have hspot:spot=Option.none:=by simpa[Addr.add] using World.cell?_spot ((hY 0 om).2 0 _ J)
   subst hspot;refine⟨b,off,rfl,hlt (.cell b off) (List.mem_append_left _ (MemPlace.mem_row.2 ⟨0,by rw[co27];omega,by simp⟩)),fun k x hk j u hu=>?_⟩;rw[List.getElem?_map] at hk;obtain⟨i,h1,rfl⟩:=Option.map_eq_some_iff.1 hk;obtain⟨h2,h3⟩:=List.getElem?_eq_some_iff.1 h1;rw[List.getElem_range] at h3;subst h3;rw[List.length_range] at h2;have:=(hY k om).2 j u hu;rw[add_plain,<-Nat.add_assoc] at this;exact this
  ·obtain⟨i,h1,rfl⟩:=List.mem_map.1 hy;exact (hY i (by have:=List.mem_range.1 h1;omega)).1
set_option maxRecDepth 100000 in
theorem co25:Tryz.prog.cellsOf 25=3:=by kernel_rfl
theorem coFLS:Tryz.prog.cellsOf 22=1:=by kernel_rfl
theorem coINTS:Tryz.prog.cellsOf 23=1:=by kernel_rfl
set_option maxRecDepth 100000 in
theorem zX5 {H:Type} {enc:TypeId×Value->H} {W:World} {base:Nat} {v:Value} {d:DataW H} {p:List MemPlace} (hok:Value.okWide Tryz.prog W .any base 25 v)
  (h:DataW.Trod enc Tryz.prog W 0 (fun _=>true) true 25 v d p) (hlt:∀y∈p,y.block<W.heap.size) :
  ∃x:CZ,v=.agg x.cells.toArray∧x.Rd W∧(∀f∈x.fz,f.wf)∧(x.fA=Option.none->x.fz=[]∧x.fc=0)∧(x.dA=Option.none->x.dz=[]∧x.dc=0):=by
 obtain⟨cs,rfl,hsz⟩:=okWide_struct Tryz.underlying25 hok;obtain⟨fuel,hf⟩:=h;obtain⟨y0,y1,y2,n,hx,hcl,h0,h1,h2⟩:=Go.Deep.trod_struct3 Tryz.underlying25 hf;simp only[Prod.mk.injEq] at hx;obtain⟨rfl,rfl⟩:=hx
 have hcs:∃v0 v1 v2,cs=#[v0,v1,v2]:=by
  rw[co25] at hsz;obtain⟨l⟩:=cs
  match l,hsz with
  | [v0,v1,v2],_=>exact⟨v0,v1,v2,rfl⟩
 obtain⟨v0,v1,v2,rfl⟩:=hcs;simp[Value.cells,coFLS,zKz,coINTS] at h0 h1 h2;obtain⟨A,c,l,rfl,r1,r2,r3⟩:=zN8 h0 fun y hy=>hlt y (by simp[hy]);obtain⟨D,dc,dz,rfl,r4,r5⟩:=zGu h2 fun y hy=>hlt y (by simp[hy]);obtain⟨m,h1',_,_⟩:=DataW.trod_int zM2 h1;obtain rfl:=List.singleton_inj.1 h1';exact⟨⟨A,c,l,m,D,dc,dz⟩,rfl,⟨r1,r4⟩,r2,r3,r5⟩
set_option maxRecDepth 100000 in
theorem zXu {H:Type} {enc:TypeId×Value->H} {W:World} {base:Nat} {v:Value} {d:DataW H} {p:List MemPlace} (hok:Value.okWide Tryz.prog W .any base 23 v)
  (h:DataW.Trod enc Tryz.prog W 0 (fun _=>true) true 23 v d p) (hlt:∀y∈p,y.block<W.heap.size):∃(A:Option Addr) (c:Nat) (l:List Int),v=.slice A l.length c∧RdL icell 1 W A l∧(A=Option.none->l=[]∧c=0):=by
 obtain⟨a0,len,cap,rfl⟩:=okWide_slice zVr hok;obtain⟨fuel,hf⟩:=h;exact zGu (x:=(d,p)) hf hlt
set_option maxRecDepth 100000 in
theorem zXg:Tryz.prog.readableRec 25=true∧25<Tryz.prog.types.size:=⟨by kernel_rfl,of_decide_eq_true (by kernel_rfl)⟩
set_option maxRecDepth 100000 in
theorem zW6:Tryz.prog.readableRec 27=true∧27<Tryz.prog.types.size:=⟨by kernel_rfl,of_decide_eq_true (by kernel_rfl)⟩
set_option maxRecDepth 100000 in
theorem jC8:Tryz.prog.readableRec 3=true∧3<Tryz.prog.types.size:=⟨by kernel_rfl,of_decide_eq_true (by kernel_rfl)⟩
theorem zUf:Tryz.prog.readableRec 23=true∧23<Tryz.prog.types.size:=⟨zZw,jDu⟩
end Go.Proofs.YteppiphdbondeaaGreat.N
namespace Go.Proofs.YteppiphdbondeaaGreat.N
set_option linter.unusedSectionVars false
open Go.RowKit
end Go.Proofs.YteppiphdbondeaaGreat.N
