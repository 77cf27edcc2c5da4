/- Parts of the walk of the law CharBuys: Y19, Y22, YV, Y23, YW, YX, Y24, ChRow, RowC, RowC2, RowZ2. -/
import Derived.Test.YteppiphdbondeaaGreatSCharBuys10
import Derived.Test.YteppiphdbondeaaGreatProg
import Derived.Test.YteppiphdbondeaaGreatSCharBuys08
import Derived.Test.YteppiphdbondeaaGreatSCharBuys09
import Derived.Test.YteppiphdbondeaaGreatSCharBuys03
import Derived.Test.YteppiphdbondeaaGreatSCharBuys07
import Derived.Test.YteppiphdbondeaaGreatSCharBuys04
import Derived.Test.YteppiphdbondeaaGreatRows
import Derived.ChangeSame
import Derived.ChangeVars
import Derived.JoinedOf
import Derived.RowKit
import Derived.RowKitTokens
import Derived.WitnessAt
import Derived.Stop.Joined
import Derived.ProofKit
import Derived.SizedLaws
import Derived.OpenShut
import Derived.Conc.Holds
import Derived.Deep.Slices
import Derived.Deep.Strs
namespace Go.Proofs.YteppiphdbondeaaGreat.N
set_option linter.unusedSectionVars false
open Go.RowKit
section
variable [I:Sys]
theorem F.ent64:Enters Tryz.prog 64:=jF Tryz.func64 rfl kr
theorem jB8 {fA dA oA:Option Addr} {fc dc oc kiln:Nat} {fs os:List Flt} {days:List Nat} (hc:ChV fs kiln days) (hn2:fs.length<=2) (ho:∀f∈os,FltOk f) (ho3:os.length<=3) (w:World) (hF:RdL Flt.cells 4 w fA fs) (hD:RdL ncell 1 w dA days) (hO:RdL Flt.cells 4 w oA os):Calls Tryz.prog 23 #[.agg (CA fA fs.length fc kiln dA days.length dc).toArray,.slice oA os.length oc] w fun e w'=>e=.returned (match buyN fs kiln days os os.length with|none=>.tuple #[.int .i64 0,.int .i64 0,.int .i64 11]|some q=>.tuple #[.int .i64 (q.1:Int),.int .i64 (q.2:Int),.int .i64 0])∧Grew w w' []:=by
 refine enter (N:=76) [(0,.agg (CA fA fs.length fc kiln dA days.length dc).toArray),(1,.slice oA os.length oc)] Tryz.func23 J Tryz.ntmps23 J J (csr (jW J J ?_));intro b2;refine zH J J (zH J J (lax J J (zG (csr (jC J J F.agg25 F.ti25 ?_)))))
 refine jJ (v:=.int .i64 0) (vs:=[_]) J J F.ent34 (fun a w ha=>by
  have h:=zPw (fA:=fA) (dA:=dA) (fc:=fc) (dc:=dc) (fs:=fs.map Flt.toZ) (kiln:=(kiln:Int)) (days:=toZs days) (by have:=hc.f3;simp;omega) (by have:=hc.d4;simp[toZs];omega) w (RdL.mapped Flt.toZ (hF.later ha.below) (fun _=>rfl)) (RdL.mapped (fun (n:Nat)=>(n:Int)) (hD.later ha.below) (fun _=>rfl));rw[chk0 hc] at h
  simpa[toZs] using h) ?_
 refine lax J J (csr (zA J J (zD J J J qG ?_)))
 refine lnx (zM J (fun hc0=>?_) (fun hc0=>?_))
 ·exact absurd J hc0
  done
 ·refine zQ (zE (zG (csr (zI J J F.fi25_0 F.ti22 (zT J J F.one22 (jL J J U22 (zD J J J kI ?_)))))))
  refine lnx (zM J (fun hc1=>?_) (fun hc1=>?_))
  ·exact absurd hc1 om
   done
  ·refine zQ (zE (zG (csr (zA J J (jL J J U22 (zD J J J vC ?_))))))
   refine lnx (zM J (fun hc2=>?_) (fun hc2=>?_))
   ·exact absurd hc2 om
    done
   ·refine zQ (zE (zG (csr (lax J J (zU (qI (G:=Nat) (fun k=>k<=os.length) (fun k=>os.length-k) (fun k=>[(1,.slice oA os.length oc),(2,pt b2),(8,.int .i64 (k:Int))]) (fun k=>[.blk b2 (.cells (CA fA fs.length fc kiln dA days.length dc).toArray 25 (0,0))]) 0 (Nat.zero_le _) sbn sbl ?_))))));intro k hk;(try dsimp only at hk ⊢);refine zG (csr (zA J J (zA J J (jL J J U22 (zD J J J jX ?_)))))
    refine lnx (zM J (fun hc3=>?_) (fun hc3=>?_))
    ·have hk':k<os.length:=om;obtain⟨bf,bo,hoA,hbf,hcf⟩:=hO om;obtain⟨f,hx⟩:∃x,os[k]?=some x:=⟨_,List.getElem?_eq_getElem hk'⟩;have hfok:=ho f (List.mem_of_getElem? hx);obtain⟨pw,gn,nw,wd⟩:=f;refine zQ (zE (zG (zU (csr (zA J J (zA J J (jZ (j:=k) J (show _=some (Value.slice (some ⟨bf,bo,none⟩) os.length oc) from by rw[<-hoA];rfl) J Tryz.underlying22 F.ti27 J hk' (qU (l:=[.int .i64 (pw:Int),.int .i64 (gn:Int),.int .i64 (nw:Int),.bool wd]) J J F.agg27 F.ti27 J (fun a w ha j u hu=>ha.old (hcf k _ hx j u hu) hbf) (jJ (v:=.int .i64 0) (vs:=[_]) J J F.ent63 (fun a w ha=>(zCa (pw:Int) (gn:Int) (nw:Int) wd w).mono (fun e w' h=>⟨h.1.trans (by rw[show chkF ⟨(pw:Int),(gn:Int),(nw:Int),wd⟩=0 from zU9 hfok];rfl),h.2⟩)) (lax J J (csr (zA J J (zD J J J qG ?_)))))))))))))
     refine lnx (zM J (fun hc4=>?_) (fun hc4=>?_))
     ·exact absurd J hc4
      done
     ·refine zQ (zK (zE (zL (zA J J (zD J J J (fun w=>jG w (zS _ om om)) (zH J J (zB (kM (k+1) om tdo sbn sbl))))))))
    ·refine jY (zO (zO (jD (zE (csr (zH J J (lax J J (zG (csr (lax J J (zU (qI (G:=Nat) (fun k=>k<=os.length) (fun k=>os.length-k) (fun k=>[(1,.slice oA os.length oc),(2,pt b2),(10,.int .i64 (buyI (buyN fs kiln days os k))),(11,.int .i64 ((buyF (buyN fs kiln days os k):Nat):Int)),(12,.int .i64 (k:Int))]) (fun _=>[.blk b2 (.cells (CA fA fs.length fc kiln dA days.length dc).toArray 25 (0,0))]) 0 (Nat.zero_le _) sbn sbl ?_))))))))))));intro k hkk;(try dsimp only at hkk ⊢);refine zG (csr (zA J J (zA J J (jL J J U22 (zD J J J jX ?_)))))
     refine lnx (zM J (fun hc5=>?_) (fun hc5=>?_))
     ·have hk':k<os.length:=om;obtain⟨bf,bo,hoA,hbf,hcf⟩:=hO om;obtain⟨f,hx⟩:∃x,os[k]?=some x:=⟨_,List.getElem?_eq_getElem hk'⟩;have hfok:=ho f (List.mem_of_getElem? hx);obtain⟨pw,gn,nw,wd⟩:=f;have hgd:os.getD k default=(⟨pw,gn,nw,wd⟩:Flt):=by rw[List.getD_eq_getElem?_getD,hx];rfl
      have hsucc:buyN fs kiln days os (k+1)=if (bstA (fs++[(⟨pw,gn,nw,wd⟩:Flt)]) kiln days).is=true∧(∀p,buyN fs kiln days os k=some p->(bstA (fs++[(⟨pw,gn,nw,wd⟩:Flt)]) kiln days).f<p.2) then some (k,(bstA (fs++[(⟨pw,gn,nw,wd⟩:Flt)]) kiln days).f) else buyN fs kiln days os k:=by rw[<-hgd];rfl
      have hmo:=hc.more hn2 hfok;have hbf2:(bstA (fs++[(⟨pw,gn,nw,wd⟩:Flt)]) kiln days).f<=days.length∧(bstA (fs++[(⟨pw,gn,nw,wd⟩:Flt)]) kiln days).w<=3*days.length:=zFy (las:=fun _=>true) (fs:=fs++[(⟨pw,gn,nw,wd⟩:Flt)]) (kiln:=kiln) (days:=days) hmo.f3 days.length (start (fs++[(⟨pw,gn,nw,wd⟩:Flt)]));have hd4:=hc.d4;have hfl:(fs++[(⟨pw,gn,nw,wd⟩:Flt)]).length=fs.length+1:=by simp
      refine zQ (zE (zG (zU (zG (jU [] F.follows 12 J [false,false,false,false,false,false,false,false,false,false,false,false] J (zC 0 J J J (kU J F.agg25 F.ti25) (zC 1 J J J (zN J) (zC 2 J J J (zN J) (zC 3 J J J (jQ (j:=k) (show _=some (Value.slice (some ⟨bf,bo,none⟩) os.length oc) from by rw[<-hoA];rfl) J Tryz.underlying22 F.ti27 J hk') (zC 4 J J J (qJ (l:=[.int .i64 (pw:Int),.int .i64 (gn:Int),.int .i64 (nw:Int),.bool wd]) J F.agg27 F.ti27 J (fun a w ha j u hu=>ha.old (hcf k _ hx j u hu) hbf)) (an1 5 J (kQ (X:=Option Addr×Nat) (vs:=[_,_]) (p:=fun _=>True) (val:=fun g=>.agg #[.slice g.1 (fs.length+1) g.2,.int .i64 (kiln:Int),.slice dA days.length dc]) (rs:=fun g=>[.row 27 4 g.1 (fs.length+1) g.2 (fs.flatMap Flt.cells++[.int .i64 (pw:Int),.int .i64 (gn:Int),.int .i64 (nw:Int),.bool wd])]) J J F.ent65 (fun a w ha=>(zWn om hc.f1 w (hF.later ha.below)).mono (fun e w' h=>by obtain⟨A',c',h1,h2⟩:=h;exact⟨(A',c'),trivial,h1,h2⟩)) ?_))))))))))));rintro⟨A1,c1⟩ -;dsimp only[List.cons_append,List.nil_append];refine zB (anb (an1 6 J ?_))
      refine kQ (X:=Option Addr×Nat×Nat) (vs:=[_,_]) (p:=fun _=>True) (val:=fun y=>.tuple #[.slice y.1 y.2.2 y.2.1,.int .i64 (encO (bstA (fs++[(⟨pw,gn,nw,wd⟩:Flt)]) kiln days))]) (rs:=fun _=>[]) J J F.ent64 (fun a w ha=>by
       have hF1:RdL Flt.cells 4 w A1 (fs++[(⟨pw,gn,nw,wd⟩:Flt)]):=by
        have h8:=kV ha (cells:=Flt.cells) (size:=4) (e:=27) (c:=c1) (n:=fs.length+1) (l:=fs++[(⟨pw,gn,nw,wd⟩:Flt)]) (fun _=>rfl) (A:=A1) (by rw[List.flatMap_append];exact InR.mem) hfl.symm;exact h8
       have h9:=zU2 (fc:=c1) (dc:=dc) hmo.w (rp:=false) w hF1 (hD.later ha.below);rw[hfl] at h9
       exact h9.mono (fun e w' h=>by obtain⟨A',c',R',S',h1,h2,h3,h4⟩:=h;exact⟨(A',c',R'.length),trivial,h3,h4.less⟩)) ?_
      rintro⟨A2,c2,n2⟩ -;dsimp only[List.cons_append,List.nil_append];refine zB (anb (zC 7 J J J (zN J) (zC 8 J J J (jV J J) (zC 9 J J J (jV J J) (zC 10 J J J (jT J) (zC 11 J J J (jT J) (adn (zE (zG ?_)))))))))
      rcases his:(bstA (fs++[(⟨pw,gn,nw,wd⟩:Flt)]) kiln days).is with _|_
      ·refine zL (zA J J (zD (v:=.bool false) J J J (fun w=>by rw[zCd,show encO (bstA (fs++[(⟨pw,gn,nw,wd⟩:Flt)]) kiln days)=-1 from by unfold encO;rw[his];rfl];rfl) (zA J J (zP J J J (zP J J J (zP J J J (kB J J J (kB J J J (kB J J J (kB J J J (zP J J J (jM J J J (lnx (kL J (zQ (zK (zE (zL (zA J J (zD J J J (fun w=>jG w (zS _ om om)) (zH J J (zB (kM (k+1) tdo tdo (by (try dsimp only);rw[hsucc,if_neg (by rw[his];simp)];repeat (first|exact Sub.nil _|refine Sub.cons J ?_)) sbl)))))))))))))))))))))))
      ·have hif:=hsucc;have hle2:=zK9 (fs:=fs) (kiln:=kiln) (days:=days) (os:=os) k
       rcases hbn:buyN fs kiln days os k with _|⟨bi,bfr⟩
       ·refine zL (zA J J ?_);have henc:=zH2 his;refine zD (v:=.bool true) J J J (fun w=>by rw[zCd,show decide (0<=encO (bstA (fs++[(⟨pw,gn,nw,wd⟩:Flt)]) kiln days))=true from decide_eq_true om]) (zA J J (zJ J J (zA J J (zJ J J (zD J J J jX (zJ J J (zA J J (zP J J J (zP J J J (zP J J J (zP J J J (zJ J J (jE J J J (jE J J J (lnx (qE J (zL (zA J J (zA J J (zD (v:=.int .i64 (((bstA (fs++[(⟨pw,gn,nw,wd⟩:Flt)]) kiln days).f:Nat):Int)) J J J (fun w=>zH7 w (by decide) (by rw[henc,show (((100*(bstA (fs++[(⟨pw,gn,nw,wd⟩:Flt)]) kiln days).f+(bstA (fs++[(⟨pw,gn,nw,wd⟩:Flt)]) kiln days).w:Nat):Int)).tdiv 100=(((bstA (fs++[(⟨pw,gn,nw,wd⟩:Flt)]) kiln days).f:Nat):Int) from by rw[Int.tdiv_eq_ediv_of_nonneg om];omega];exact zS _ om om)) (zH J J (zH J J (zB (zK (zE (zL (zA J J (zD J J J (fun w=>jG w (zS _ om om)) (zH J J (zB (kM (k+1) tdo tdo (by (try dsimp only);rw[hsucc,if_pos ⟨his,fun p hp=>by rw[hbn] at hp;cases hp⟩];repeat (first|exact Sub.nil _|refine Sub.cons J ?_)) sbl)))))))))))))))))))))))))))))))
       ·refine zL (zA J J ?_);have henc:=zH2 his;refine zD (v:=.bool true) J J J (fun w=>by rw[zCd,show decide (0<=encO (bstA (fs++[(⟨pw,gn,nw,wd⟩:Flt)]) kiln days))=true from decide_eq_true om]) (zA J J (zJ J J (zA J J (zJ J J (zD (v:=.bool false) J J J (fun w=>by rw[jX];rw[show decide (buyI (some (bi,bfr))<0)=false from decide_eq_false (by dsimp only[buyI];omega)]) (zJ J J (zA J J (zJ J J (zA J J (zJ J J (zD (v:=.int .i64 (((bstA (fs++[(⟨pw,gn,nw,wd⟩:Flt)]) kiln days).f:Nat):Int)) J J J (fun w=>zH7 w (by decide) (by rw[henc,show (((100*(bstA (fs++[(⟨pw,gn,nw,wd⟩:Flt)]) kiln days).f+(bstA (fs++[(⟨pw,gn,nw,wd⟩:Flt)]) kiln days).w:Nat):Int)).tdiv 100=(((bstA (fs++[(⟨pw,gn,nw,wd⟩:Flt)]) kiln days).f:Nat):Int) from by rw[Int.tdiv_eq_ediv_of_nonneg om];omega];exact zS _ om om)) (zJ J J (zA J J (zJ J J (zD J J J jX ?_)))))))))))))))
        refine zJ J J (jM J J J (jE J J J (lnx (zM J (fun hc6=>?_) (fun hc6=>?_)))))
        ·dsimp only[buyF] at hc6;refine zL (zA J J (zA J J (zD (v:=.int .i64 (((bstA (fs++[(⟨pw,gn,nw,wd⟩:Flt)]) kiln days).f:Nat):Int)) J J J (fun w=>zH7 w (by decide) (by rw[henc,show (((100*(bstA (fs++[(⟨pw,gn,nw,wd⟩:Flt)]) kiln days).f+(bstA (fs++[(⟨pw,gn,nw,wd⟩:Flt)]) kiln days).w:Nat):Int)).tdiv 100=(((bstA (fs++[(⟨pw,gn,nw,wd⟩:Flt)]) kiln days).f:Nat):Int) from by rw[Int.tdiv_eq_ediv_of_nonneg om];omega];exact zS _ om om)) (zH J J (zH J J (zB (zK (zE (zL (zA J J (zD J J J (fun w=>jG w (zS _ om om)) (zH J J (zB (kM (k+1) tdo tdo (by (try dsimp only);rw[hsucc,if_pos ⟨his,fun p hp=>by rw[hbn] at hp;cases hp;omega⟩];repeat (first|exact Sub.nil _|refine Sub.cons J ?_)) sbl))))))))))))))
        ·dsimp only[buyF] at hc6;refine zQ (zK (zE (zL (zA J J (zD J J J (fun w=>jG w (zS _ om om)) (zH J J (zB (kM (k+1) tdo tdo (by (try dsimp only);rw[hsucc,if_neg (by rintro⟨_,h⟩;have:=h _ hbn;omega),hbn];repeat (first|exact Sub.nil _|refine Sub.cons J ?_)) sbl))))))))
     ·obtain rfl:k=os.length:=om;refine jY (zO (zO (jD (zE (zG (zG ?_))))))
      rcases hbn:buyN fs kiln days os os.length with _|⟨bi,bfr⟩
      ·exact zL (zA J J (zD J J J jX (lnx (qE J (csr (zH J J (zH J J (lax J J (zY (zW (zZ J (fun a w ha=>qQ J J J J ha) (fun a w ha=>⟨by rfl,ha.grown nsl⟩))))))))))))
      ·exact zL (zA J J (zD (v:=.bool false) J J J (fun w=>by rw[jX];rw[show decide (buyI (some (bi,bfr))<0)=false from decide_eq_false (by dsimp only[buyI];omega)]) (lnx (kL J (zQ (zE (csr (zA J J (zA J J (zH J J (zH J J (lax J J (zY (zZ J (fun a w ha=>qQ J J J J ha) (fun a w ha=>⟨by rfl,ha.grown nsl⟩)))))))))))))))

end
section
def buyC (fz:List FltZ) (kz:Int) (dz:List Int) (oz:List FltZ):Nat :=
 if chk fz kz dz≠0 then chk fz kz dz else if fz.length=3 then 12 else if 3<oz.length then 6 else if oz.any (fun f=>chkF f != 0) then 1 else 0
section
variable {fz oz:List FltZ} {kz:Int} {dz:List Int}
theorem zJr (h:chk fz kz dz≠0):buyC fz kz dz oz=chk fz kz dz:=by
 unfold buyC;rw[if_pos h]
theorem zF1 (h:chk fz kz dz=0) (h1:fz.length=3):buyC fz kz dz oz=12:=by
 unfold buyC;rw[if_neg om,if_pos h1]
theorem zHm (h:chk fz kz dz=0) (h1:fz.length≠3) (h2:3<oz.length):buyC fz kz dz oz=6:=by
 unfold buyC;rw[if_neg om,if_neg h1,if_pos h2]
theorem zJp (h:chk fz kz dz=0) (h1:fz.length≠3) (h2:¬3<oz.length) {k:Nat} {f:FltZ} (hx:oz[k]?=some f) (hf:chkF f≠0):buyC fz kz dz oz=chkF f:=by
 have h3:oz.any (fun f=>chkF f != 0)=true:=List.any_eq_true.2 ⟨f,List.mem_of_getElem? hx,by simp[hf]⟩;unfold buyC;rw[if_neg om,if_neg h1,if_neg h2,if_pos h3];rcases zLw f with h|h<;>omega
theorem zMa (h:chk fz kz dz=0) (h1:fz.length≠3) (h2:¬3<oz.length) (h3:∀j f,j<oz.length->oz[j]?=some f->chkF f=0):buyC fz kz dz oz=0:=by
 unfold buyC;rw[if_neg om,if_neg h1,if_neg h2,if_neg];intro h4;obtain⟨f,hf,h5⟩:=List.any_eq_true.1 h4;obtain⟨j,hj,rfl⟩:=List.mem_iff_getElem.1 hf;have:=h3 j _ hj (List.getElem?_eq_getElem hj);rw[this] at h5
 cases h5
theorem zKc (h:buyC fz kz dz oz=0):∃(fs:List Flt) (kiln:Nat) (days:List Nat) (os:List Flt),ChV fs kiln days∧fs.length<=2∧(∀f∈os,FltOk f)∧os.length<=3∧fs.map Flt.toZ=fz∧((kiln:Nat):Int)=kz∧toZs days=dz∧os.map Flt.toZ=oz:=by
 by_cases h0:chk fz kz dz=0
 ·by_cases h1:fz.length=3
  ·rw[zF1 h0 h1] at h;cases h
  ·by_cases h2:3<oz.length
   ·rw[zHm h0 h1 h2] at h;cases h
   ·obtain⟨fs,kiln,days,hc,rfl,rfl,rfl⟩:=zT7 h0
    obtain⟨os,ho,rfl⟩:=zJo oz fun f hf=>by
     obtain⟨k,hk,rfl⟩:=List.mem_iff_getElem.1 hf;refine Decidable.byContradiction fun h9=>?_;rw[zJp h0 h1 h2 (List.getElem?_eq_getElem hk) h9] at h;exact h9 h
    have h3:=hc.f3;rw[List.length_map] at h1 h2;exact⟨fs,kiln,days,os,hc,by omega,ho,by omega,rfl,rfl,rfl,rfl⟩
 ·rw[zJr h0] at h;exact absurd h h0
end
end
section
variable [I:Sys]
variable {dA fA oA:Option Addr} {dc fc oc:Nat} {dz:List Int} {fz oz:List FltZ} {kz:Int}
theorem jD2 (hfl:fz.length<1000000) (hdl:dz.length<1000000) (hol:oz.length<1000000) (hkc:buyC fz kz dz oz≠0) (w:World) (hF:RdL FltZ.cells 4 w fA fz) (hD:RdL zcell 1 w dA dz) (hO:RdL FltZ.cells 4 w oA oz):Calls Tryz.prog 22 #[.agg #[.slice fA fz.length fc,.int .i64 kz,.slice dA dz.length dc],.slice oA oz.length oc] w fun e w'=>e=.returned (.tuple #[.int .i64 0,.int .i64 0,.int .i64 ((buyC fz kz dz oz:Nat):Int)])∧Grew w w' []:=by
 refine enter (N:=89) [(0,.agg #[.slice fA fz.length fc,.int .i64 kz,.slice dA dz.length dc]),(1,.slice oA oz.length oc)] Tryz.func22 J Tryz.ntmps22 J J (csr (jW J J ?_));intro b2;refine zH J J (zH J J (lax J J (zG (csr (jC J J F.agg25 F.ti25 (jJ (v:=.int .i64 ((chk fz kz dz:Nat):Int)) (vs:=[_]) J J F.ent33 (fun a w ha=>zB8 hfl hdl w (hF.later ha.below) (hD.later ha.below)) (lax J J (csr (zA J J (zD J J J qG ?_))))))))))
 refine lnx (zM J (fun hc0=>?_) (fun hc0=>?_))
 ·exact csr (zA J J (zH J J (zH J J (lax J J (zY (zW (zZ J (fun a w ha=>qQ J J J J ha) (fun a w ha=>⟨by rw[zJr om]<;>rfl,ha.grown nsl⟩))))))))
 ·have hk0:chk fz kz dz=0:=om;refine zQ (zE (zG (zU (csr (zI J J F.fi25_0 F.ti22 (zT J J F.one22 (jL J J U22 (zD J J J kI ?_))))))))
  refine lax J J (zM J (fun hc1=>?_) (fun hc1=>?_))
  ·exact csr (zH J J (zH J J (lax J J (zY (jR (zW (zZ J (fun a w ha=>qQ J J J J ha) (fun a w ha=>⟨by rw[zF1 hk0 om]<;>rfl,ha.grown nsl⟩))))))))
  ·refine csr (zA J J (jL J J U22 (zD J J J vC ?_)))
   refine lax J J (zM J (fun hc2=>?_) (fun hc2=>?_))
   ·exact csr (zH J J (zH J J (lax J J (zY (jR (zW (zZ J (fun a w ha=>qQ J J J J ha) (fun a w ha=>⟨by rw[zHm hk0 om om]<;>rfl,ha.grown nsl⟩))))))))
   ·refine zQ (zK (zE (zG (csr (zA J J (jL J J U22 (zA J J (lnx (zU (qI (G:=Nat) (fun k=>k<=oz.length∧∀j f,j<k->oz[j]?=some f->chkF f=0) (fun k=>oz.length-k) (fun k=>[(1,.slice oA oz.length oc),(2,pt b2),(33,.slice oA oz.length oc),(34,.int .i64 (oz.length:Int)),(35,.int .i64 (k:Int))]) (fun _=>[.blk b2 (.cells #[.slice fA fz.length fc,.int .i64 kz,.slice dA dz.length dc] 25 (0,0))]) 0 ⟨Nat.zero_le _,fun j _ h=>absurd h (Nat.not_lt_zero _)⟩ sbn sbl ?_))))))))));rintro k ⟨hkk,hno⟩;(try dsimp only at hkk hno ⊢);refine csr (zD J J J jX ?_)
    refine lnx (zG (zM J (fun hc3=>?_) (fun hc3=>?_)))
    ·have hk':k<oz.length:=om;obtain⟨bf,bo,hoA,hbf,hcf⟩:=hO om;obtain⟨f,hx⟩:∃x,oz[k]?=some x:=⟨_,List.getElem?_eq_getElem hk'⟩;obtain⟨pw,gn,nw,wd⟩:=f;refine zQ (zE (zG (zU (csr (jZ (j:=k) J (show _=some (Value.slice (some ⟨bf,bo,none⟩) oz.length oc) from by rw[<-hoA];rfl) J Tryz.underlying22 F.ti27 J hk' (qU (l:=[.int .i64 pw,.int .i64 gn,.int .i64 nw,.bool wd]) J J F.agg27 F.ti27 J (fun a w ha j u hu=>ha.old (hcf k _ hx j u hu) hbf) (zX J F.ti27 ?_)))))));intro b9;refine zF J J F.ti27 J (lnx (csr (jC J J F.agg27 F.ti27 (jJ (v:=.int .i64 ((chkF (⟨pw,gn,nw,wd⟩:FltZ):Nat):Int)) (vs:=[_]) J J F.ent62 (fun a w ha=>zC2 pw gn nw wd w) (lax J J (csr (zA J J (zD J J J qG ?_))))))))
     refine lnx (zM J (fun hc4=>?_) (fun hc4=>?_))
     ·exact csr (zA J J (zH J J (zH J J (lax J J (zY (jR (zW (zW (jR (zW (zZ J (fun a w ha=>qQ J J J J ha) (fun a w ha=>⟨by rw[zJp hk0 om om hx om]<;>rfl,ha.grown nsl⟩))))))))))))
     ·refine zQ (zK (zE (zL (zD J J J (fun w=>jG w (zS _ om om)) (zA J J (zB (kM (k+1) ⟨by (try dsimp only);omega,fun j f hj hf=>?_⟩ tdo sbn sbl)))))))
      rcases Nat.lt_or_ge j k with h|h
      ·exact hno j f h hf
      ·obtain rfl:k=j:=om;rw[hx] at hf
       cases hf
       omega
    ·exact absurd (zMa hk0 om om fun j f hj hf=>hno j f om hf) hkc
     done

theorem jCr (hfl:fz.length<1000000) (hdl:dz.length<1000000) (hol:oz.length<1000000) (hkc:buyC fz kz dz oz≠0) (w:World) (hF:RdL FltZ.cells 4 w fA fz) (hD:RdL zcell 1 w dA dz) (hO:RdL FltZ.cells 4 w oA oz):Calls Tryz.prog 23 #[.agg #[.slice fA fz.length fc,.int .i64 kz,.slice dA dz.length dc],.slice oA oz.length oc] w fun e w'=>e=.returned (.tuple #[.int .i64 0,.int .i64 0,.int .i64 ((buyC fz kz dz oz:Nat):Int)])∧Grew w w' []:=by
 refine enter (N:=76) [(0,.agg #[.slice fA fz.length fc,.int .i64 kz,.slice dA dz.length dc]),(1,.slice oA oz.length oc)] Tryz.func23 J Tryz.ntmps23 J J (csr (jW J J ?_));intro b2;refine zH J J (zH J J (lax J J (zG (csr (jC J J F.agg25 F.ti25 (jJ (v:=.int .i64 ((chk fz kz dz:Nat):Int)) (vs:=[_]) J J F.ent34 (fun a w ha=>zPw hfl hdl w (hF.later ha.below) (hD.later ha.below)) (lax J J (csr (zA J J (zD J J J qG ?_))))))))))
 refine lnx (zM J (fun hc0=>?_) (fun hc0=>?_))
 ·exact csr (zA J J (zH J J (zH J J (lax J J (zY (zW (zZ J (fun a w ha=>qQ J J J J ha) (fun a w ha=>⟨by rw[zJr om]<;>rfl,ha.grown nsl⟩))))))))
 ·have hk0:chk fz kz dz=0:=om;refine zQ (zE (zG (csr (zI J J F.fi25_0 F.ti22 (zT J J F.one22 (jL J J U22 (zD J J J kI ?_)))))))
  refine lnx (zM J (fun hc1=>?_) (fun hc1=>?_))
  ·exact csr (zH J J (zH J J (lax J J (zY (zW (zZ J (fun a w ha=>qQ J J J J ha) (fun a w ha=>⟨by rw[zF1 hk0 om]<;>rfl,ha.grown nsl⟩)))))))
  ·refine zQ (zE (zG (csr (zA J J (jL J J U22 (zD J J J vC ?_))))))
   refine lnx (zM J (fun hc2=>?_) (fun hc2=>?_))
   ·exact csr (zH J J (zH J J (lax J J (zY (zW (zZ J (fun a w ha=>qQ J J J J ha) (fun a w ha=>⟨by rw[zHm hk0 om om]<;>rfl,ha.grown nsl⟩)))))))
   ·refine zQ (zE (zG (csr (lax J J (zU (qI (G:=Nat) (fun k=>k<=oz.length∧∀j f,j<k->oz[j]?=some f->chkF f=0) (fun k=>oz.length-k) (fun k=>[(1,.slice oA oz.length oc),(2,pt b2),(8,.int .i64 (k:Int))]) (fun _=>[.blk b2 (.cells #[.slice fA fz.length fc,.int .i64 kz,.slice dA dz.length dc] 25 (0,0))]) 0 ⟨Nat.zero_le _,fun j _ h=>absurd h (Nat.not_lt_zero _)⟩ sbn sbl ?_))))));rintro k ⟨hkk,hno⟩;(try dsimp only at hkk hno ⊢);refine zG (csr (zA J J (zA J J (jL J J U22 (zD J J J jX ?_)))))
    refine lnx (zM J (fun hc3=>?_) (fun hc3=>?_))
    ·have hk':k<oz.length:=om;obtain⟨bf,bo,hoA,hbf,hcf⟩:=hO om;obtain⟨f,hx⟩:∃x,oz[k]?=some x:=⟨_,List.getElem?_eq_getElem hk'⟩;obtain⟨pw,gn,nw,wd⟩:=f;refine zQ (zE (zG (zU (csr (zA J J (zA J J (jZ (j:=k) J (show _=some (Value.slice (some ⟨bf,bo,none⟩) oz.length oc) from by rw[<-hoA];rfl) J Tryz.underlying22 F.ti27 J hk' (qU (l:=[.int .i64 pw,.int .i64 gn,.int .i64 nw,.bool wd]) J J F.agg27 F.ti27 J (fun a w ha j u hu=>ha.old (hcf k _ hx j u hu) hbf) (jJ (v:=.int .i64 ((chkF (⟨pw,gn,nw,wd⟩:FltZ):Nat):Int)) (vs:=[_]) J J F.ent63 (fun a w ha=>zCa pw gn nw wd w) (lax J J (csr (zA J J (zD J J J qG ?_)))))))))))))
     refine lnx (zM J (fun hc4=>?_) (fun hc4=>?_))
     ·exact csr (zA J J (zH J J (zH J J (lax J J (zY (jR (zW (zW (jR (zW (zZ J (fun a w ha=>qQ J J J J ha) (fun a w ha=>⟨by rw[zJp hk0 om om hx om]<;>rfl,ha.grown nsl⟩))))))))))))
     ·refine zQ (zK (zE (zL (zA J J (zD J J J (fun w=>jG w (zS _ om om)) (zH J J (zB (kM (k+1) ⟨by (try dsimp only);omega,fun j f hj hf=>?_⟩ tdo sbn sbl))))))))
      rcases Nat.lt_or_ge j k with h|h
      ·exact hno j f h hf
      ·obtain rfl:k=j:=om;rw[hx] at hf
       cases hf
       omega
    ·exact absurd (zMa hk0 om om fun j f hj hf=>hno j f om hf) hkc
     done

end
section
variable [I:Sys]
def buyA:Option (Nat×Nat)->Nat×Nat×Nat
 | none=>(0,0,11)
 | some q=>(q.1,q.2,0)
def RawB (fz:List FltZ) (kz:Int) (dz:List Int) (oz:List FltZ) (y:Nat×Nat×Nat):Prop :=
 (buyC fz kz dz oz≠0∧y=(0,0,buyC fz kz dz oz))∨∃(fs:List Flt) (kiln:Nat) (days:List Nat) (os:List Flt),buyC fz kz dz oz=0∧fs.map Flt.toZ=fz∧((kiln:Nat):Int)=kz∧toZs days=dz∧os.map Flt.toZ=oz∧y=buyA (buyN fs kiln days os os.length)
section
variable {fA dA oA:Option Addr} {fc dc oc:Nat} {fz oz:List FltZ} {kz:Int} {dz:List Int}
theorem RawB.uniq {x y:Nat×Nat×Nat} (h:RawB fz kz dz oz x) (h':RawB fz kz dz oz y):x=y:=by
 rcases h with ⟨h1,h2⟩|⟨fs,kiln,days,os,h1,h2,h3,h4,h5,h6⟩<;>rcases h' with ⟨h1',h2'⟩|⟨fs',kiln',days',os',h1',h2',h3',h4',h5',h6'⟩
 ·rw[h2,h2']
 ·exact absurd h1' h1
 ·exact absurd h1 h1'
 ·subst h2 h3 h4 h5;obtain rfl:=zLf h2';obtain rfl:=zLf h5';obtain rfl:=zPs h4';obtain rfl:=Int.ofNat_inj.1 h3';rw[h6,h6']
def AnsB (fz:List FltZ) (kz:Int) (dz:List Int) (oz:List FltZ) (w:World) (e:Ending) (w':World):Prop :=
 ∃y:Nat×Nat×Nat,RawB fz kz dz oz y∧e=.returned (.tuple #[.int .i64 (y.1:Int),.int .i64 (y.2.1:Int),.int .i64 (y.2.2:Int)])∧Grew w w' []
theorem zRz {fs os:List Flt} {kiln:Nat} {days:List Nat} {w:World} {f:FuncId} {args:Array Value} (hk:buyC (fs.map Flt.toZ) kiln (toZs days) (os.map Flt.toZ)=0) (h:Calls Tryz.prog f args w fun e w'=>e=.returned (match buyN fs kiln days os os.length with|none=>.tuple #[.int .i64 0,.int .i64 0,.int .i64 11]|some q=>.tuple #[.int .i64 (q.1:Int),.int .i64 (q.2:Int),.int .i64 0])∧Grew w w' []):Calls Tryz.prog f args w fun e w'=>AnsB (fs.map Flt.toZ) kiln (toZs days) (os.map Flt.toZ) w e w' :=
 h.mono fun e w' ⟨h1,h2⟩=>⟨buyA (buyN fs kiln days os os.length),.inr ⟨fs,kiln,days,os,hk,rfl,rfl,rfl,rfl,rfl⟩,by
  rw[h1]
  cases buyN fs kiln days os os.length<;>rfl,h2⟩
theorem jEd (hfl:fz.length<1000000) (hdl:dz.length<1000000) (hol:oz.length<1000000) (hcap:fz.length<=fc) (w:World) (hF:RdL FltZ.cells 4 w fA fz) (hD:RdL zcell 1 w dA dz) (hO:RdL FltZ.cells 4 w oA oz):Calls Tryz.prog 22 #[cz3 fA dA fc dc fz kz dz,.slice oA oz.length oc] w fun e w'=>AnsB fz kz dz oz w e w':=by
 by_cases hk:buyC fz kz dz oz=0
 ·obtain⟨fs,kiln,days,os,hc,hn2,ho,ho3,rfl,rfl,rfl,rfl⟩:=zKc hk;refine zRz hk ?_;unfold cz3;rw[List.length_map] at hcap;rw[List.length_map,List.length_map,yT];exact zY7 hc hn2 ho ho3 hcap w (zK1 hF) (zUj hD) (zK1 hO)
 ·exact (jD2 hfl hdl hol hk w hF hD hO).mono fun e w' ⟨h1,h2⟩=>⟨(0,0,buyC fz kz dz oz),.inl ⟨hk,rfl⟩,h1,h2⟩
theorem jCb (hfl:fz.length<1000000) (hdl:dz.length<1000000) (hol:oz.length<1000000) (w:World) (hF:RdL FltZ.cells 4 w fA fz) (hD:RdL zcell 1 w dA dz) (hO:RdL FltZ.cells 4 w oA oz):Calls Tryz.prog 23 #[cz3 fA dA fc dc fz kz dz,.slice oA oz.length oc] w fun e w'=>AnsB fz kz dz oz w e w':=by
 by_cases hk:buyC fz kz dz oz=0
 ·obtain⟨fs,kiln,days,os,hc,hn2,ho,ho3,rfl,rfl,rfl,rfl⟩:=zKc hk;refine zRz hk ?_;unfold cz3;rw[List.length_map,List.length_map,yT];exact jB8 hc hn2 ho ho3 w (zK1 hF) (zUj hD) (zK1 hO)
 ·exact (jCr hfl hdl hol hk w hF hD hO).mono fun e w' ⟨h1,h2⟩=>⟨(0,0,buyC fz kz dz oz),.inl ⟨hk,rfl⟩,h1,h2⟩
end
end
section
open Go.Conc
variable [I:Sys]
variable {A:Option Addr} {T:List Res} {b c k m n x:Nat} {l z:List FltZ} {w0:World}
theorem zUh (b:Bool) (n m:Nat):b=true∨(b=false∧20<m)∨(b=false∧m<=20∧n≠2)∨(b=false∧m<=20∧n=2):=by
 cases b<;>simp<;>omega
abbrev OfZ:=Option Addr×Nat×List FltZ
def ocl (y:OfZ):Value:=.slice y.1 y.2.2.length y.2.1
theorem RdL.front {α:Type} {cells:α->List Value} {size:Nat} {w:World} {l:List α} (h:RdL cells size w A l) (n:Nat):RdL cells size w A (l.take n):=fun hl=>by
 obtain⟨b,o,h1,h2,h3⟩:=h (by rw[List.length_take] at hl;omega);refine⟨b,o,h1,h2,fun k x hk=>h3 k x ?_⟩;rw[List.getElem?_take] at hk
 split at hk
 ·exact hk
 ·cases hk
structure SeenO (w0:World) (T:List Res) (y:OfZ):Prop where
 wf:∀f∈y.2.2,f.wf
 nil:y.1=none->y.2.2=[]∧y.2.1=0
 few:y.2.2.length<=20
 ptr:0<y.2.2.length->∃g o,y.1=some ⟨g,o,none⟩
 rd:∀{N:Nat} {ds:List Deferred} {fr:List (Nat×Value)} {hp:List Res} {a:Act} {w:World},(∀r∈T,r∈hp)->At ⟨Tryz.prog,w0.heap.size,w0,N,ds⟩ fr hp a w->RdL FltZ.cells 4 w y.1 y.2.2
theorem SeenO.old (h:RdL FltZ.cells 4 w0 A l) (hw:∀f∈l,f.wf) (h0:A=none->l=[]∧c=0) (hl:l.length<=20):SeenO w0 T (A,c,l) :=
 ⟨hw,h0,hl,fun h1=>by obtain⟨b,o,h2,_⟩:=h h1;exact⟨b,o,h2⟩,fun _ ha=>h.later ha.below⟩
theorem SeenO.part (hr:Res.row 27 4 (some ⟨b,0,none⟩) n n (l.flatMap FltZ.cells)∈T) (hw:∀f∈l,f.wf) (hn:n=l.length) (hl:l.length<=20):SeenO w0 T (some ⟨b,0,none⟩,3,l.take m) :=
 ⟨fun f hf=>hw f (List.mem_of_mem_take hf),fun h=>(nomatch h),by rw[List.length_take];omega,fun _=>⟨b,0,rfl⟩,fun hT ha=>by
  exact (kV ha (cells:=FltZ.cells) (size:=4) (e:=27) (fun _=>rfl) (hT _ hr) hn).front m⟩
def os4 (A:Option Addr) (c:Nat) (z:List FltZ) (b x:Nat) (l:List FltZ):List OfZ:=[(A,c,z),(some ⟨b,0,none⟩,3,l.take x),(some ⟨b,0,none⟩,3,l.take 3),(some ⟨b,0,none⟩,3,l.take 2)]
theorem jCf {y:OfZ} (hl:l.length=3) (hx:x<=2) (h:(os4 A c z b x l)[k]?=some y):([.slice A z.length c,.slice (some ⟨b,0,none⟩) x 3,.slice (some ⟨b,0,none⟩) 3 3,.slice (some ⟨b,0,none⟩) 2 3]:List Value)[k]?=some (ocl y):=by
 have h9:([.slice A z.length c,.slice (some ⟨b,0,none⟩) x 3,.slice (some ⟨b,0,none⟩) 3 3,.slice (some ⟨b,0,none⟩) 2 3]:List Value)=(os4 A c z b x l).map ocl:=by
  simp only[os4,ocl,List.map_cons,List.map_nil,List.length_take,hl];rw[Nat.min_eq_left (by omega:x<=3)]
  rfl
 rw[h9,List.getElem?_map,h]
 rfl
theorem zXa {y:OfZ} (h0:SeenO w0 T (A,c,z)) (hr:Res.row 27 4 (some ⟨b,0,none⟩) 3 3 (l.flatMap FltZ.cells)∈T) (hw:∀f∈l,f.wf) (hl:l.length=3) (h:(os4 A c z b x l)[k]?=some y):SeenO w0 T y:=by
 have hm:=List.mem_of_getElem? h;unfold os4 at hm;simp only[List.mem_cons,List.not_mem_nil,or_false] at hm
 rcases hm with rfl|rfl|rfl|rfl
 ·exact h0
 ·exact SeenO.part hr hw hl.symm om
 ·exact SeenO.part hr hw hl.symm om
 ·exact SeenO.part hr hw hl.symm om
section
variable {C:Ctx} {fr:List (Nat×Value)} {hp:List Res} {dst:Option Nat} {ty:TypeId} {pos:String} {after:Array Edge}
theorem zKw {x y:Operand} {t e:TypeId} {len cap:Nat} {kd:IntKind} {z:Value} (hx:ev fr x=some (.slice A len cap)) (hy:ev fr y=some (.int kd (k:Int)))
  (ht:C.P.underlying t=some (.slice e)) (he:TI C.P e z n m) (hle:k<=cap):Yld C ⟨dst,.slice t x none (some y) none,ty,pos,after,none⟩ fr hp (.slice A k cap):=by
 obtain⟨i',hi',_,hs,_⟩:=he;refine⟨rfl,fun a w ha=>⟨zDb ..,?_⟩⟩;have hu:=ht;rw[<-zJk ht] at hu;have h1:(0:Int)<=(k:Int):=om;have h2:((k:Int)<=(cap:Int)):=om;have h3:¬cap<k:=om;have hsz:(sizeOf e).run C.P w=.ok n w:=by simp[sizeOf,typeInfo,hi',hs]
 simp only[execOp,ha.eval hx,Option.map,ha.eval hy,Sem.run_bind,run_sliceAt_slice _ _ _ _ _ _ hu]
 cases A with
 | none=>simp[Instr.slice,run_underlying ht,Instr.sliceBounds,Instr.sliceBound,asIntOf,h1,hle,hsz]
 | some p =>
  have hp0:p.add 0=p:=by unfold Addr.add;split<;>simp_all
  simp[Instr.slice,run_underlying ht,Instr.sliceBounds,Instr.sliceBound,asIntOf,h1,hle,hsz,hp0]
end
end
section
variable [I:Sys]
theorem F.ent23:Enters Tryz.prog 23:=jF Tryz.func23 rfl kr
set_option maxRecDepth 8000 in
theorem zSe [R:ReaC] {fA dA nA oA:Option Addr} {fc dc0 nc oc:Nat} {fz oz:List FltZ} {kz sg pw gn nw:Int} {wd:Bool} {dz nums:List Int} (f0:fA=none->fz=[]∧fc=0) (d0:dA=none->dz=[]∧dc0=0) (hw:∀y∈fz,y.wf) (hf:FltZ.wf ⟨pw,gn,nw,wd⟩) (o0:oA=none->oz=[]∧oc=0) (how:∀y∈oz,y.wf) (w:World) (hF:RdL FltZ.cells 4 w fA fz) (hD:RdL zcell 1 w dA dz) (hO:RdL FltZ.cells 4 w oA oz) (hN:RdL icell 1 w nA nums) (hR:RdC w):Calls Tryz.prog 4 #[.agg #[.slice fA fz.length fc,.int .i64 kz,.slice dA dz.length dc0],.agg #[.int .i64 pw,.int .i64 gn,.int .i64 nw,.bool wd],.int .i64 sg,.slice oA oz.length oc,.slice nA nums.length nc] w fun e w'=>e=.returned (.bool true)∧Grew w w' []:=by
 refine enter (N:=162) [(0,.agg #[.slice fA fz.length fc,.int .i64 kz,.slice dA dz.length dc0]),(1,.agg #[.int .i64 pw,.int .i64 gn,.int .i64 nw,.bool wd]),(2,.int .i64 sg),(3,.slice oA oz.length oc),(4,.slice nA nums.length nc)] Tryz.func4 J Tryz.ntmps4 J J (csr (jW J J ?_));intro b5;refine jW J J ?_;intro b6
 refine lax J J (zG (zG (qK (G:=Bool) (fun g=>g=false->((decide (20<fz.length)||decide (20<dz.length)||(decide (fz.length=3)&&decide (2<dz.length))))=false∧oz.length<=20) (fun g=>[(2,.int .i64 sg),(3,.slice oA oz.length oc),(4,.slice nA nums.length nc),(5,pt b5),(6,pt b6),(45,.bool g)]) (fun _=>[.blk b6 (.cells #[.int .i64 pw,.int .i64 gn,.int .i64 nw,.bool wd] 27 (0,0)),.blk b5 (.cells #[.slice fA fz.length fc,.int .i64 kz,.slice dA dz.length dc0] 25 (0,0))]) ?_ ?_)))
 ·rcases zUh ((decide (20<fz.length)||decide (20<dz.length)||(decide (fz.length=3)&&decide (2<dz.length)))) fz.length oz.length with hv|⟨hv,hol⟩|⟨hv,hol,hne⟩|⟨hv,hol,heq⟩
  ·exact zL (jC J J F.agg25 F.ti25 (jJ (v:=.bool true) (vs:=[_]) J J F.ent10 (fun a w ha=>by rw[<-hv];exact zJ9 w) (zA J J (zP J J J (zP J J J (zP J J J (jE J J J (zA J J (zP J J J (zP J J J (zP J J J (zP J J J (zP J J J (kB J J J (kB J J J (kB J J J (kB J J J (zP J J J (jE J J J (zB (jK true (fun h=>by cases h) sbn pkk)))))))))))))))))))))
  ·exact zL (jC J J F.agg25 F.ti25 (jJ (v:=.bool false) (vs:=[_]) J J F.ent10 (fun a w ha=>by rw[<-hv];exact zJ9 w) (zA J J (zJ J J (zA J J (zJ J J (jL J J Tryz.underlying22 (zJ J J (zD (v:=.bool true) J J J (fun w=>by rw[vC,decide_eq_true om]) (jM J J J (zA J J (zP J J J (zP J J J (zP J J J (zP J J J (zP J J J (kB J J J (kB J J J (kB J J J (kB J J J (zP J J J (jE J J J (zB (jK true (fun h=>by cases h) sbn pkk))))))))))))))))))))))))
  ·exact zL (jC J J F.agg25 F.ti25 (jJ (v:=.bool false) (vs:=[_]) J J F.ent10 (fun a w ha=>by rw[<-hv];exact zJ9 w) (zA J J (zJ J J (zA J J (zJ J J (jL J J Tryz.underlying22 (zJ J J (zD (v:=.bool false) J J J (fun w=>by rw[vC,decide_eq_false om]) (jM J J J (zA J J (zJ J J (zI J J F.fi25_0 F.ti22 (zJ J J (zT J J F.one22 (zJ J J (jL J J Tryz.underlying22 (zJ J J (zD (v:=.bool false) J J J (fun w=>by rw[kI,decide_eq_false om]) (zJ J J (zA J J (zP J J J (zP J J J (zP J J J (zP J J J (zJ J J (jM J J J (jM J J J (zB (jK false (fun _=>⟨hv,hol⟩) sbn pkk))))))))))))))))))))))))))))))
  ·exact zL (jC J J F.agg25 F.ti25 (jJ (v:=.bool false) (vs:=[_]) J J F.ent10 (fun a w ha=>by rw[<-hv];exact zJ9 w) (zA J J (zJ J J (zA J J (zJ J J (jL J J Tryz.underlying22 (zJ J J (zD (v:=.bool false) J J J (fun w=>by rw[vC,decide_eq_false om]) (jM J J J (zA J J (zJ J J (zI J J F.fi25_0 F.ti22 (zJ J J (zT J J F.one22 (zJ J J (jL J J Tryz.underlying22 (zJ J J (zD (v:=.bool true) J J J (fun w=>by rw[kI,decide_eq_true om]) (zJ J J (zA J J (zJ J J (zI J J F.fi25_2 F.ti23 (zJ J J (zT J J F.one23 (zJ J J (jL J J Tryz.underlying23 (zJ J J (zD (v:=.bool (decide ((2:Nat)<dz.length))) J J J (fun w=>by rw[vC,show decide ((2:Int)<(dz.length:Int))=decide ((2:Nat)<dz.length) from decide_eq_decide.2 om]) (zJ J J (jE J J J (jM J J J (zB (jK (decide ((2:Nat)<dz.length)) (fun _=>⟨hv,hol⟩) sbn pkk))))))))))))))))))))))))))))))))))
 ·rintro g45 hg45;(try dsimp only)
  refine zE (kW J (fun hc0=>?_) (fun hc0=>?_))
  ·exact csr (jJ (v:=.bool true) (vs:=[]) J J F.ent11 (fun a w ha=>zL9 w (hR.later ha.below)) (lax J J (zY (zW (zZ J (fun a w ha=>jP J J ha) (fun a w ha=>⟨rfl,ha.grown nsl⟩))))))
  ·obtain⟨hvast,hol⟩:=hg45 hc0;obtain⟨hv1,hv2⟩:=jBc hvast;refine zQ (zE (csr (zA J J (kQ (X:=Nat) (vs:=[_]) (p:=fun _=>True) (val:=fun b=>pt b) (rs:=fun b=>[.blk b (hatO nA nums.length nc 0 11400714819323198485)]) J J F.ent13 (fun a w ha=>(zXo nA nums.length nc w).mono (fun e w' h=>by obtain⟨b,h1,h2⟩:=h;exact⟨b,trivial,h1,h2⟩)) ?_))));intro hb _;dsimp only[List.cons_append,List.nil_append];refine lax J J (csr (jC J J F.agg25 F.ti25 (jC J J F.agg27 F.ti27 (zA J J (zA J J (yQ (X:=Nat×Nat×Nat×CZ×CZ) (vs:=[_,_,_,_]) hb (fun y=>hatO nA nums.length nc y.1 y.2.1) (fun y=>.row 25 3 (some ⟨y.2.2.1,0,none⟩) 4 4 ([(⟨fA,fc,fz,kz,dA,dc0,dz⟩:CZ),y.2.2.2.1,y.2.2.2.1,y.2.2.2.2].flatMap CZ.cells)::(y.2.2.2.1.rows++y.2.2.2.2.rows)) (fun y=>y.1<=0+110∧y.2.1<18446744073709551616∧y.2.2.2.1.Fine∧y.2.2.2.1.Ok∧y.2.2.2.2.Ok∧y.2.2.2.2.fz.length=y.2.2.2.1.fz.length∧y.2.2.2.2.dz.length=y.2.2.2.1.dz.length) (fun y=>.slice (some ⟨y.2.2.1,0,none⟩) 4 4) J J F.ent12 (fun a w ha=>(zVp J J hN (tk:=0) om om hf ha).mono (fun e w' h=>by obtain⟨t',s',b',o',q',h1,h2,h3,h4,h5,h6,h7,h8,h9⟩:=h;exact⟨(t',s',b',o',q'),⟨h1,h2,h3,h4,h5,h6,h7⟩,h8,h9⟩)) ?_))))));rintro⟨tk1,st1,bs,own,other⟩ ⟨htk1,hst1,hfine,hok1,hok2,hl2,hd2⟩;dsimp only[CZ.rows,List.cons_append,List.nil_append] at htk1 hst1 hfine hok1 hok2 hl2 hd2 ⊢;refine lax J J (csr (zA J J ?_))
   refine yQ (X:=Nat×Nat×CZ) (vs:=[_,_,_]) hb (fun y=>hatO nA nums.length nc y.1 y.2.1) (fun y=>y.2.2.rows) (fun y=>y.1<=tk1+100∧y.2.1<18446744073709551616∧1<=y.2.2.fz.length∧y.2.2.fz.length<=2∧1<=y.2.2.dz.length∧y.2.2.dz.length<=2∧∀f∈y.2.2.fz,f.wf) (fun y=>.agg y.2.2.cells.toArray) J J F.ent19 (fun a w ha=>(zI6 J J hN (tk:=tk1) om hst1 (nf:=2) (ny:=2) om om om om ha).mono (fun e w' h=>by
    obtain⟨t',s',k',f',d',A',D',c',dc',h1,h2,h3,h4,h5,h6,h7⟩:=h
    exact⟨(t',s',⟨A',c',f'.map Flt.toZ,k',D',dc',toZs d'⟩),⟨h1,h2,by dsimp only;rw[List.length_map];exact h5.f1,by dsimp only;rw[List.length_map];exact h3,by dsimp only;rw[yT];exact h5.d1,by dsimp only;rw[yT];exact h4,fun y hy=>by obtain⟨z,hz,rfl⟩:=List.mem_map.1 hy;exact zE3 (h5.ff z hz)⟩,by rw[h6];simp only[CZ.cells,List.length_map,yT],by simpa only[CZ.rows,List.length_map,yT,zRy,zV4,List.cons_append,List.nil_append] using h7⟩)) ?_
   rintro⟨tk2,st2,⟨A,c,f2,k2,D,dc,d2⟩⟩ ⟨htk2,hst2,hf21,hf22,hd21,hd22,hw2⟩;dsimp only[CZ.rows,CZ.cells,List.cons_append,List.nil_append] at htk2 hst2 hf21 hf22 hd21 hd22 hw2 ⊢;refine zX J F.ti25 ?_;intro b13;refine zF J J F.ti25 J (lnx (csr (vK A om ?_)));intro gA hgA;refine vK D om ?_;intro gD hgD;refine jC J J F.agg25 F.ti25 (kQ (X:=Option Addr×Nat×Option Addr×Nat) (vs:=[_]) (p:=fun _=>True) (val:=fun g=>.agg #[.slice g.1 f2.length g.2.1,.int .i64 k2,.slice g.2.2.1 d2.length g.2.2.2]) (rs:=fun g=>[.row 27 4 g.1 f2.length g.2.1 (f2.flatMap FltZ.cells),.row 3 1 g.2.2.1 d2.length g.2.2.2 (d2.flatMap zcell)]) J J F.ent14 (fun a w ha=>(zE9 (fz:=f2) (dz:=d2) (fun h=>by rw[hgA] at h;cases h) (fun h=>by rw[hgD] at h;cases h) om om w (kV ha (cells:=FltZ.cells) (size:=4) (e:=27) (c:=c) (n:=f2.length) (l:=f2) (fun _=>rfl) (InR.mem (A:=A)) J) (kV ha (cells:=zcell) (size:=1) (e:=3) (c:=dc) (n:=d2.length) (l:=d2) (fun _=>rfl) (InR.mem (A:=D)) J)).mono (fun e w' h=>by obtain⟨A',c',D',dc',h1,h2⟩:=h;exact⟨(A',c',D',dc'),trivial,h1,h2⟩)) ?_);rintro⟨A2,c2,D2,dc2⟩ -;dsimp only[List.cons_append,List.nil_append];refine zX J F.ti25 ?_;intro b14;refine zF J J F.ti25 J (lnx (csr (zI J J F.fi25_0 F.ti22 (zT J J F.one22 (jC J J F.agg27 F.ti27 (vK A2 om ?_))))));intro g2 hg2;refine vK D2 om ?_;intro gD2 hgD2;refine jZ (j:=0) J (show _=some (Value.slice (some ⟨g2,0,none⟩) f2.length c2) from by rw[<-hg2];rfl) J Tryz.underlying22 F.ti27 J om (zFl (A:=A2) (vs:=[.int .i64 pw,.int .i64 gn,.int .i64 nw,.bool wd]) ((f2.set 0 (⟨pw,gn,nw,wd⟩:FltZ)).flatMap FltZ.cells) (show _=some (Value.pointer (some ⟨g2,0+0*4,none⟩)) from rfl) J F.ti27 J hg2 (by rw[zHk];show 0+0*4+4<=_;omega) (by rw[show 0+0*4=0*4 from by omega];exact zG8 zN1 (⟨pw,gn,nw,wd⟩:FltZ) _ _ om) (lnx (zG (jU [] F.follows 8 J [false,false,false,false,false,false,false,false] J (zC 0 J J J (zN J) (zC 1 J J J (jQ (j:=0) J J Tryz.underlying30 F.ti25 J om) ?_))))))
   refine wT 2 J J J kr kr kr sbl (qJ (l:=[.slice fA fz.length fc,.int .i64 kz,.slice dA dz.length dc0]) J F.agg25 F.ti25 J (fun a w ha j u hu=>by
    obtain⟨b9,o9,h1,_,h3⟩:=kV ha (cells:=CZ.cells) (size:=3) (e:=25) (c:=4) (n:=4) (l:=([(⟨fA,fc,fz,kz,dA,dc0,dz⟩:CZ),own,own,other]:List CZ)) (fun _=>rfl) (InR.mem (A:=some ⟨bs,0,none⟩)) J (by simp)
    cases h1
    exact h3 0 _ J j u hu)) J ?_
   refine zC 3 J J J (kU J F.agg25 F.ti25) (zC 4 J J J (kU J F.agg25 F.ti25) (zC 5 J J J (kU J F.agg25 F.ti25) (an1 6 J (xK (vs:=[(0,.agg ([.slice fA fz.length fc,.int .i64 kz,.slice dA dz.length dc0]:List Value).toArray),(1,.agg ([.slice A f2.length c,.int .i64 k2,.slice D d2.length dc]:List Value).toArray),(2,.agg ([.slice A f2.length c,.int .i64 k2,.slice D d2.length dc]:List Value).toArray),(3,.agg ([.slice A2 f2.length c2,.int .i64 k2,.slice D2 d2.length dc2]:List Value).toArray)]) [.slice fA fz.length fc,.int .i64 kz,.slice dA dz.length dc0,.slice A f2.length c,.int .i64 k2,.slice D d2.length dc,.slice A f2.length c,.int .i64 k2,.slice D d2.length dc,.slice A2 f2.length c2,.int .i64 k2,.slice D2 d2.length dc2] J J U30 F.ti25 J J J (Lit.agg (l1:=[.slice fA fz.length fc,.int .i64 kz,.slice dA dz.length dc0]) J (Lit.agg (l1:=[.slice A f2.length c,.int .i64 k2,.slice D d2.length dc]) J (Lit.agg (l1:=[.slice A f2.length c,.int .i64 k2,.slice D d2.length dc]) J (Lit.agg (l1:=[.slice A2 f2.length c2,.int .i64 k2,.slice D2 d2.length dc2]) J (rfl))))) ?_))));intro b11;refine yW (n:=4) 3 J (by unfold maxLen;omega) (.head _) ?_;rw[show ([.slice fA fz.length fc,.int .i64 kz,.slice dA dz.length dc0,.slice A f2.length c,.int .i64 k2,.slice D d2.length dc,.slice A f2.length c,.int .i64 k2,.slice D d2.length dc,.slice A2 f2.length c2,.int .i64 k2,.slice D2 d2.length dc2]:List Value)=([(⟨fA,fc,fz,kz,dA,dc0,dz⟩:CZ),(⟨A,c,f2,k2,D,dc,d2⟩:CZ),(⟨A,c,f2,k2,D,dc,d2⟩:CZ),(⟨A2,c2,f2.set 0 (⟨pw,gn,nw,wd⟩:FltZ),k2,D2,dc2,d2⟩:CZ)]:List CZ).flatMap CZ.cells from by simp[CZ.cells]];refine zB (anb (zC 7 J J J (jT J) (adn (zE (zG (jU [.b hb] F.follows 7 J [false,false,false,false,false,false,false] J (zC 0 J J J (zN J) (zC 2 J J J (zN J) (zC 4 J J J (kU J F.agg27 F.ti27) (an1 1 J (yQ (X:=Nat×Nat×FltZ) (vs:=[_]) hb (fun y=>hatO nA nums.length nc y.1 y.2.1) (fun _=>[]) (fun y=>y.1<=tk2+10∧y.2.1<18446744073709551616∧y.2.2.wf) (fun y=>.agg #[.int .i64 y.2.2.power,.int .i64 y.2.2.gain,.int .i64 y.2.2.now,.bool y.2.2.washed]) J J F.ent20 (fun a w ha=>(zF9 J J hN (tk:=tk2) om hst2 ha).mono (fun e w' h=>by obtain⟨t',s',f',h1,h2,h3,h4,h5⟩:=h;exact⟨(t',s',f'.toZ),⟨h1,h2,zE3 h3⟩,h4,h5⟩)) ?_)))))))))));rintro⟨tk3,st3,⟨p3,g3,w3,q3⟩⟩ ⟨htk3,hst3,hwf3⟩;dsimp only[List.nil_append] at htk3 hst3 hwf3 ⊢;refine zB (anb (an1 3 J (yQ (X:=Nat×Nat×FltZ) (vs:=[_]) hb (fun y=>hatO nA nums.length nc y.1 y.2.1) (fun _=>[]) (fun y=>y.1<=tk3+10∧y.2.1<18446744073709551616∧y.2.2.wf) (fun y=>.agg #[.int .i64 y.2.2.power,.int .i64 y.2.2.gain,.int .i64 y.2.2.now,.bool y.2.2.washed]) J J F.ent20 (fun a w ha=>(zF9 J J hN (tk:=tk3) om hst3 ha).mono (fun e w' h=>by obtain⟨t',s',f',h1,h2,h3,h4,h5⟩:=h;exact⟨(t',s',f'.toZ),⟨h1,h2,zE3 h3⟩,h4,h5⟩)) ?_)));rintro⟨tk4,st4,⟨p4,g4,w4,q4⟩⟩ ⟨htk4,hst4,hwf4⟩;dsimp only[List.nil_append] at htk4 hst4 hwf4 ⊢;refine zB (anb (an1 5 J (xK (vs:=[(0,.agg ([.int .i64 p3,.int .i64 g3,.int .i64 w3,.bool q3]:List Value).toArray),(1,.agg ([.int .i64 p4,.int .i64 g4,.int .i64 w4,.bool q4]:List Value).toArray),(2,.agg ([.int .i64 pw,.int .i64 gn,.int .i64 nw,.bool wd]:List Value).toArray)]) [.int .i64 p3,.int .i64 g3,.int .i64 w3,.bool q3,.int .i64 p4,.int .i64 g4,.int .i64 w4,.bool q4,.int .i64 pw,.int .i64 gn,.int .i64 nw,.bool wd] J J U22 F.ti27 J J J (Lit.agg (l1:=[.int .i64 p3,.int .i64 g3,.int .i64 w3,.bool q3]) J (Lit.agg (l1:=[.int .i64 p4,.int .i64 g4,.int .i64 w4,.bool q4]) J (Lit.agg (l1:=[.int .i64 pw,.int .i64 gn,.int .i64 nw,.bool wd]) J (rfl)))) ?_)));intro b12;refine yW (n:=3) 4 J (by unfold maxLen;omega) (.head _) ?_;rw[show ([.int .i64 p3,.int .i64 g3,.int .i64 w3,.bool q3,.int .i64 p4,.int .i64 g4,.int .i64 w4,.bool q4,.int .i64 pw,.int .i64 gn,.int .i64 nw,.bool wd]:List Value)=([⟨p3,g3,w3,q3⟩,⟨p4,g4,w4,q4⟩,⟨pw,gn,nw,wd⟩]:List FltZ).flatMap FltZ.cells from rfl];refine zB (anb (zC 6 J J J (jT J) (adn (zE (zG (jU [.b hb] F.follows 10 J [false,false,false,false,false,false,false,false,false,false] J (zC 0 J J J (zN J) (zC 1 J J J (zN J) (zC 2 J J J (zN J) (zC 5 J J J (zN J) (zC 6 J J J (zN J) (zC 7 J J J (zKw (k:=2) J J U22 F.ti27 om) (an1 3 J (yL J J J J hN hst4 om om ?_))))))))))))));rintro s5 x5 hs5 hx5;refine zB (anb (zC 4 J J J (zKw (k:=x5) J J U22 F.ti27 om) (an1 8 J (kH (vs:=[(0,_),(1,_),(2,_),(3,_)]) J J U45 F.ti22 J J J ?_))));intro b83;refine yW (n:=4) 1 J (by unfold maxLen;omega) (.head _) (zB (anb (zC 9 J J J (jT J) (adn (zE (zG (csr (lax J J (zU ?_)))))))));have hl3:([⟨p3,g3,w3,q3⟩,⟨p4,g4,w4,q4⟩,⟨pw,gn,nw,wd⟩]:List FltZ).length=3:=rfl
   have hw3:∀f∈([⟨p3,g3,w3,q3⟩,⟨p4,g4,w4,q4⟩,⟨pw,gn,nw,wd⟩]:List FltZ),f.wf:=fun f h=>by
    simp only[List.mem_cons,List.not_mem_nil,or_false] at h
    rcases h with rfl|rfl|rfl
    ·exact hwf3
    ·exact hwf4
    ·exact hf
   have hok1:CZ.Ok (⟨A,c,f2,k2,D,dc,d2⟩:CZ):=⟨hw2,(fun h=>by rw[hgA] at h;cases h),(fun h=>by rw[hgD] at h;cases h),by dsimp only;omega,by dsimp only;omega⟩;have hok2:CZ.Ok (⟨A2,c2,f2.set 0 (⟨pw,gn,nw,wd⟩:FltZ),k2,D2,dc2,d2⟩:CZ):=⟨fun y hy=>(List.mem_or_eq_of_mem_set hy).elim (hw2 y) fun e=>e▸hf,(fun h=>by rw[hg2] at h;cases h),(fun h=>by rw[hgD2] at h;cases h),by dsimp only;rw[List.length_set];omega,by dsimp only;omega⟩;refine xN (G:=Nat) (fun k=>k<=4) (fun k=>4-k) (fun k=>[(12,.slice (some ⟨b11,0,none⟩) 4 4),(16,.slice (some ⟨b83,0,none⟩) 4 4),(17,.int .i64 (k:Int))]) (fun _=>[.row 22 1 (some ⟨b83,0,none⟩) 4 4 ([.slice oA oz.length oc,.slice (some ⟨b12,0,none⟩) x5 3,.slice (some ⟨b12,0,none⟩) 3 3,.slice (some ⟨b12,0,none⟩) 2 3]:List Value),.row 27 4 (some ⟨b12,0,none⟩) 3 3 (([⟨p3,g3,w3,q3⟩,⟨p4,g4,w4,q4⟩,⟨pw,gn,nw,wd⟩]:List FltZ).flatMap FltZ.cells),.row 25 3 (some ⟨b11,0,none⟩) 4 4 (([(⟨fA,fc,fz,kz,dA,dc0,dz⟩:CZ),(⟨A,c,f2,k2,D,dc,d2⟩:CZ),(⟨A,c,f2,k2,D,dc,d2⟩:CZ),(⟨A2,c2,f2.set 0 (⟨pw,gn,nw,wd⟩:FltZ),k2,D2,dc2,d2⟩:CZ)]:List CZ).flatMap CZ.cells),.row 27 4 A f2.length c (f2.flatMap FltZ.cells),.row 3 1 D d2.length dc (d2.flatMap zcell),.row 27 4 A2 f2.length c2 ((f2.set 0 (⟨pw,gn,nw,wd⟩:FltZ)).flatMap FltZ.cells),.row 3 1 D2 d2.length dc2 (d2.flatMap zcell)]) 0 (Nat.zero_le _) sbn pkk ?_;intro k hk0;(try dsimp only at hk0 ⊢);refine zG (csr (zA J J (zA J J (jL J J U30 (zD J J J jX ?_)))))
   refine lnx (zM J (fun hc1=>?_) (fun hc1=>?_))
   ·have hk4:k<4:=om;obtain⟨x,hx⟩:∃x,([(⟨fA,fc,fz,kz,dA,dc0,dz⟩:CZ),(⟨A,c,f2,k2,D,dc,d2⟩:CZ),(⟨A,c,f2,k2,D,dc,d2⟩:CZ),(⟨A2,c2,f2.set 0 (⟨pw,gn,nw,wd⟩:FltZ),k2,D2,dc2,d2⟩:CZ)]:List CZ)[k]?=some x:=⟨_,List.getElem?_eq_getElem hk4⟩;have hxok:x.Ok:=zRa ⟨hw,f0,d0,hv1,hv2⟩ hok1 hok2 hx;have hxr:Seen w [.row 22 1 (some ⟨b83,0,none⟩) 4 4 ([.slice oA oz.length oc,.slice (some ⟨b12,0,none⟩) x5 3,.slice (some ⟨b12,0,none⟩) 3 3,.slice (some ⟨b12,0,none⟩) 2 3]:List Value),.row 27 4 (some ⟨b12,0,none⟩) 3 3 (([⟨p3,g3,w3,q3⟩,⟨p4,g4,w4,q4⟩,⟨pw,gn,nw,wd⟩]:List FltZ).flatMap FltZ.cells),.row 25 3 (some ⟨b11,0,none⟩) 4 4 (([(⟨fA,fc,fz,kz,dA,dc0,dz⟩:CZ),(⟨A,c,f2,k2,D,dc,d2⟩:CZ),(⟨A,c,f2,k2,D,dc,d2⟩:CZ),(⟨A2,c2,f2.set 0 (⟨pw,gn,nw,wd⟩:FltZ),k2,D2,dc2,d2⟩:CZ)]:List CZ).flatMap CZ.cells),.row 27 4 A f2.length c (f2.flatMap FltZ.cells),.row 3 1 D d2.length dc (d2.flatMap zcell),.row 27 4 A2 f2.length c2 ((f2.set 0 (⟨pw,gn,nw,wd⟩:FltZ)).flatMap FltZ.cells),.row 3 1 D2 d2.length dc2 (d2.flatMap zcell)] x:=zRa (P:=Seen w _) (Seen.old ⟨hF,hD⟩) (Seen.own (by intro r hr;simp only[CZ.rows,List.mem_cons,List.not_mem_nil,or_false] at hr ⊢;rcases hr with rfl|rfl<;>simp)) (Seen.own (by intro r hr;simp only[CZ.rows,List.mem_cons,List.not_mem_nil,or_false] at hr ⊢;rcases hr with rfl|rfl<;>simp)) hx;obtain⟨y,hy⟩:∃y,(os4 oA oc oz b12 x5 ([⟨p3,g3,w3,q3⟩,⟨p4,g4,w4,q4⟩,⟨pw,gn,nw,wd⟩]:List FltZ))[k]?=some y:=⟨_,List.getElem?_eq_getElem hk4⟩;have hyr:SeenO w [.row 22 1 (some ⟨b83,0,none⟩) 4 4 ([.slice oA oz.length oc,.slice (some ⟨b12,0,none⟩) x5 3,.slice (some ⟨b12,0,none⟩) 3 3,.slice (some ⟨b12,0,none⟩) 2 3]:List Value),.row 27 4 (some ⟨b12,0,none⟩) 3 3 (([⟨p3,g3,w3,q3⟩,⟨p4,g4,w4,q4⟩,⟨pw,gn,nw,wd⟩]:List FltZ).flatMap FltZ.cells),.row 25 3 (some ⟨b11,0,none⟩) 4 4 (([(⟨fA,fc,fz,kz,dA,dc0,dz⟩:CZ),(⟨A,c,f2,k2,D,dc,d2⟩:CZ),(⟨A,c,f2,k2,D,dc,d2⟩:CZ),(⟨A2,c2,f2.set 0 (⟨pw,gn,nw,wd⟩:FltZ),k2,D2,dc2,d2⟩:CZ)]:List CZ).flatMap CZ.cells),.row 27 4 A f2.length c (f2.flatMap FltZ.cells),.row 3 1 D d2.length dc (d2.flatMap zcell),.row 27 4 A2 f2.length c2 ((f2.set 0 (⟨pw,gn,nw,wd⟩:FltZ)).flatMap FltZ.cells),.row 3 1 D2 d2.length dc2 (d2.flatMap zcell)] y:=zXa (SeenO.old hO how o0 hol) (by simp) hw3 hl3 hy;have hyt:=jCf J hx5 hy;obtain⟨xA,xc,xf,xk,xD,xd,xz⟩:=x;obtain⟨xw,xf0,xd0,xfl,xdl⟩:=hxok;obtain⟨yA,yc,yz⟩:=y;obtain⟨yw,y0,yl,yp,yr⟩:=hyr;dsimp only at xw xf0 xd0 xfl xdl yw y0 yl yp yr
    refine zQ (zE (zG (zU (zG (qK (G:=Nat×Option Addr×Nat×Option Addr×Nat×Option Addr×Nat) (fun _=>True) (fun g=>[(12,.slice (some ⟨b11,0,none⟩) 4 4),(16,.slice (some ⟨b83,0,none⟩) 4 4),(17,.int .i64 (k:Int)),(18,.pointer (some ⟨g.1,0,none⟩)),(19,.slice g.2.2.2.2.2.1 yz.length g.2.2.2.2.2.2)]) (fun g=>.blk g.1 (.cells #[.slice g.2.1 xf.length g.2.2.1,.int .i64 xk,.slice g.2.2.2.1 xz.length g.2.2.2.2.1] 25 (0,0))::.row 27 4 g.2.1 xf.length g.2.2.1 (xf.flatMap FltZ.cells)::.row 3 1 g.2.2.2.1 xz.length g.2.2.2.2.1 (xz.flatMap zcell)::.row 27 4 g.2.2.2.2.2.1 yz.length g.2.2.2.2.2.2 (yz.flatMap FltZ.cells)::[.row 22 1 (some ⟨b83,0,none⟩) 4 4 ([.slice oA oz.length oc,.slice (some ⟨b12,0,none⟩) x5 3,.slice (some ⟨b12,0,none⟩) 3 3,.slice (some ⟨b12,0,none⟩) 2 3]:List Value),.row 27 4 (some ⟨b12,0,none⟩) 3 3 (([⟨p3,g3,w3,q3⟩,⟨p4,g4,w4,q4⟩,⟨pw,gn,nw,wd⟩]:List FltZ).flatMap FltZ.cells),.row 25 3 (some ⟨b11,0,none⟩) 4 4 (([(⟨fA,fc,fz,kz,dA,dc0,dz⟩:CZ),(⟨A,c,f2,k2,D,dc,d2⟩:CZ),(⟨A,c,f2,k2,D,dc,d2⟩:CZ),(⟨A2,c2,f2.set 0 (⟨pw,gn,nw,wd⟩:FltZ),k2,D2,dc2,d2⟩:CZ)]:List CZ).flatMap CZ.cells),.row 27 4 A f2.length c (f2.flatMap FltZ.cells),.row 3 1 D d2.length dc (d2.flatMap zcell),.row 27 4 A2 f2.length c2 ((f2.set 0 (⟨pw,gn,nw,wd⟩:FltZ)).flatMap FltZ.cells),.row 3 1 D2 d2.length dc2 (d2.flatMap zcell)]) ?_ ?_)))))
    ·refine jU [] F.follows 14 J [false,false,false,false,false,false,false,false,false,false,false,false,false,false] J (zC 0 J J J (zN J) (zC 1 J J J (zN J) (zC 2 J J J (jQ (j:=k) J J U30 F.ti25 J hk4) ?_)))
     refine wT 3 J J J kr kr kr sbl (qJ (l:=[.slice xA xf.length xc,.int .i64 xk,.slice xD xz.length xd]) J F.agg25 F.ti25 J (fun a w ha j u hu=>by
      obtain⟨b9,o9,h1,_,h3⟩:=kV ha (cells:=CZ.cells) (size:=3) (e:=25) (c:=4) (n:=4) (l:=([(⟨fA,fc,fz,kz,dA,dc0,dz⟩:CZ),(⟨A,c,f2,k2,D,dc,d2⟩:CZ),(⟨A,c,f2,k2,D,dc,d2⟩:CZ),(⟨A2,c2,f2.set 0 (⟨pw,gn,nw,wd⟩:FltZ),k2,D2,dc2,d2⟩:CZ)]:List CZ)) (fun _=>rfl) (InR.mem (A:=some ⟨b11,0,none⟩)) J (by simp)
      cases h1
      exact h3 k _ hx j u hu)) J ?_
     refine zC 6 J J J (zN J) (zC 7 J J J (zN J) (zC 8 J J J (jQ (j:=k) J J Tryz.underlying45 F.ti22 J hk4) (zC 9 J J J (jS (v:=.slice yA yz.length yc) J F.one22 (fun a w ha=>kX ha (InR.mem (A:=some ⟨b83,0,none⟩)) J (by rw[show 0+k*1=k from by omega];exact hyt))) ?_)))
     refine zHr (l3:=#[true,true,true,true,false,false,true,true,true,true,false,true,false,false]) 4 5 11 kr J J J J J J ?_ ?_ ?_
     ·refine kQ (X:=Option Addr×Nat×Option Addr×Nat) (vs:=[_]) (p:=fun _=>True) (val:=fun g=>.agg #[.slice g.1 xf.length g.2.1,.int .i64 xk,.slice g.2.2.1 xz.length g.2.2.2]) (rs:=fun g=>[.row 27 4 g.1 xf.length g.2.1 (xf.flatMap FltZ.cells),.row 3 1 g.2.2.1 xz.length g.2.2.2 (xz.flatMap zcell)]) J J F.ent14 (fun a w ha=>(zE9 (fz:=xf) (dz:=xz) xf0 xd0 om om w (hxr (fun r hr=>by repeat (first|exact hr|apply List.mem_cons_of_mem)) ha).f (hxr (fun r hr=>by repeat (first|exact hr|apply List.mem_cons_of_mem)) ha).d).mono (fun e w' h=>by obtain⟨A',c',D',dc',h1,h2⟩:=h;exact⟨(A',c',D',dc'),trivial,h1,h2⟩)) ?_;rintro⟨A1,c1,D1,dc1⟩ -;dsimp only[List.cons_append,List.nil_append]
      refine zB (anb (kZ 5 11 kr J J J J ?_ ?_))
      ·refine vL J U22 F.ti27 ?_;intro b95;refine xU 4 (.head _) ?_
       refine zB (anb (kZ 10 11 kr J J J J ?_ ?_))
       ·refine xQ (cells:=FltZ.cells) J J J Tryz.underlying22 F.ti27 J J (fun _=>rfl) zBu (fun a w ha=>(yr (fun r hr=>by repeat (first|exact hr|apply List.mem_cons_of_mem)) ha)) y0 J (by unfold maxLen;omega) om ?_;intro A9 c9;simp only[Nat.zero_add,List.nil_append];refine zB (anb (an1 11 J (zX J F.ti25 ?_)));intro b18;exact zB (anb (an1 12 J (zF J J F.ti25 J (zB (anb (zC 13 J J J (jT J) (adn (jK (b18,A1,c1,D1,dc1,A9,c9) trivial sbn pkk))))))))
       ·refine zX J F.ti25 ?_;intro b18;refine zB (anb (an1 10 J (xQ (cells:=FltZ.cells) J J J Tryz.underlying22 F.ti27 J J (fun _=>rfl) zBu (fun a w ha=>(yr (fun r hr=>by repeat (first|exact hr|apply List.mem_cons_of_mem)) ha)) y0 J (by unfold maxLen;omega) om ?_)));intro A9 c9;simp only[Nat.zero_add,List.nil_append];exact zB (anb (an1 12 J (zF J J F.ti25 J (zB (anb (zC 13 J J J (jT J) (adn (jK (b18,A1,c1,D1,dc1,A9,c9) trivial sbn pkk))))))))
      ·refine zX J F.ti25 ?_;intro b18;refine zB (anb (an1 5 J (vL J U22 F.ti27 ?_)));intro b95;refine xU 4 (.head _) (zB (anb (an1 10 J (xQ (cells:=FltZ.cells) J J J Tryz.underlying22 F.ti27 J J (fun _=>rfl) zBu (fun a w ha=>(yr (fun r hr=>by repeat (first|exact hr|apply List.mem_cons_of_mem)) ha)) y0 J (by unfold maxLen;omega) om ?_))));intro A9 c9;simp only[Nat.zero_add,List.nil_append];exact zB (anb (an1 12 J (zF J J F.ti25 J (zB (anb (zC 13 J J J (jT J) (adn (jK (b18,A1,c1,D1,dc1,A9,c9) trivial sbn pkk))))))))
     ·refine vL J U22 F.ti27 ?_;intro b95;refine xU 4 (.head _) ?_
      refine zB (anb (kZ 4 11 kr J J J J ?_ ?_))
      ·refine kQ (X:=Option Addr×Nat×Option Addr×Nat) (vs:=[_]) (p:=fun _=>True) (val:=fun g=>.agg #[.slice g.1 xf.length g.2.1,.int .i64 xk,.slice g.2.2.1 xz.length g.2.2.2]) (rs:=fun g=>[.row 27 4 g.1 xf.length g.2.1 (xf.flatMap FltZ.cells),.row 3 1 g.2.2.1 xz.length g.2.2.2 (xz.flatMap zcell)]) J J F.ent14 (fun a w ha=>(zE9 (fz:=xf) (dz:=xz) xf0 xd0 om om w (hxr (fun r hr=>by repeat (first|exact hr|apply List.mem_cons_of_mem)) ha).f (hxr (fun r hr=>by repeat (first|exact hr|apply List.mem_cons_of_mem)) ha).d).mono (fun e w' h=>by obtain⟨A',c',D',dc',h1,h2⟩:=h;exact⟨(A',c',D',dc'),trivial,h1,h2⟩)) ?_;rintro⟨A1,c1,D1,dc1⟩ -;dsimp only[List.cons_append,List.nil_append]
       refine zB (anb (kZ 10 11 kr J J J J ?_ ?_))
       ·refine xQ (cells:=FltZ.cells) J J J Tryz.underlying22 F.ti27 J J (fun _=>rfl) zBu (fun a w ha=>(yr (fun r hr=>by repeat (first|exact hr|apply List.mem_cons_of_mem)) ha)) y0 J (by unfold maxLen;omega) om ?_;intro A9 c9;simp only[Nat.zero_add,List.nil_append];refine zB (anb (an1 11 J (zX J F.ti25 ?_)));intro b18;exact zB (anb (an1 12 J (zF J J F.ti25 J (zB (anb (zC 13 J J J (jT J) (adn (jK (b18,A1,c1,D1,dc1,A9,c9) trivial sbn pkk))))))))
       ·refine zX J F.ti25 ?_;intro b18;refine zB (anb (an1 10 J (xQ (cells:=FltZ.cells) J J J Tryz.underlying22 F.ti27 J J (fun _=>rfl) zBu (fun a w ha=>(yr (fun r hr=>by repeat (first|exact hr|apply List.mem_cons_of_mem)) ha)) y0 J (by unfold maxLen;omega) om ?_)));intro A9 c9;simp only[Nat.zero_add,List.nil_append];exact zB (anb (an1 12 J (zF J J F.ti25 J (zB (anb (zC 13 J J J (jT J) (adn (jK (b18,A1,c1,D1,dc1,A9,c9) trivial sbn pkk))))))))
      ·refine zX J F.ti25 ?_;intro b18;refine zB (anb (an1 4 J (kQ (X:=Option Addr×Nat×Option Addr×Nat) (vs:=[_]) (p:=fun _=>True) (val:=fun g=>.agg #[.slice g.1 xf.length g.2.1,.int .i64 xk,.slice g.2.2.1 xz.length g.2.2.2]) (rs:=fun g=>[.row 27 4 g.1 xf.length g.2.1 (xf.flatMap FltZ.cells),.row 3 1 g.2.2.1 xz.length g.2.2.2 (xz.flatMap zcell)]) J J F.ent14 (fun a w ha=>(zE9 (fz:=xf) (dz:=xz) xf0 xd0 om om w (hxr (fun r hr=>by repeat (first|exact hr|apply List.mem_cons_of_mem)) ha).f (hxr (fun r hr=>by repeat (first|exact hr|apply List.mem_cons_of_mem)) ha).d).mono (fun e w' h=>by obtain⟨A',c',D',dc',h1,h2⟩:=h;exact⟨(A',c',D',dc'),trivial,h1,h2⟩)) ?_)));rintro⟨A1,c1,D1,dc1⟩ -;dsimp only[List.cons_append,List.nil_append];refine zB (anb (an1 10 J (xQ (cells:=FltZ.cells) J J J Tryz.underlying22 F.ti27 J J (fun _=>rfl) zBu (fun a w ha=>(yr (fun r hr=>by repeat (first|exact hr|apply List.mem_cons_of_mem)) ha)) y0 J (by unfold maxLen;omega) om ?_)));intro A9 c9;simp only[Nat.zero_add,List.nil_append];exact zB (anb (an1 12 J (zF J J F.ti25 J (zB (anb (zC 13 J J J (jT J) (adn (jK (b18,A1,c1,D1,dc1,A9,c9) trivial sbn pkk))))))))
     ·refine zX J F.ti25 ?_;intro b18
      refine zB (anb (kZ 4 5 kr J J J J ?_ ?_))
      ·refine kQ (X:=Option Addr×Nat×Option Addr×Nat) (vs:=[_]) (p:=fun _=>True) (val:=fun g=>.agg #[.slice g.1 xf.length g.2.1,.int .i64 xk,.slice g.2.2.1 xz.length g.2.2.2]) (rs:=fun g=>[.row 27 4 g.1 xf.length g.2.1 (xf.flatMap FltZ.cells),.row 3 1 g.2.2.1 xz.length g.2.2.2 (xz.flatMap zcell)]) J J F.ent14 (fun a w ha=>(zE9 (fz:=xf) (dz:=xz) xf0 xd0 om om w (hxr (fun r hr=>by repeat (first|exact hr|apply List.mem_cons_of_mem)) ha).f (hxr (fun r hr=>by repeat (first|exact hr|apply List.mem_cons_of_mem)) ha).d).mono (fun e w' h=>by obtain⟨A',c',D',dc',h1,h2⟩:=h;exact⟨(A',c',D',dc'),trivial,h1,h2⟩)) ?_;rintro⟨A1,c1,D1,dc1⟩ -;dsimp only[List.cons_append,List.nil_append];refine zB (anb (an1 5 J (vL J U22 F.ti27 ?_)));intro b95;refine xU 4 (.head _) (zB (anb (an1 10 J (xQ (cells:=FltZ.cells) J J J Tryz.underlying22 F.ti27 J J (fun _=>rfl) zBu (fun a w ha=>(yr (fun r hr=>by repeat (first|exact hr|apply List.mem_cons_of_mem)) ha)) y0 J (by unfold maxLen;omega) om ?_))));intro A9 c9;simp only[Nat.zero_add,List.nil_append];exact zB (anb (an1 12 J (zF J J F.ti25 J (zB (anb (zC 13 J J J (jT J) (adn (jK (b18,A1,c1,D1,dc1,A9,c9) trivial sbn pkk))))))))
      ·refine vL J U22 F.ti27 ?_;intro b95;refine xU 4 (.head _) (zB (anb (an1 4 J (kQ (X:=Option Addr×Nat×Option Addr×Nat) (vs:=[_]) (p:=fun _=>True) (val:=fun g=>.agg #[.slice g.1 xf.length g.2.1,.int .i64 xk,.slice g.2.2.1 xz.length g.2.2.2]) (rs:=fun g=>[.row 27 4 g.1 xf.length g.2.1 (xf.flatMap FltZ.cells),.row 3 1 g.2.2.1 xz.length g.2.2.2 (xz.flatMap zcell)]) J J F.ent14 (fun a w ha=>(zE9 (fz:=xf) (dz:=xz) xf0 xd0 om om w (hxr (fun r hr=>by repeat (first|exact hr|apply List.mem_cons_of_mem)) ha).f (hxr (fun r hr=>by repeat (first|exact hr|apply List.mem_cons_of_mem)) ha).d).mono (fun e w' h=>by obtain⟨A',c',D',dc',h1,h2⟩:=h;exact⟨(A',c',D',dc'),trivial,h1,h2⟩)) ?_))));rintro⟨A1,c1,D1,dc1⟩ -;dsimp only[List.cons_append,List.nil_append];refine zB (anb (an1 10 J (xQ (cells:=FltZ.cells) J J J Tryz.underlying22 F.ti27 J J (fun _=>rfl) zBu (fun a w ha=>(yr (fun r hr=>by repeat (first|exact hr|apply List.mem_cons_of_mem)) ha)) y0 J (by unfold maxLen;omega) om ?_)));intro A9 c9;simp only[Nat.zero_add,List.nil_append];exact zB (anb (an1 12 J (zF J J F.ti25 J (zB (anb (zC 13 J J J (jT J) (adn (jK (b18,A1,c1,D1,dc1,A9,c9) trivial sbn pkk))))))))
    ·rintro⟨b18,A1,c1,D1,dc1,A9,c9⟩ -;(try dsimp only);refine zE (csr (jC J J F.agg25 F.ti25 (zA J J (kQ (X:=Nat×Nat×Nat) (vs:=[_,_]) (p:=fun y=>RawB xf xk xz yz y) (val:=fun y=>.tuple #[.int .i64 (y.1:Int),.int .i64 (y.2.1:Int),.int .i64 (y.2.2:Int)]) (rs:=fun _=>[]) J J F.ent22 (fun a w ha=>(jEd (fz:=xf) (dz:=xz) (oz:=yz) om om om (jAj (A:=A1) ha) w (kV ha (cells:=FltZ.cells) (size:=4) (e:=27) (c:=c1) (n:=xf.length) (l:=xf) (fun _=>rfl) (InR.mem (A:=A1)) J) (kV ha (cells:=zcell) (size:=1) (e:=3) (c:=dc1) (n:=xz.length) (l:=xz) (fun _=>rfl) (InR.mem (A:=D1)) J) (kV ha (cells:=FltZ.cells) (size:=4) (e:=27) (c:=c9) (n:=yz.length) (l:=yz) (fun _=>rfl) (InR.mem (A:=A9)) J)).mono (fun e w' h=>by obtain⟨y,h1,h2,h3⟩:=h;exact⟨y,h1,h2,h3⟩)) ?_))));rintro⟨n1,m1,e1⟩ hp1;dsimp only[List.nil_append] at hp1 ⊢;refine zA J J (jH J J J (jH J J J (jH J J J (zH J J (zH J J (lax J J (zG (jU [] F.follows 16 J [false,false,false,false,false,false,false,false,false,false,false,false,false,false,false,false] J (zC 0 J J J (zN J) (zC 1 J J J (zN J) (zC 2 J J J (jQ (j:=k) J J U30 F.ti25 J hk4) ?_)))))))))))
     refine wT 3 J J J kr kr kr sbl (qJ (l:=[.slice xA xf.length xc,.int .i64 xk,.slice xD xz.length xd]) J F.agg25 F.ti25 J (fun a w ha j u hu=>by
      obtain⟨b9,o9,h1,_,h3⟩:=kV ha (cells:=CZ.cells) (size:=3) (e:=25) (c:=4) (n:=4) (l:=([(⟨fA,fc,fz,kz,dA,dc0,dz⟩:CZ),(⟨A,c,f2,k2,D,dc,d2⟩:CZ),(⟨A,c,f2,k2,D,dc,d2⟩:CZ),(⟨A2,c2,f2.set 0 (⟨pw,gn,nw,wd⟩:FltZ),k2,D2,dc2,d2⟩:CZ)]:List CZ)) (fun _=>rfl) (InR.mem (A:=some ⟨b11,0,none⟩)) J (by simp)
      cases h1
      exact h3 k _ hx j u hu)) J ?_
     refine zC 4 J J J (zN J) (zC 5 J J J (zN J) (zC 6 J J J (jQ (j:=k) J J Tryz.underlying45 F.ti22 J hk4) (zC 7 J J J (jS (v:=.slice yA yz.length yc) J F.one22 (fun a w ha=>kX ha (InR.mem (A:=some ⟨b83,0,none⟩)) J (by rw[show 0+k*1=k from by omega];exact hyt))) (an1 8 J (kQ (X:=Nat×Nat×Nat) (vs:=[_,_]) (p:=fun y=>RawB xf xk xz yz y) (val:=fun y=>.tuple #[.int .i64 (y.1:Int),.int .i64 (y.2.1:Int),.int .i64 (y.2.2:Int)]) (rs:=fun _=>[]) J J F.ent23 (fun a w ha=>(jCb (fz:=xf) (dz:=xz) (oz:=yz) om om om w (hxr (fun r hr=>by repeat (first|exact hr|apply List.mem_cons_of_mem)) ha).f (hxr (fun r hr=>by repeat (first|exact hr|apply List.mem_cons_of_mem)) ha).d (yr (fun r hr=>by repeat (first|exact hr|apply List.mem_cons_of_mem)) ha)).mono (fun e w' h=>by obtain⟨y,h1,h2,h3⟩:=h;exact⟨y,h1,h2,h3⟩)) ?_)))));rintro⟨n2,m2,e2⟩ hp2;dsimp only[List.nil_append] at hp2 ⊢;obtain⟨rfl,e9⟩:=Prod.ext_iff.1 (RawB.uniq hp1 hp2);obtain⟨rfl,rfl⟩:=Prod.ext_iff.1 e9;dsimp only;refine zB (anb (zC 9 J J J (zN J) (zC 10 J J J (jV J J) (zC 11 J J J (jV J J) (zC 12 J J J (jV J J) (zC 13 J J J (jT J) (zC 14 J J J (jT J) (zC 15 J J J (jT J) (adn (zE (zG (zG (jU [] F.follows 22 J [false,false,false,false,false,false,false,false,false,false,false,false,false,false,false,false,false,false,false,false,false,false] J (zC 0 J J J (zN J) (zC 1 J J J (zN J) (zC 2 J J J (qS (v:=.bool false) J J (fun w=>by rw[qG,decide_eq_false (fun h=>h J)])) (zC 3 J J J (zN J) (kC 4 J J J J J kr kr kr sbl (zN J) J (kC 5 J J J J J kr kr kr sbl (zN J) J (kC 6 J J J J J kr kr kr sbl (qS (v:=.bool false) J J (fun w=>by rw[qG,decide_eq_false (fun h=>h J)])) J (zC 7 J J J (vP J J) (zC 8 J J J (zN J) (kC 9 J J J J J kr kr kr sbl (zN J) J (kC 10 J J J J J kr kr kr sbl (zN J) J (kC 11 J J J J J kr kr kr sbl (qS (v:=.bool false) J J (fun w=>by rw[qG,decide_eq_false (fun h=>h J)])) J (zC 12 J J J (vP J J) ?_))))))))))))))))))))))))));refine zC 13 J J J (zN J) (kC 14 J J J J J kr kr kr sbl (kU J F.agg25 F.ti25) J (kC 15 J J J J J kr kr kr sbl (zN J) J (kC 16 J J J J J kr kr kr sbl (zN J) J (kC 17 J J J J J kr kr kr sbl (jQ (j:=k) J J U30 F.ti25 J hk4) J ?_))))
     refine kC 18 J J J J J kr kr kr sbl (qJ (l:=[.slice xA xf.length xc,.int .i64 xk,.slice xD xz.length xd]) J F.agg25 F.ti25 J (fun a w ha j u hu=>by
      obtain⟨b9,o9,h1,_,h3⟩:=kV ha (cells:=CZ.cells) (size:=3) (e:=25) (c:=4) (n:=4) (l:=([(⟨fA,fc,fz,kz,dA,dc0,dz⟩:CZ),(⟨A,c,f2,k2,D,dc,d2⟩:CZ),(⟨A,c,f2,k2,D,dc,d2⟩:CZ),(⟨A2,c2,f2.set 0 (⟨pw,gn,nw,wd⟩:FltZ),k2,D2,dc2,d2⟩:CZ)]:List CZ)) (fun _=>rfl) (InR.mem (A:=some ⟨b11,0,none⟩)) J (by simp)
      cases h1
      exact h3 k _ hx j u hu)) J ?_
     refine an1 19 J (zJ J J (jJ (v:=.bool true) (vs:=[_,_]) J J F.ent18 (fun a w ha=>zUv (fz:=xf) (dz:=xz) xw om om w (kV ha (cells:=FltZ.cells) (size:=4) (e:=27) (c:=c1) (n:=xf.length) (l:=xf) (fun _=>rfl) (InR.mem (A:=A1)) J) (kV ha (cells:=zcell) (size:=1) (e:=3) (c:=dc1) (n:=xz.length) (l:=xz) (fun _=>rfl) (InR.mem (A:=D1)) J) (hxr (fun r hr=>by repeat (first|exact hr|apply List.mem_cons_of_mem)) ha).f (hxr (fun r hr=>by repeat (first|exact hr|apply List.mem_cons_of_mem)) ha).d) (zB (anb (kC 20 J J J J J kr kr kr sbl (zDm J) J (zC 21 J J J (vP J J) (adn (zE (kL J (zQ (zE (csr (lax J J (zU (xN (G:=Nat) (fun j=>j<=yz.length) (fun j=>yz.length-j) (fun j=>[(12,.slice (some ⟨b11,0,none⟩) 4 4),(16,.slice (some ⟨b83,0,none⟩) 4 4),(17,.int .i64 (k:Int)),(19,.slice A9 yz.length c9),(26,.int .i64 (j:Int))]) (fun _=>.row 27 4 A9 yz.length c9 (yz.flatMap FltZ.cells)::[.row 22 1 (some ⟨b83,0,none⟩) 4 4 ([.slice oA oz.length oc,.slice (some ⟨b12,0,none⟩) x5 3,.slice (some ⟨b12,0,none⟩) 3 3,.slice (some ⟨b12,0,none⟩) 2 3]:List Value),.row 27 4 (some ⟨b12,0,none⟩) 3 3 (([⟨p3,g3,w3,q3⟩,⟨p4,g4,w4,q4⟩,⟨pw,gn,nw,wd⟩]:List FltZ).flatMap FltZ.cells),.row 25 3 (some ⟨b11,0,none⟩) 4 4 (([(⟨fA,fc,fz,kz,dA,dc0,dz⟩:CZ),(⟨A,c,f2,k2,D,dc,d2⟩:CZ),(⟨A,c,f2,k2,D,dc,d2⟩:CZ),(⟨A2,c2,f2.set 0 (⟨pw,gn,nw,wd⟩:FltZ),k2,D2,dc2,d2⟩:CZ)]:List CZ).flatMap CZ.cells),.row 27 4 A f2.length c (f2.flatMap FltZ.cells),.row 3 1 D d2.length dc (d2.flatMap zcell),.row 27 4 A2 f2.length c2 ((f2.set 0 (⟨pw,gn,nw,wd⟩:FltZ)).flatMap FltZ.cells),.row 3 1 D2 d2.length dc2 (d2.flatMap zcell)]) 0 (Nat.zero_le _) sbn pkk ?_)))))))))))))));intro j hj0;(try dsimp only at hj0 ⊢);refine zG (csr (zAo (fun a w ha=>(fun h=>wS (ha.own _ (InR.mem (A:=A9) (e:=27) (size:=4) (n:=yz.length) (c:=c9) (xs:=yz.flatMap FltZ.cells))) h:0<yz.length->∃g,A9=some ⟨g,0,none⟩)) ?_));intro hA9;refine zA J J (zA J J (jL J J U22 (zD J J J jX ?_)))
     refine lnx (zM J (fun hc3=>?_) (fun hc3=>?_))
     ·have hj':j<yz.length:=om;obtain⟨f,hfj⟩:∃x,yz[j]?=some x:=⟨_,List.getElem?_eq_getElem hj'⟩;have hwj:=yw f (List.mem_of_getElem? hfj);obtain⟨gy,oy,hgy⟩:=yp om;obtain⟨g9,hg9⟩:=hA9 om;obtain⟨fp,fg,fn,fw⟩:=f;refine zQ (zE (zG (zU (zG (jU [] F.follows 12 J [false,false,false,false,false,false,false,false,false,false,false,false] J (zC 0 J J J (zN J) (zC 1 J J J (zN J) (zC 2 J J J (jQ (j:=j) (show _=some (Value.slice (some ⟨g9,0,none⟩) yz.length c9) from by rw[<-hg9];rfl) J Tryz.underlying22 F.ti27 J hj') ?_))))))))
      refine wT 3 J J J kr kr kr sbl (qJ (l:=[.int .i64 fp,.int .i64 fg,.int .i64 fn,.bool fw]) J F.agg27 F.ti27 J (fun a w ha i9 u hu=>by
       obtain⟨b9,o9,h1,_,h3⟩:=(kV ha (cells:=FltZ.cells) (size:=4) (e:=27) (c:=c9) (n:=yz.length) (l:=yz) (fun _=>rfl) (InR.mem (A:=A9)) J) om;rw[hg9] at h1
       cases h1
       exact h3 j _ hfj i9 u hu)) J ?_
      refine zC 4 J J J (zN J) (zC 5 J J J (zN J) (zC 6 J J J (jQ (j:=k) J J Tryz.underlying45 F.ti22 J hk4) (zC 7 J J J (jS (v:=.slice yA yz.length yc) J F.one22 (fun a w ha=>kX ha (InR.mem (A:=some ⟨b83,0,none⟩)) J (by rw[show 0+k*1=k from by omega];exact hyt))) (zC 8 J J J (zN J) (zC 9 J J J (jQ (j:=j) (show _=some (Value.slice (some ⟨gy,oy,none⟩) yz.length yc) from by rw[<-hgy];rfl) J Tryz.underlying22 F.ti27 J hj') ?_)))))
      refine wT 10 J J J kr kr kr sbl (qJ (l:=[.int .i64 fp,.int .i64 fg,.int .i64 fn,.bool fw]) J F.agg27 F.ti27 J (fun a w ha i9 u hu=>by
       obtain⟨b9,o9,h1,_,h3⟩:=(yr (fun r hr=>by repeat (first|exact hr|apply List.mem_cons_of_mem)) ha) om;rw[hgy] at h1
       cases h1
       exact h3 j _ hfj i9 u hu)) J ?_
      refine zC 11 J J J (zHw (v:=.bool false) J J (zIs hwj _ _)) (adn (zE (kL J (zQ (zK (zE (zL (zA J J (zD J J J (fun w=>jG w (zS _ om om)) (zH J J (zB (qH (j+1) om tdo sbn pkk))))))))))))
     ·refine jY (zO (zO (jD (zK (zE (zL (zA J J (zD J J J (fun w=>jG w (zS _ om om)) (zH J J (zB (qH (k+1) om tdo sbn pkk)))))))))))
   ·exact jY (zO (zO (jD (zE (csr (jJ (v:=.bool true) (vs:=[]) J J F.ent11 (fun a w ha=>zL9 w (hR.later ha.below)) (lax J J (zY (zZ J (fun a w ha=>jP J J ha) (fun a w ha=>⟨rfl,ha.grown nsl⟩))))))))))

end
section
open Go.Conc
variable {low:Nat} {msg:Nat->Value} {tW:TypeId}
def seenZ (W:World):World:={seenW W with output:=gout [0]}
theorem zVf (W:World):Hid (Viewed W) (fun _=>False) W (seenZ W):=by
 have h:=zVz W;exact⟨h.1,h.2,h.3,h.4,h.5,h.6,h.7,h.8,h.9,h.10⟩
theorem zS0 {W:World} {p:Addr} {u:Value} (h:W.cell? p=some u):(seenZ W).cell? p=some u:=zSm h
section
variable {P:Program} {W:World} {f:FuncId} {args:Array Value} {Post:Value->World->Prop}
theorem zQj {F:Nat->Prop} {w w' v':World} (hk:Kept F (fun _=>False) w w') (hv:Hid F (fun _=>False) w' v') (hb:Bas W (Viewed W) (fun i=>i=0) (fun _=>F) w) (hv0:Below (seenZ W).heap.size (seenZ W) v'):Below W.heap.size W w':=by
 refine⟨hk.os.trans hb.os,hk.tape.trans hb.tape,hk.output.trans hb.output,Nat.le_trans hb.size hk.size,fun b hlt=>?_⟩
 by_cases hF:F b
 ·rw[hk.block b (Nat.lt_of_lt_of_le hlt hb.size) (.inl hF)];exact (hb.held b (hb.new b hlt hF)).2.1
 ·rw[<-hv.same b hF (fun x=>x),hv0.block b (by simpa[seenZ,seenW] using hlt)];show (seenW W).heap[b]?=_;rw[zBs]
  cases h:W.heap[b]? with
  | none=>rfl
  | some o =>
   cases o with
   | view p t=>exact absurd ((hb.held b ⟨p,t,h⟩).2.2 0 rfl) hF
   | _=>rfl
def sig0:Cst:=⟨0,0,0,[],0,false,false,false,0,0,.rest,[],[],fun _=>none,[]⟩
theorem zTt:sig0.blank:=⟨fun _=>rfl,rfl,rfl,rfl,rfl,rfl,rfl,rfl,rfl⟩
theorem jAr (low:Nat):Cok low sig0:=by
 refine⟨List.nodup_nil,rfl,fun j=>?_,fun j p h=>(by cases h),fun b hb=>(by cases hb),fun h=>(by cases h),fun h=>(by cases h),fun h=>(by cases h),by decide,rfl,.nil,zTt⟩
 constructor
 ·intro h;cases h
 ·rintro⟨p,h⟩;cases h
theorem jA0 {σ:Cst} (hok:Cok low σ) (h:σ.gh 0=some [0]):Alone (Cp low tW msg) σ∧σ.lent=[]∧∀c,¬(Cst.ts σ).Ca c:=by
 rw[zBq] at h;have hp:=hok.phase
 cases hm:σ.mn<;>rw[hm] at h<;>simp[Mn.enc] at h
 unfold Cst.phase at hp;rw[hm] at hp;obtain⟨h1,h2,h3,h4,h5,h6,h7,h8,h9⟩:=hp
 refine⟨?_,h9,fun c hc=>?_⟩
 ·refine⟨fun j hj=>zBl hj h1,?_⟩;show (Cst.ts σ).D 0=0;simp[Cst.ts,hm,Mn.deaf]
 ·rcases hc with ⟨h,_⟩|⟨h,_⟩<;>omega
theorem zLo (hK:low=W.heap.size) (noInit:P.inits.idxOf? f=none)
  (h : @Calls P (zSys P (Cp low tW msg)) f args (seenZ W) fun e v'=>∃x,e=.returned x∧Below (seenZ W).heap.size (seenZ W) v'∧∀W',Below W.heap.size W W'->Post x W') :
  ∃N last o w' t',runNT P (N+1) (solo (G (Frame.enter P f args .normal) []) W) #[]=(.ended o w',t')∧runN P N (solo (G (Frame.enter P f args .normal) []) W)=.next last∧step P last=.ended o w'∧Go.Conc.Good P Post last o w' t':=by
 refine jC8 (K:=Cp low tW msg) (σ:=sig0) (γ:=[0]) jA7 hK (zVf W) J (jAr low) J (fun j hj=>zBm hj J) (fun b hb=>(by cases hb)) J J (@Gs.mono P (zSys P (Cp low tW msg)) _ _ _ _ (h []) fun g v' hs=>?_);obtain⟨e,fr,v₀,⟨x,rfl,hb,hp⟩,hr,rfl,hfn,hm,hd,hkd,fn,hf,ht,hres⟩:=hs;have hb':Below (seenZ W).heap.size (seenZ W) v':=hb.trans (hr.mono hb.size);refine⟨rfl,⟨[0],hb'.output,fun σ hok hg=>jA0 hok hg⟩,fun F w hv hbas=>?_⟩;obtain⟨w',h1,h2,h3,h4,h5⟩:=ht.ok (hres v' (Rl.refl v')) hv;have hno:P.inits.idxOf? fr.fn=none:=by rw[hfn];exact noInit
 refine⟨x,w',seen P fr.fn ((results fn fr.tmps).events P v' #[]),?_,?_,hp w' (zQj h4 h3 hbas hb')⟩
 ·rw[<-h2];simp[G,stepG,unwind,doReturn,hm,hd,hkd,hf,h1,hno,GStep.after]
 ·rw[<-hv.size];exact fun e he=>h5 e (Go.Conc.mem_seen he)
end
theorem zBy {H:Type} {enc:TypeId×Value->H} {a:Assume} {C:Checked} {os:Os} {f:FuncId} {fn:Func} {s:ChangeSpec} {conds:List PathCond} {apart fresh handsOn again:Bool} (tW:TypeId) (msg:Nat->Value)
  (own:ownKnob C.prog.godebug=none) (started:os.Started) (noInit:C.prog.inits.idxOf? f=none) (hfn:C.prog.funcs[f]?=some fn)
  (witness:∃(w:World) (tape:Tape) (i:Input),w.os=os∧(w.forCall tape i).Shaped C.prog∧i.vars=[]∧Input.okWide C.prog (w.forCall tape i) .any w.heap.size f i ∧
   s.pre6 enc C.prog fn conds apart (w.forCall tape i).memory i.args∧a.holds C.prog (lone (Frame.enter C.prog f i.args .normal) [] (w.forCall tape i)))
  (contract:∀(W:World) (base:Nat) (args:Array Value) (ds gs:List (DataW H)) (before:List MemPlace),
   (∀(j:Nat) t v,fn.params[j]?=some t->args[j]?=some v->Value.okWide C.prog W .any base t v) ->
   DataW.Whole enc C.prog fn.params.toList s.vars apart W args.toList ds gs before ->
   conds.all (PathCond.test C.prog ⟨fn.params.toList,ds,s.plain.varTypes C.prog,gs⟩)=true ->
   (DataW.weightsEach C.prog (fn.params.toList++s.plain.varTypes C.prog) (ds++gs)).all (·<=reachBytes)=true ->
   a.holds C.prog (lone (Frame.enter C.prog f args .normal) [] W) ->
   @Calls C.prog (zSys C.prog (Cp W.heap.size tW msg)) f args (seenZ W) fun e v'=>∃x,e=.returned x∧Below (seenZ W).heap.size (seenZ W) v'∧∀W',Below W.heap.size W W'->s.post enc C.prog fn apart fresh handsOn again W args x W') :
  ReturnsInLeavingWide a C os f .any (s.pre6 enc C.prog fn conds apart) (s.post enc C.prog fn apart fresh handsOn again):=by
 refine returnsInLeavingWide_of_good own started witness ?_;intro w tape i _ _ _ hok hpre hholds;obtain⟨_,_,_,fn',hfn',_,_,_,_,hval⟩:=hok;have e:fn'=fn:=Option.some.inj (hfn'.symm.trans hfn);subst e;obtain⟨⟨ds,gs,before,hw,hc⟩,hz⟩:=hpre;have hw':=DataW.Whole.of_heap (w':=w.forCall tape i) (by rfl) hw;have hcalls:=contract (w.forCall tape i) w.heap.size i.args ds gs before hval hw' hc (hz.weights hw) hholds;obtain⟨M,last,o,w',t',h1,h2,h3,h4⟩:=zLo J noInit hcalls;exact⟨M,last,o,w',t',h1,h2,h3,h4.mono fun v hp=>ChangeSpec.post_blind hp⟩
end
end Go.Proofs.YteppiphdbondeaaGreat.N
/- What rows of laws about char share: the program's closed facts, and the law from its call in company. -/
namespace Go.Proofs.YteppiphdbondeaaGreat.N
open Go Go.ChangeShapes Go.WideShapes Go.ChangeAt Go.RowKit Go.Proofs Go.Proofs.YteppiphdbondeaaGreat Go.Proofs.YteppiphdbondeaaGreat.Rows
set_option linter.unusedSectionVars false
theorem own_:ownKnob Tryz.prog.godebug=Option.none:=by kernel_rfl
theorem zN6:laidOutB Tryz.prog=true:=by kernel_rfl
theorem zLg:Tryz.prog.cellsOf 3=1:=by kernel_rfl
theorem zVc:Tryz.prog.underlying 23=some (.slice 3):=by kernel_rfl
theorem zNw:Tryz.prog.underlying 3=some (.int .i64):=by kernel_rfl
theorem zY8:Tryz.prog.underlying 4=some .bool:=by kernel_rfl
theorem jAn:Tryz.prog.readableRec 23=true:=by kernel_rfl
set_option maxRecDepth 100000 in
theorem jEc:23<Tryz.prog.types.size:=of_decide_eq_true (by kernel_rfl)
theorem zFs {α:Type} {cells:α->List Value} {size:Nat} {W:World} {A:Option Addr} {l:List α} (h:RdL cells size W A l):RdL cells size (seenZ W) A l:=fun hl=>by
 obtain⟨b,o,h1,h2,h3⟩:=h hl;exact⟨b,o,h1,by simpa[seenZ,seenW] using h2,fun k x hk j u hu=>zS0 (h3 k x hk j u hu)⟩
abbrev ZS (W:World):Sys:=zSys Tryz.prog (Cp W.heap.size 158 msgM)
def orderN:List Nat:=[104,97,114,110,101,115,115,32,48,54,49,51,49,99,97,48,49,54,101,97,100,102,48,51,102,57,97,100,49,54,102,55,49,53,56,54,56,53,50,50,99,48,48,49,51,57,48,55,101,97,57,51,53,54,52,57,55,51,57,53,55,101,98,49,102,52,55,54,50,57,48,57,32,99,117,116,32,97,116,32,109,117,115,99,111,118,97,100,111,47,109,117,115,99,111,118,97,100,111,108,97,119,48,52,46,67,104,97,114,70,101,119,101,115,116,115,32,109,117,115,99,111,118,97,100,111,47,109,117,115,99,111,118,97,100,111,108,97,119,48,52,46,67,104,97,114,66,117,121,115,32,109,117,115,99,111,118,97,100,111,47,109,117,115,99,111,118,97,100,111,108,97,119,48,52,46,67,104,97,114,65,103,97,105,110,115,32,109,117,115,99,111,118,97,100,111,47,109,117,115,99,111,118,97,100,111,108,97,119,48,52,46,67,104,97,114,67,111,117,114,115,101,115,32,109,117,115,99,111,118,97,100,111,47,109,117,115,99,111,118,97,100,111,108,97,119,48,52,46,67,104,97,114,70,97,105,108,115,32,109,117,115,99,111,118,97,100,111,47,109,117,115,99,111,118,97,100,111,108,97,119,48,52,46,67,104,97,114,78,101,101,100,101,100,115,32,109,117,115,99,111,118,97,100,111,47,109,117,115,99,111,118,97,100,111,108,97,119,48,52,46,67,104,97,114,77,111,115,116,115]
def wordsN:List (List Nat):=[[104,97,114,110,101,115,115],[48,54,49,51,49,99,97,48,49,54,101,97,100,102,48,51,102,57,97,100,49,54,102,55,49,53,56,54,56,53,50,50,99,48,48,49,51,57,48,55,101,97,57,51,53,54,52,57,55,51,57,53,55,101,98,49,102,52,55,54,50,57,48,57],[99,117,116],[97,116],[109,117,115,99,111,118,97,100,111,47,109,117,115,99,111,118,97,100,111,108,97,119,48,52,46,67,104,97,114,70,101,119,101,115,116,115],[109,117,115,99,111,118,97,100,111,47,109,117,115,99,111,118,97,100,111,108,97,119,48,52,46,67,104,97,114,66,117,121,115],[109,117,115,99,111,118,97,100,111,47,109,117,115,99,111,118,97,100,111,108,97,119,48,52,46,67,104,97,114,65,103,97,105,110,115],[109,117,115,99,111,118,97,100,111,47,109,117,115,99,111,118,97,100,111,108,97,119,48,52,46,67,104,97,114,67,111,117,114,115,101,115],[109,117,115,99,111,118,97,100,111,47,109,117,115,99,111,118,97,100,111,108,97,119,48,52,46,67,104,97,114,70,97,105,108,115],[109,117,115,99,111,118,97,100,111,47,109,117,115,99,111,118,97,100,111,108,97,119,48,52,46,67,104,97,114,78,101,101,100,101,100,115],[109,117,115,99,111,118,97,100,111,47,109,117,115,99,111,118,97,100,111,108,97,119,48,52,46,67,104,97,114,77,111,115,116,115]]
set_option maxRecDepth 100000 in
theorem jBj:Tryz.prog.initOrder=String.ofList (orderN.map Char.ofNat):=by kernel_rfl
theorem zZf:Tryz.prog.initOrder.toList=orderN.map Char.ofNat:=by rw[jBj,String.toList_ofList]
def wordN (k:Nat):List Char:=(wordsN.getD k []).map Char.ofNat
def wordR:List (List Char):=(wordsN.drop 3).map (·.map Char.ofNat)
set_option maxRecDepth 100000 in
theorem jAq:wordsSigns Tryz.prog.initOrder.toList=wordN 0::wordN 1::wordN 2::wordR:=by
 rw[zZf]
 kernel_rfl
theorem zVg {a b : List Char} {r : List (List Char)} (h1 : (a == "harness".toList || a == "ownmain".toList) = true) (h2 : isSumSigns b = true) : behindMainWord (a :: b :: r) = r := by
 unfold behindMainWord;dsimp only;rw[h1,h2]
 rfl
theorem zN0:behindMainWord (wordsSigns Tryz.prog.initOrder.toList)=wordN 2::wordR:=by
 rw[jAq];exact zVg kr kr
theorem jBe {P : Program} {c : List Char} {rest : List (List Char)} (h : behindMainWord (wordsSigns P.initOrder.toList) = c :: rest) (h1 : (c == "gc".toList || c == "spec".toList) = false) (h2 : (c == "cut".toList) = true) : P.make = some .cut := by
 unfold Program.make;rw[h];dsimp only;rw[h1,h2]
 rfl
theorem jBo {P : Program} {c : List Char} {rest : List (List Char)} (h : behindMainWord (wordsSigns P.initOrder.toList) = c :: rest) (h1 : (stripLifts liftWords (c :: rest)).1 = []) (h2 : ((stripLifts liftWords (c :: rest)).2.head? == some "cut".toList) = true) (h3 : P.laysLater = false) (h4 : P.bearsReflect = false) (h5 : P.doorFits [] = true) : P.mayEnter = true := by
 unfold Program.mayEnter;rw[h];dsimp only;rw[h1,h2,h3,h4,h5];simp
theorem zWv {P : Program} {c : List Char} {rest : List (List Char)} (h : behindMainWord (wordsSigns P.initOrder.toList) = c :: rest) (h1 : (stripLifts liftWords (c :: rest)).1 = []) (h2 : (c == "carried".toList) = false) : P.liftsFinal = false := by
 have e : (some c == some "carried".toList) = false := h2;unfold Program.liftsFinal Program.headLifts;dsimp only;rw [h, h1, List.head?_cons, e];simp
theorem zKo:(stripLifts liftWords (wordN 2::wordR)).1=[]:=by kernel_rfl
set_option maxRecDepth 100000 in
theorem jDk:Tryz.prog.make=some .cut:=jBe zN0 (by kernel_rfl) (by kernel_rfl)
set_option maxRecDepth 100000 in
theorem jBz:Tryz.prog.liftsFinal=false:=zWv zN0 zKo (by kernel_rfl)
set_option maxRecDepth 100000 in
theorem zSk:Tryz.prog.laysLater=false:=by kernel_rfl
set_option maxRecDepth 100000 in
theorem zNt:Tryz.prog.bearsReflect=false:=by kernel_rfl
set_option maxRecDepth 100000 in
theorem jD7:Tryz.prog.doorFits []=true:=by kernel_rfl
set_option maxRecDepth 100000 in
theorem may_:Tryz.prog.mayEnter=true:=jBo zN0 zKo (by kernel_rfl) zSk zNt jD7
set_option maxRecDepth 100000 in
theorem zTu:mapsRowed Tryz.prog=true:=by kernel_rfl
set_option maxRecDepth 100000 in
theorem zTs:Tryz.prog.plainKeys=false:=by kernel_rfl
set_option maxRecDepth 100000 in
theorem zQ3:Tryz.prog.stopsHeard=true:=by kernel_rfl
end Go.Proofs.YteppiphdbondeaaGreat.N
namespace Go.Proofs.YteppiphdbondeaaGreat.N
set_option linter.unusedSectionVars false
open Go.RowKit
section
theorem zYd (W:World) : @RdC (ZS W) (reaC_main W.heap.size) (seenZ W):=⟨by show W.heap.size<=(seenZ W).heap.size;simp[seenZ,seenW],rfl⟩
end
end Go.Proofs.YteppiphdbondeaaGreat.N
/- What rows of laws that compare char with the reference share: char, filters and lists of numbers out of what the statement lets the input be. -/
namespace Go.Proofs.YteppiphdbondeaaGreat.N
open Go Go.ChangeShapes Go.WideShapes Go.ChangeAt Go.RowKit Go.Proofs Go.Proofs.YteppiphdbondeaaGreat Go.Proofs.YteppiphdbondeaaGreat.Rows
set_option linter.unusedSectionVars false
theorem zGb {H:Type} {enc:TypeId×Value->H} {W W':World} (hn:Below W.heap.size W W'):∀{ts:List TypeId} {vs:List Value} {ds:List (DataW H)} {ps:List MemPlace},
  (∀t∈ts,Tryz.prog.readableRec t=true∧t<Tryz.prog.types.size)->DataW.TrodAll enc Tryz.prog W 0 (fun _=>true) true ts vs ds ps->(∀x∈ps,x.block<W.heap.size) ->
  DataW.TrodAll enc Tryz.prog W' 0 (fun b=>decide (b<W.heap.size)) true ts vs ds ps
 | [],_,_,_,_,h,_=>by
  obtain⟨rfl,rfl,rfl⟩:=trodAll_nil h
  exact trodAll_mk0
 | t::ts,vs,ds,ps,hr,h,hlt=>by
  obtain⟨v,vs',d,ds',p,q,rfl,rfl,rfl,h1,h2⟩:=trodAll_cons h;exact trodAll_cons_mk (Below.trod zN6 (hr t (by simp)).1 (hr t (by simp)).2 h1 hn (fun x hx=>hlt x (List.mem_append_left _ hx))) (zGb hn (fun u hu=>hr u (by simp[hu])) h2 (fun x hx=>hlt x (List.mem_append_right _ hx)))
set_option maxRecDepth 100000 in
theorem zQg {H:Type} {enc:TypeId×Value->H} {f:FuncId} {fn:Func} {s:ChangeSpec} (hr:fn.resultTypes=#[4]) (hs:s.vars=[]) (hread:∀t∈fn.params.toList,Tryz.prog.readableRec t=true∧t<Tryz.prog.types.size)
  {W:World} {args:Array Value} {ds gs:List (DataW H)} {before:List MemPlace} (hfn:s.fn H ds={results:=[.lit (.bool true)],args:=ds})
  (hW:DataW.Whole enc Tryz.prog fn.params.toList s.vars false W args.toList ds gs before)
  (hc : @Calls Tryz.prog (ZS W) f args (seenZ W) fun e w'=>e=.returned (.bool true)∧Grew (seenZ W) w' []) :
  @Calls Tryz.prog (ZS W) f args (seenZ W) fun e v'=>∃x,e=.returned x∧Below (seenZ W).heap.size (seenZ W) v'∧∀W',Below W.heap.size W W'->s.post enc Tryz.prog fn false true false false W args x W':=by
 have hW':=hW;obtain⟨p,q,hA,hV,rfl,_,_⟩:=hW;rw[hs] at hV;obtain⟨rfl,rfl⟩:=trodVars_none hV;simp only[List.append_nil] at hW';refine @Calls.mono _ (ZS W) _ _ _ _ _ hc fun e v' ⟨he,hg⟩=>⟨_,he,hg.1,fun W' hb=>?_⟩
 refine⟨_,_,_,[],p,[],hW',?_,?_,?_,hb.frame _,fun h=>Bool.noConfusion h⟩
 ·rw[List.append_nil,hfn,hr];exact trodAll_mk1 (shut_bool zY8 true)
 ·rw[List.append_nil,hfn];exact zGb hb hread hA (fun x hx=>hW'.lt x hx)
 ·rw[List.append_nil,hfn,hs];rfl
set_option maxRecDepth 100000 in
theorem zG6 {H:Type} {enc:TypeId×Value->H} {W:World} {fuel:Nat} {v:Value} {x:DataW H×List MemPlace} (hf:DataW.trod enc Tryz.prog W 0 (fun _=>true) true fuel 23 [v]=some x) (hlt:∀y∈x.2,y.block<W.heap.size) :
  ∃(A:Option Addr) (c:Nat) (l:List Int),v=.slice A l.length c∧RdL icell 1 W A l∧(A=Option.none->l=[]∧c=0):=by
 rcases open_ints zVc zNw zLg hf with ⟨hcs,hx⟩|⟨a,len,cap,zs,hcs,_,hl,hm,hz,hx,hcell,hwz⟩
 ·obtain rfl:=List.singleton_inj.1 hcs;exact⟨_,_,[],rfl,fun h=>absurd h (by simp),fun _=>⟨rfl,rfl⟩⟩
 ·obtain rfl:=List.singleton_inj.1 hcs;subst hx;simp only[if_true] at hz;obtain⟨b,off,spot⟩:=a;have hlen:(zs.take len).length=len:=by rw[List.length_take];omega
  refine⟨_,cap,zs.take len,by rw[hlen],fun hpos=>?_,fun h=>by cases h⟩;rw[hlen] at hpos;have hspot:spot=Option.none:=by simpa[Addr.add] using World.cell?_spot (hcell 0 om)
  subst hspot;refine⟨b,off,rfl,hlt (.cell b off) (MemPlace.mem_row.2 ⟨0,by omega,by simp⟩),fun k x hk j u hu=>?_⟩;rw[List.getElem?_take] at hk
  split at hk
  ·rename_i hkl
   cases j with
   | zero =>
    simp[icell] at hu;subst hu;have:=hcell k om;rw[List.getD_eq_getElem?_getD,hk] at this;rw[Nat.mul_one,Nat.add_zero];rw[add_plain] at this
    exact this
   | succ j=>simp[icell] at hu
  ·cases hk
set_option maxRecDepth 100000 in
theorem zMf {H:Type} {enc:TypeId×Value->H} {W:World} {fuel:Nat} {cs:List Value} {x:DataW H×List MemPlace} (h:DataW.trod enc Tryz.prog W 0 (fun _=>true) true fuel 27 cs=some x) :
  ∃y:FltZ,y.wf∧cs=y.cells:=by
 obtain⟨xs,n,_,_,hcl,hxl,hf⟩:=DataW.trod_struct Tryz.underlying27 h;rw[co27] at hcl
 match cs,hcl with
 | [v0,v1,v2,v3],_ =>
  have key:∀v x,DataW.trod enc Tryz.prog W 0 (fun _=>true) true n 3 [v]=some x->∃m,v=.int .i64 m∧W64 m:=fun v x hx=>by
   obtain⟨m,h1,_,h3⟩:=DataW.trod_int zNw hx;exact⟨m,List.singleton_inj.1 h1,bounds_i64 h3⟩
  have keyb:∀v x,DataW.trod enc Tryz.prog W 0 (fun _=>true) true n 4 [v]=some x->∃b,v=.bool b:=fun v x hx=>by
   obtain⟨b,h1,_⟩:=DataW.trod_bool zY8 hx;exact⟨b,List.singleton_inj.1 h1⟩
  have f0:=hf 0 _ J;have f1:=hf 1 _ J;have f2:=hf 2 _ J;have f3:=hf 3 _ J;simp[zLg] at f0 f1 f2;simp[co4] at f3;obtain⟨m0,rfl,w0⟩:=key v0 _ (f0.trans (List.getElem?_eq_getElem (by simp[hxl])));obtain⟨m1,rfl,w1⟩:=key v1 _ (f1.trans (List.getElem?_eq_getElem (by simp[hxl])));obtain⟨m2,rfl,w2⟩:=key v2 _ (f2.trans (List.getElem?_eq_getElem (by simp[hxl])));obtain⟨b,rfl⟩:=keyb v3 _ (f3.trans (List.getElem?_eq_getElem (by simp[hxl])));exact⟨⟨m0,m1,m2,b⟩,⟨w0,w1,w2⟩,rfl⟩
set_option maxRecDepth 100000 in
theorem zZi {H:Type} {enc:TypeId×Value->H} {W:World} {base:Nat} {v:Value} {d:DataW H} {p:List MemPlace} (hok:Value.okWide Tryz.prog W .any base 27 v)
  (h:DataW.Trod enc Tryz.prog W 0 (fun _=>true) true 27 v d p):∃y:FltZ,y.wf∧v=.agg y.cells.toArray:=by
 obtain⟨cs,rfl,_⟩:=okWide_struct Tryz.underlying27 hok;obtain⟨fuel,hf⟩:=h;obtain⟨y,hy,hc⟩:=zMf hf;simp only[Value.cells] at hc;exact⟨y,hy,by rw[<-hc]⟩
set_option maxRecDepth 100000 in
theorem zHj {H:Type} {enc:TypeId×Value->H} {W:World} {fuel:Nat} {v:Value} {x:DataW H×List MemPlace} (hf:DataW.trod enc Tryz.prog W 0 (fun _=>true) true fuel 22 [v]=some x) (hlt:∀y∈x.2,y.block<W.heap.size) :
  ∃(A:Option Addr) (c:Nat) (l:List FltZ),v=.slice A l.length c∧RdL FltZ.cells 4 W A l∧(∀y∈l,y.wf)∧(A=Option.none->l=[]∧c=0):=by
 rcases Go.Deep.open_slice U22 hf with ⟨hcs,hx⟩|⟨a,len,cap,m,n,D,Pl,hcs,_,hl,hm,hmm,hx,hi⟩
 ·obtain rfl:=List.singleton_inj.1 hcs;exact⟨_,_,[],rfl,fun h=>absurd h (by simp),fun y hy=>(List.not_mem_nil hy).elim,fun _=>⟨rfl,rfl⟩⟩
 ·obtain rfl:=List.singleton_inj.1 hcs;subst hx;simp only[if_true] at hmm;subst hmm;rw[co27] at hi
  obtain⟨Y,hY⟩:=Go.Deep.choose_lt (α:=FltZ) (p:=fun i y=>y.wf∧∀j u,y.cells[j]?=some u->W.cell? (a.add (i*4+j))=some u) (fun i hlt'=>by
   obtain⟨cs',h1,h2⟩:=hi i hlt';obtain⟨y,hy,rfl⟩:=zMf h2;obtain⟨_,_,h3⟩:=World.cells?_some h1;refine⟨y,hy,fun j u hu=>?_⟩
   have hj:j<4:=by
    have:=(List.getElem?_eq_some_iff.1 hu).1;simpa[FltZ.cells] using this
   have:=h3 j hj;rw[hu,Go.Deep.add_add] at this
   exact this)
  have hlen:((List.range len).map Y).length=len:=by simp
  obtain⟨b,off,spot⟩:=a
  refine⟨_,m,(List.range len).map Y,by rw[hlen],fun hpos=>?_,fun y hy=>?_,fun h=>by cases h⟩
  ·rw[hlen] at hpos;have hspot:spot=Option.none:=by simpa[Addr.add] using World.cell?_spot ((hY 0 om).2 0 _ J)
   subst hspot;refine⟨b,off,rfl,hlt (.cell b off) (List.mem_append_left _ (MemPlace.mem_row.2 ⟨0,by rw[co27];omega,by simp⟩)),fun k x hk j u hu=>?_⟩;rw[List.getElem?_map] at hk;obtain⟨i,h1,rfl⟩:=Option.map_eq_some_iff.1 hk;obtain⟨h2,h3⟩:=List.getElem?_eq_some_iff.1 h1;rw[List.getElem_range] at h3;subst h3;rw[List.length_range] at h2;have:=(hY k om).2 j u hu;rw[add_plain,<-Nat.add_assoc] at this;exact this
  ·obtain⟨i,h1,rfl⟩:=List.mem_map.1 hy;exact (hY i (by have:=List.mem_range.1 h1;omega)).1
set_option maxRecDepth 100000 in
theorem co25:Tryz.prog.cellsOf 25=3:=by kernel_rfl
theorem coFLS:Tryz.prog.cellsOf 22=1:=by kernel_rfl
theorem coINTS:Tryz.prog.cellsOf 23=1:=by kernel_rfl
set_option maxRecDepth 100000 in
theorem zXv {H:Type} {enc:TypeId×Value->H} {W:World} {base:Nat} {v:Value} {d:DataW H} {p:List MemPlace} (hok:Value.okWide Tryz.prog W .any base 25 v)
  (h:DataW.Trod enc Tryz.prog W 0 (fun _=>true) true 25 v d p) (hlt:∀y∈p,y.block<W.heap.size) :
  ∃x:CZ,v=.agg x.cells.toArray∧x.Rd W∧(∀f∈x.fz,f.wf)∧(x.fA=Option.none->x.fz=[]∧x.fc=0)∧(x.dA=Option.none->x.dz=[]∧x.dc=0):=by
 obtain⟨cs,rfl,hsz⟩:=okWide_struct Tryz.underlying25 hok;obtain⟨fuel,hf⟩:=h;obtain⟨y0,y1,y2,n,hx,hcl,h0,h1,h2⟩:=Go.Deep.trod_struct3 Tryz.underlying25 hf;simp only[Prod.mk.injEq] at hx;obtain⟨rfl,rfl⟩:=hx
 have hcs:∃v0 v1 v2,cs=#[v0,v1,v2]:=by
  rw[co25] at hsz;obtain⟨l⟩:=cs
  match l,hsz with
  | [v0,v1,v2],_=>exact⟨v0,v1,v2,rfl⟩
 obtain⟨v0,v1,v2,rfl⟩:=hcs;simp[Value.cells,coFLS,zLg,coINTS] at h0 h1 h2;obtain⟨A,c,l,rfl,r1,r2,r3⟩:=zHj h0 fun y hy=>hlt y (by simp[hy]);obtain⟨D,dc,dz,rfl,r4,r5⟩:=zG6 h2 fun y hy=>hlt y (by simp[hy]);obtain⟨m,h1',_,_⟩:=DataW.trod_int zNw h1;obtain rfl:=List.singleton_inj.1 h1';exact⟨⟨A,c,l,m,D,dc,dz⟩,rfl,⟨r1,r4⟩,r2,r3,r5⟩
set_option maxRecDepth 100000 in
theorem zW5 {H:Type} {enc:TypeId×Value->H} {W:World} {base:Nat} {v:Value} {d:DataW H} {p:List MemPlace} (hok:Value.okWide Tryz.prog W .any base 23 v)
  (h:DataW.Trod enc Tryz.prog W 0 (fun _=>true) true 23 v d p) (hlt:∀y∈p,y.block<W.heap.size):∃(A:Option Addr) (c:Nat) (l:List Int),v=.slice A l.length c∧RdL icell 1 W A l∧(A=Option.none->l=[]∧c=0):=by
 obtain⟨a0,len,cap,rfl⟩:=okWide_slice zVc hok;obtain⟨fuel,hf⟩:=h;exact zG6 (x:=(d,p)) hf hlt
set_option maxRecDepth 100000 in
theorem zXj {H:Type} {enc:TypeId×Value->H} {W:World} {base:Nat} {v:Value} {d:DataW H} {p:List MemPlace} (hok:Value.okWide Tryz.prog W .any base 22 v)
  (h:DataW.Trod enc Tryz.prog W 0 (fun _=>true) true 22 v d p) (hlt:∀y∈p,y.block<W.heap.size):∃(A:Option Addr) (c:Nat) (l:List FltZ),v=.slice A l.length c∧RdL FltZ.cells 4 W A l∧(∀y∈l,y.wf)∧(A=Option.none->l=[]∧c=0):=by
 obtain⟨a0,len,cap,rfl⟩:=okWide_slice U22 hok;obtain⟨fuel,hf⟩:=h;exact zHj (x:=(d,p)) hf hlt
set_option maxRecDepth 100000 in
theorem zWl:Tryz.prog.readableRec 25=true∧25<Tryz.prog.types.size:=⟨by kernel_rfl,of_decide_eq_true (by kernel_rfl)⟩
set_option maxRecDepth 100000 in
theorem zYf:Tryz.prog.readableRec 27=true∧27<Tryz.prog.types.size:=⟨by kernel_rfl,of_decide_eq_true (by kernel_rfl)⟩
set_option maxRecDepth 100000 in
theorem zY0:Tryz.prog.readableRec 22=true∧22<Tryz.prog.types.size:=⟨by kernel_rfl,of_decide_eq_true (by kernel_rfl)⟩
set_option maxRecDepth 100000 in
theorem jBk:Tryz.prog.readableRec 3=true∧3<Tryz.prog.types.size:=⟨by kernel_rfl,of_decide_eq_true (by kernel_rfl)⟩
theorem zUn:Tryz.prog.readableRec 23=true∧23<Tryz.prog.types.size:=⟨jAn,jEc⟩
end Go.Proofs.YteppiphdbondeaaGreat.N
namespace Go.Proofs.YteppiphdbondeaaGreat.N
set_option linter.unusedSectionVars false
open Go.RowKit
end Go.Proofs.YteppiphdbondeaaGreat.N
