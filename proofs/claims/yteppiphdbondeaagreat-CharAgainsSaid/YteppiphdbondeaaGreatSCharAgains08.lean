/- Parts of the walk of the law CharAgains: T22, T23, ChB, T24, ChC, T25, ChF, T26, ChH, T27, ChJ, T28, Sx7, ChA, ChG, T29, T30, ChU, ChY, ChD, ChAB. -/
import Derived.Test.YteppiphdbondeaaGreatSCharAgains07
import Derived.Test.YteppiphdbondeaaGreatProg
import Derived.Test.YteppiphdbondeaaGreatSCharAgains04
import Derived.Test.YteppiphdbondeaaGreatSCharAgains05
import Derived.DeepKeys3
namespace Go.Proofs.YteppiphdbondeaaGreat.N
set_option linter.unusedSectionVars false
open Go.RowKit
section
variable [I:Sys]
theorem F.agg90:aggB TP 90=true:=by unfold aggB;rw[Tryz.underlying90]
theorem zYv {z0 z1 z2 zw x0 x1 x2 xw b7:Nat} (hz0:z0<=4) (hz1:z1<=4) (hz2:z2<=4) (hzw:zw<8) (hx0:x0<=4) (hx1:x1<=4) (hx2:x2<=4) (hxw:xw<8) (w:World) (hb7:b7<w.heap.size) (hc7:∀(j:Nat) (v:Value),(V4 x0 x1 x2 xw)[j]?=some v->w.cell? ⟨b7,j,none⟩=some v):Calls TP 67 #[.agg (V4 z0 z1 z2 zw).toArray,pt b7] w fun e w'=>e=.returned (.bool (agnL (⟨[x0,x1,x2],xw⟩:Mor) (⟨[z0,z1,z2],zw⟩:Mor)))∧Grew w w' []:=by
 refine enter (N:=36) [(0,.agg (V4 z0 z1 z2 zw).toArray),(1,pt b7)] Tryz.func67 J Tryz.ntmps67 J J (csr (jT J J ?_));intro b2;refine lax J J (zG (csr (zI J J F.fi93_0 F.ti90 (zZ (o:=0) (l:=[.int .i64 (z0:Int),.int .i64 (z1:Int),.int .i64 (z2:Int)]) J J F.agg90 F.ti90 (zI J J F.fi93_0 F.ti90 (qV (l:=[.int .i64 (x0:Int),.int .i64 (x1:Int),.int .i64 (x2:Int)]) J J F.agg90 F.ti90 J (fun a w ha j u hu=>ha.old (hc7 (0+j) u (by rcases j with _|_|_|j<;>simp at hu ⊢ <;> exact hu)) hb7) (zSf J J J (zNi om om om om om om _ _) ?_)))))))
 refine lnx (zK J (fun hc0=>?_) (fun hc0=>?_))
 ·exact csr (zI J J F.fi93_1 F.ti91 (zS J J F.one91 (zI J J F.fi93_1 F.ti91 (jM (v:=.int .u8 (xw:Int)) J J F.one91 (fun a w ha=>ha.old (hc7 3 _ J) hb7) (zE (v:=.int .u8 ((zw &&& (7-xw):Nat):Int)) J J J (fun w=>zF8 w (andNot8 zw hzw xw hxw)) (zE J J J kD (lax J J (zV (zU (zX J (rsO J J) (fun a w ha=>⟨by rw[zW9 om om om],ha.grown nsl⟩)))))))))))
 ·refine zO (zD (zG (csr (zI J J F.fi93_0 F.ti90 (qV (l:=[.int .i64 (x0:Int),.int .i64 (x1:Int),.int .i64 (x2:Int)]) J J F.agg90 F.ti90 J (fun a w ha j u hu=>ha.old (hc7 (0+j) u (by rcases j with _|_|_|j<;>simp at hu ⊢ <;> exact hu)) hb7) (zA J J (lnx (zQ (qT (G:=Nat) (fun k=>k<=3∧∀j,j<k->[x0,x1,x2].getD j 0<=[z0,z1,z2].getD j 0) (fun k=>3-k) (fun k=>[(1,pt b7),(2,pt b2),(18,.agg #[.int .i64 (x0:Int),.int .i64 (x1:Int),.int .i64 (x2:Int)]),(19,.int .i64 (k:Int))]) (fun k=>[.blk b2 (.cells (V4 z0 z1 z2 zw).toArray 93 (0,0))]) 0 ⟨Nat.zero_le _,fun j hj=>absurd hj (Nat.not_lt_zero _)⟩ sbn sbl ?_)))))))));intro k hk;(try dsimp only at hk ⊢);refine csr (zE J J J jY ?_)
  refine lnx (zG (zK J (fun hc1=>?_) (fun hc1=>?_)))
  ·refine zO (zD (zG (zQ (csr (zA J J (zOw (v:=.int .i64 (([x0,x1,x2].getD k 0:Nat):Int)) J J J Tryz.underlying90 F.one3 F.ti3 J om (zUc x0 x1 x2 k om) (zF J J (lax J J (csr (zA J J (zI J J F.fi93_0 F.ti90 (zC4 (j:=k) J J J Tryz.underlying90 F.ti3 J om (jM (v:=.int .i64 (([z0,z1,z2].getD k 0:Nat):Int)) J J F.one3 (fun a w ha=>qY (ha.mem_blk (InB.mem (b:=b2) (o:=.cells (V4 z0 z1 z2 zw).toArray 93 (0,0)))) (by rw[Nat.zero_add,Nat.mul_one];exact zG9 z0 z1 z2 _ k om)) (zA J J (zE J J J jY ?_)))))))))))))))
   refine lnx (zK J (fun hc2=>?_) (fun hc2=>?_))
   ·exact csr (lax J J (zV (jW (zU (zU (jW (zU (zX J (rsO J J) (fun a w ha=>⟨by rw[jD5 (k:=k) om om],ha.grown nsl⟩)))))))))
   ·refine zO (zJ (zD (zL (zE J J J bdO (zA J J (zB (kV (k+1) ⟨by omega,fun j hj=>?_⟩ tdo sbn sbl)))))))
    rcases Nat.lt_or_ge j k with h|h
    ·exact hk.2 j h
    ·obtain rfl:j=k:=om;omega
  ·exact jV (zN (zN (zY (zD (csr (zI J J F.fi93_1 F.ti91 (zS J J F.one91 (zI J J F.fi93_1 F.ti91 (jM (v:=.int .u8 (xw:Int)) J J F.one91 (fun a w ha=>ha.old (hc7 3 _ J) hb7) (zE (v:=.int .u8 ((zw &&& (7-xw):Nat):Int)) J J J (fun w=>zF8 w (andNot8 zw hzw xw hxw)) (zE J J J kD (lax J J (zV (zX J (rsO J J) (fun a w ha=>⟨by rw[zW9 (by have:=hk.2 0 om;simpa using this) (by have:=hk.2 1 om;simpa using this) (by have:=hk.2 2 om;simpa using this)],ha.grown nsl⟩)))))))))))))))

variable {b7 dc fc kiln:Nat} {dA fA:Option Addr} {days:List Nat} {fs:List Flt}
theorem zV4 (h:ChV fs kiln days):(agnS fA dA fc dc kiln fs days b7).Ok:=⟨h.f3,h.ff,Nat.le_succ_of_le h.d4,h.dd,jD Tryz.func92 rfl (by kernel_rfl),jD Tryz.func67 rfl (by kernel_rfl)⟩
theorem zMp {x0 x1 x2 xw:Nat} {w:World} (hx:start fs=⟨[x0,x1,x2],xw⟩) (hx0:x0<=4) (hx1:x1<=4) (hx2:x2<=4) (hxw:xw<8) (hF:RdL Flt.cells 4 w fA fs) (hD:RdL ncell 1 w dA days) :
  Stays w.heap.size w [.blk b7 (.cells (V4 x0 x1 x2 xw).toArray 93 (0,0))] (agnS fA dA fc dc kiln fs days b7).Env:=fun _ _ _ _ _ w' hr ha=>⟨hF.later ha.below,hD.later ha.below,fun A c d acts _ _ _=>zWh _ A _ c w',fun m hm=>by
  obtain⟨a,b,c,x,rfl,h1,h2,h3,h4⟩:=hm.form;have hb:=ha.mem_blk (hr (.blk b7 (.cells (V4 x0 x1 x2 xw).toArray 93 (0,0))) (by simp));have h9:=zYv h1 h2 h3 h4 hx0 hx1 hx2 hxw w' (b7:=b7) (Array.getElem?_eq_some_iff.1 hb).1 (fun j v hv=>qY hb (by simpa using hv));rw[<-hx] at h9
  exact h9⟩

set_option maxRecDepth 4000 in
theorem zR4 (hc:ChV fs kiln days) (w:World) (hF:RdL Flt.cells 4 w fA fs) (hD:RdL ncell 1 w dA days):Calls TP 24 #[(CG fA fs.length fc kiln dA days.length dc)] w fun e w'=>∃oA oc mr,(((bstG fs kiln days).is=true∧mr.reverse.map (·.2.2)=planG fs kiln days∧e=.returned (.tuple #[.slice oA mr.length oc,.int .i64 (((bstG fs kiln days).f:Nat):Int),.int .i64 0]))∨((bstG fs kiln days).is=false∧mr=[]∧e=.returned (.tuple #[.slice none 0 0,.int .i64 0,.int .i64 11])))∧Grew w w' (.row 23 1 oA mr.length oc (mr.reverse.map mcell)::mr.map mrow):=by
 have hm0:MOk (start fs):=wC hc.f3 hc.ff _ (Nat.le_refl _);obtain⟨x0,x1,x2,xw,hx,hx0,hx1,hx2,hxw⟩:=hm0.form;refine enter (N:=38) [(0,(CG fA fs.length fc kiln dA days.length dc))] Tryz.func24 J Tryz.ntmps24 J J (csr (jT J J ?_));intro b1;refine zF J J (zF J J (lax J J (zG (csr (zZ J J F.agg25 F.ti25 ?_)))))
 refine jE (v:=.int .i64 0) (vs:=[_]) J J F.ent33 (fun a w ha=>by
  have h:=zAk (fA:=fA) (dA:=dA) (fc:=fc) (dc:=dc) (fs:=fs.map Flt.toZ) (kiln:=(kiln:Int)) (days:=toZs days) (by have:=hc.f3;simp;omega) (by have:=hc.d4;simp[toZs];omega) w (RdL.mapped Flt.toZ (hF.later ha.below) (fun _=>rfl)) (RdL.mapped (fun (n:Nat)=>(n:Int)) (hD.later ha.below) (fun _=>rfl));rw[chk0 hc] at h
  simpa[toZs] using h) ?_
 refine lax J J (csr (zA J J (zE J J J kT ?_)))
 refine lnx (zK J (fun hc0=>?_) (fun hc0=>?_))
 ·exact absurd J hc0
  done
 ·refine zO (zD (csr (zZ J J F.agg25 F.ti25 (kM (vs:=[(0,_)]) (l':=[_,_,_]) J J F.ti78 F.pl78 (.cons J J (.nil _)) J (kJ (X:=Nat×Nat) (vs:=[_]) (p:=fun _=>True) (val:=fun g=>.pointer (some ⟨g.1,0,none⟩)) (rs:=fun g=>[.blk g.1 (.cells #[.slice fA fs.length fc,.int .i64 (kiln:Int),.slice dA days.length dc,.func (.func 92) #[] #[],.func (.func 93) #[] #[],.map (some g.2)] 99 (0,0)),.blk g.2 (KS.obj [])]) J J F.ent56 (fun a w ha=>(zHy fA dA fc days.length dc kiln fs w).mono (fun e w' h=>by obtain⟨b,km,h1,h2⟩:=h;exact⟨(b,km),trivial,h1,h2⟩)) ?_)))));rintro⟨sb,km⟩ -;dsimp only[List.cons_append,List.nil_append];refine lax J J (csr (zA J J (xO J J (zAe J J F.fi99_0 F.ti78 (zZ (o:=0) (l:=(CA fA fs.length fc kiln dA days.length dc)) J J F.agg78 F.ti78 (jE (v:=.agg (V4 x0 x1 x2 xw).toArray) (vs:=[_]) J J F.ent66 (fun a w ha=>(zFf fA dA fc days.length dc kiln fs hc.f3 hc.ff w (hF.later ha.below)).mono (fun e w' h=>⟨h.1.trans (by rw[hx];rfl),h.2⟩)) (zW J F.ti93 ?_)))))));intro b7;refine zH J J F.ti93 J (lnx (csr (zA J J (wG (fs:=[]) (cs:=[_]) J J J (xO J J (zAe J J F.fi99_2 F.ti96 (zH J J F.ti96 J (lnx (zG ?_)))))))))
  rcases his:(bstG fs kiln days).is with _|_
  ·refine zL (zA J J (xT (X:=Option Addr×Nat×List Meta×List (Spot×Value)) (first:=[]) (cap:=[]) (vs:=[_]) (p:=fun g=>g.2.2.1=[]) (val:=fun g=>.tuple #[.slice none 0 0,.int .i64 0,.bool false]) (rs:=fun g=>.row 23 1 g.1 g.2.2.1.length g.2.1 (g.2.2.1.reverse.map mcell)::.blk km (KS.obj g.2.2.2)::.blk sb (.cells #[.slice fA fs.length fc,.int .i64 (kiln:Int),.slice dA days.length dc,.func (.func 92) #[] #[],.func (.func 67) #[] #[pt b7],.map (some km)] 99 (0,0))::(g.2.2.1.map mrow++[.blk b7 (.cells (V4 x0 x1 x2 xw).toArray 93 (0,0)),.blk b1 (CO fA fs.length fc kiln dA days.length dc 25)])) J J J F.ent57 (fun a w ha=>?_) ?_))
   ·refine (zE8 (s:=(agnS fA dA fc dc kiln fs days b7)) (zV4 hc) (T:=[.blk b7 (.cells (V4 x0 x1 x2 xw).toArray 93 (0,0)),.blk b1 (CO fA fs.length fc kiln dA days.length dc 25)]) (km:=km) (sb:=sb) (KnOk.nil _) ((zMp hx hx0 hx1 hx2 hxw hF hD).more (fun r hr=>by simp at hr;simp[hr])) (ha.pck pkk)).mono ?_;rintro e w' ⟨kn',oA,oc,mr,hcase,hk,hA⟩
    rcases hcase with ⟨h1,h2,h3⟩|⟨h1,h2,h3⟩
    ·exact absurd (his.symm.trans h1) (by simp)
    ·exact⟨(oA,oc,mr,kn'),h2,h3,hA⟩
   rintro⟨oA,oc,mr,kn'⟩ hp;dsimp only at hp ⊢;exact zA J J (jF J J J (jF J J J (jF J J J (zF J J (zF J J (lax J J (zG (csr (zA J J (qC J J (lnx (qE J (csr (zF J J (zF J J (lax J J (zV (zU (zX J (fun a w ha=>xB J J J J ha) (fun a w ha=>⟨oA,oc,mr,.inr ⟨rfl,hp,rfl⟩,ha.grown (.cons_cons _ (.cons _ (.cons _ (List.sublist_append_left ..))))⟩))))))))))))))))))))
  ·refine zL (zA J J (xT (X:=Option Addr×Nat×List Meta×List (Spot×Value)) (first:=[]) (cap:=[]) (vs:=[_]) (p:=fun g=>g.2.2.1.reverse.map (·.2.2)=planG fs kiln days) (val:=fun g=>.tuple #[.slice g.1 g.2.2.1.length g.2.1,.int .i64 (((bstG fs kiln days).f:Nat):Int),.bool true]) (rs:=fun g=>.row 23 1 g.1 g.2.2.1.length g.2.1 (g.2.2.1.reverse.map mcell)::.blk km (KS.obj g.2.2.2)::.blk sb (.cells #[.slice fA fs.length fc,.int .i64 (kiln:Int),.slice dA days.length dc,.func (.func 92) #[] #[],.func (.func 67) #[] #[pt b7],.map (some km)] 99 (0,0))::(g.2.2.1.map mrow++[.blk b7 (.cells (V4 x0 x1 x2 xw).toArray 93 (0,0)),.blk b1 (CO fA fs.length fc kiln dA days.length dc 25)])) J J J F.ent57 (fun a w ha=>?_) ?_))
   ·refine (zE8 (s:=(agnS fA dA fc dc kiln fs days b7)) (zV4 hc) (T:=[.blk b7 (.cells (V4 x0 x1 x2 xw).toArray 93 (0,0)),.blk b1 (CO fA fs.length fc kiln dA days.length dc 25)]) (km:=km) (sb:=sb) (KnOk.nil _) ((zMp hx hx0 hx1 hx2 hxw hF hD).more (fun r hr=>by simp at hr;simp[hr])) (ha.pck pkk)).mono ?_;rintro e w' ⟨kn',oA,oc,mr,hcase,hk,hA⟩
    rcases hcase with ⟨h1,h2,h3⟩|⟨h1,h2,h3⟩
    ·exact⟨(oA,oc,mr,kn'),h2.trans (zP0 _ _),h3,hA⟩
    ·exact absurd (his.symm.trans h1) (by simp)
   rintro⟨oA,oc,mr,kn'⟩ hp;dsimp only at hp ⊢;exact zA J J (jF J J J (jF J J J (jF J J J (zF J J (zF J J (lax J J (zG (csr (zA J J (qC J J (lnx (kL J (zO (zD (csr (zA J J (zA J J (zF J J (zF J J (lax J J (zV (zX J (fun a w ha=>xB J J J J ha) (fun a w ha=>⟨oA,oc,mr,.inl ⟨rfl,hp,rfl⟩,ha.grown (.cons_cons _ (.cons _ (.cons _ (List.sublist_append_left ..))))⟩)))))))))))))))))))))))

end
section
variable {B kiln n:Nat} {T:List Res} {days:List Nat} {fA:Option Addr} {fs:List Flt} {w0:World}
def buyN (fs:List Flt) (kiln:Nat) (days:List Nat) (os:List Flt):Nat->Option (Nat×Nat)
 | 0=>none
 | k+1=>if (bstA (fs++[os.getD k default]) kiln days).is=true∧(∀p,buyN fs kiln days os k=some p->(bstA (fs++[os.getD k default]) kiln days).f<p.2) then some (k,(bstA (fs++[os.getD k default]) kiln days).f) else buyN fs kiln days os k
def buyI:Option (Nat×Nat)->Int
 | none=>-1
 | some p=>p.1
def buyF:Option (Nat×Nat)->Nat
 | none=>0
 | some p=>p.2
theorem zRy {os:List Flt}:∀k p,buyN fs kiln days os k=some p->p.1<k
 | 0,p,h=>by cases h
 | k+1,p,h=>by
  unfold buyN at h
  split at h
  ·cases h;exact Nat.lt_succ_self _
  ·have:=zRy k p h;omega
section
variable [I:Sys]
theorem zKm {dA:Option Addr} {fc dc:Nat} (hF:Stays B w0 T fun w=>RdL Flt.cells 4 w fA fs) (hD:Stays B w0 T fun w=>RdL ncell 1 w dA days):Stays B w0 T (anyS fA dA fc dc kiln fs days).Env :=
 fun N ds fr hp a w hr ha=>zRs (hF N ds fr hp a w hr ha) (hD N ds fr hp a w hr ha)
theorem zJu {l:List Nat} (hF:RdL ncell 1 w0 fA l):Stays w0.heap.size w0 T fun w=>RdL ncell 1 w fA l:=fun _ _ _ _ _ _ _ ha=>hF.later ha.below
theorem zM7 {c:Nat} (hm:Res.row 27 4 fA n c (fs.flatMap Flt.cells)∈T) (hn:fs.length=n):Stays B w0 T fun w=>RdL Flt.cells 4 w fA fs:=fun _ _ _ _ _ _ hr ha=>kX ha (cells:=Flt.cells) (e:=27) (c:=c) (n:=n) (l:=fs) (fun _=>rfl) (hr _ hm) hn.symm
end
theorem ChV.more {f:Flt} (h:ChV fs kiln days) (h2:fs.length<=2) (hf:FltOk f):ChV (fs++[f]) kiln days :=
 ⟨by simp,by simp;omega,fun g hg=>by
  rcases List.mem_append.1 hg with hg|hg
  ·exact h.ff g hg
  ·simp at hg;subst hg;exact hf,h.k3,h.d1,h.d4,h.dd⟩
theorem jDw {p g:Nat} {wd:Bool} (h:FltOk ⟨p,g,n,wd⟩):chkF ⟨(p:Int),(g:Int),(n:Int),wd⟩=0:=by
 obtain⟨a1,a2,a3,a4⟩:=h;dsimp only at a1 a2 a3 a4;unfold chkF btw;rw[if_pos];simp;omega
theorem zM9 {x y z t1 t2 t3:Res} {M:List Res}:(x::y::z::(M++[t1,t2,t3])).Perm (t1::t2::t3::(x::y::z::M)):=List.perm_append_comm (l₁:=x::y::z::M) (l₂:=[t1,t2,t3])
theorem zK3 (fs:List Flt):(fs.flatMap Flt.cells).length=fs.length*4:=by
 induction fs with
 | nil=>rfl
 | cons f fs ih=>rw[List.flatMap_cons,List.length_append,ih];simp[Flt.cells];omega
theorem jBf [I:Sys] {w:World} {p:Addr} (h:RdL Flt.cells 4 w (some p) fs):∀j u,(fs.flatMap Flt.cells)[j]?=some u->w.cell? (p.add j)=some u:=fun j u hu=>by
 have hj:j<fs.length*4:=by rw[<-zK3];exact (List.getElem?_eq_some_iff.1 hu).1
 obtain⟨b,o,h1,_,h3⟩:=h om
 cases h1
 rw[xW]
 have key:∀(fs:List Flt) (j:Nat) (u:Value),(fs.flatMap Flt.cells)[j]?=some u->∃f,fs[j / 4]?=some f∧(Flt.cells f)[j%4]?=some u:=by
  intro fs
  induction fs with
  | nil=>intro j u h;simp at h
  | cons f fs ih =>
   intro j u h;rw[List.flatMap_cons,List.getElem?_append] at h
   split at h
   ·rename_i hl;have hl4:j<4:=hl;exact⟨f,by rw[Nat.div_eq_of_lt hl4];rfl,by rw[Nat.mod_eq_of_lt hl4];exact h⟩
   ·rename_i hl;have hl4:4<=j:=by simpa[Flt.cells] using hl
    obtain⟨g,h1,h2⟩:=ih (j-4) u (by simpa[Flt.cells] using h);refine⟨g,?_,by rw[show j%4=(j-4)%4 from by omega];exact h2⟩;rw[show j / 4=(j-4) / 4+1 from by omega];simpa using h1
 obtain⟨f,hf,hc⟩:=key fs j u hu;have:=h3 (j / 4) f hf (j%4) u hc;rw[show o+j=o+j / 4*4+j%4 from by omega];exact this
end
section
variable [I:Sys]
set_option maxRecDepth 4000 in
theorem jFh {fA dA oA:Option Addr} {fc dc oc kiln:Nat} {fs os:List Flt} {days:List Nat} (hc:ChV fs kiln days) (hn2:fs.length<=2) (ho:∀f∈os,FltOk f) (ho3:os.length<=3) (hcap:fs.length<=fc) (w:World) (hF:RdL Flt.cells 4 w fA fs) (hD:RdL ncell 1 w dA days) (hO:RdL Flt.cells 4 w oA os):Calls TP 22 #[(CG fA fs.length fc kiln dA days.length dc),.slice oA os.length oc] w fun e w'=>e=.returned (match buyN fs kiln days os os.length with|none=>.tuple #[.int .i64 0,.int .i64 0,.int .i64 11]|some q=>.tuple #[.int .i64 (q.1:Int),.int .i64 (q.2:Int),.int .i64 0])∧Grew w w' []:=by
 refine enter (N:=89) [(0,(CG fA fs.length fc kiln dA days.length dc)),(1,.slice oA os.length oc)] Tryz.func22 J Tryz.ntmps22 J J (csr (jT J J ?_));intro b2;refine zF J J (zF J J (lax J J (zG (csr (zZ J J F.agg25 F.ti25 ?_)))))
 refine jE (v:=.int .i64 0) (vs:=[_]) J J F.ent33 (fun a w ha=>by
  have h:=zAk (fA:=fA) (dA:=dA) (fc:=fc) (dc:=dc) (fs:=fs.map Flt.toZ) (kiln:=(kiln:Int)) (days:=toZs days) (by have:=hc.f3;simp;omega) (by have:=hc.d4;simp[toZs];omega) w (RdL.mapped Flt.toZ (hF.later ha.below) (fun _=>rfl)) (RdL.mapped (fun (n:Nat)=>(n:Int)) (hD.later ha.below) (fun _=>rfl));rw[chk0 hc] at h
  simpa[toZs] using h) ?_
 refine lax J J (csr (zA J J (zE J J J kT ?_)))
 refine lnx (zK J (fun hc0=>?_) (fun hc0=>?_))
 ·exact absurd J hc0
  done
 ·refine zO (zD (zG (zQ (csr (zI J J F.fi25_0 F.ti22 (zS J J F.one22 (jR J J U22 (zE J J J kD ?_))))))))
  refine lax J J (zK J (fun hc1=>?_) (fun hc1=>?_))
  ·exact absurd hc1 om
   done
  ·refine csr (zA J J (jR J J U22 (zE J J J wM ?_)))
   refine lax J J (zK J (fun hc2=>?_) (fun hc2=>?_))
   ·exact absurd hc2 om
    done
   ·refine zO (zJ (zD (zG (csr (zA J J (jR J J U22 (zA J J (lnx (zQ (qT (G:=Nat) (fun k=>k<=os.length) (fun k=>os.length-k) (fun k=>[(1,.slice oA os.length oc),(2,pt b2),(33,.slice oA os.length oc),(34,.int .i64 (os.length:Int)),(35,.int .i64 (k:Int))]) (fun k=>[.blk b2 (CO fA fs.length fc kiln dA days.length dc 25)]) 0 (Nat.zero_le _) sbn sbl ?_))))))))));intro k hk;(try dsimp only at hk ⊢);refine csr (zE J J J jY ?_)
    refine lnx (zG (zK J (fun hc3=>?_) (fun hc3=>?_)))
    ·have hk':k<os.length:=om;obtain⟨bf,bo,hoA,hbf,hcf⟩:=hO om;obtain⟨f,hx⟩:∃x,os[k]?=some x:=⟨_,List.getElem?_eq_getElem hk'⟩;have hfok:=ho f (List.mem_of_getElem? hx);obtain⟨pw,gn,nw,wd⟩:=f;refine zO (zD (zG (zQ (csr (jO (j:=k) J (show _=some (Value.slice (some ⟨bf,bo,none⟩) os.length oc) from by rw[<-hoA];rfl) J Tryz.underlying22 F.ti27 J hk' (qV (l:=(CF pw gn nw wd)) J J F.agg27 F.ti27 J (fun a w ha j u hu=>ha.old (hcf k _ hx j u hu) hbf) (zW J F.ti27 ?_)))))));intro b9;refine zH J J F.ti27 J (lnx (csr (zZ J J F.agg27 F.ti27 (jE (v:=.int .i64 0) (vs:=[_]) J J F.ent62 (fun a w ha=>(zGm (pw:Int) (gn:Int) (nw:Int) wd w).mono (fun e w' h=>⟨h.1.trans (by rw[show chkF ⟨(pw:Int),(gn:Int),(nw:Int),wd⟩=0 from jDw hfok];rfl),h.2⟩)) (lax J J (csr (zA J J (zE J J J kT ?_))))))))
     refine lnx (zK J (fun hc4=>?_) (fun hc4=>?_))
     ·exact absurd J hc4
      done
     ·refine zO (zJ (zD (zL (zE J J J bdO (zA J J (zB (kV (k+1) om tdo sbn sbl)))))))
    ·refine jV (zN (zN (zY (zD (csr (zF J J (lax J J (csr (zI J J F.fi25_0 F.ti22 (zS J J F.one22 (lax J J (zG (csr (zA J J (jR J J U22 (zA J J (lnx (zQ (qU (G:=Nat×Option Addr×Nat×Nat) (fun g=>g.1<=os.length) (fun g=>os.length-g.1) (fun g=>[(2,pt b2),(11,.int .i64 (buyI (buyN fs kiln days os g.1))),(12,.int .i64 ((buyF (buyN fs kiln days os g.1):Nat):Int)),(13,.slice fA fs.length fc),(47,.slice oA os.length oc),(48,.int .i64 (os.length:Int)),(49,.int .i64 (g.1:Int))]) (fun g=>[.blk b2 (.cells #[.slice g.2.1 g.2.2.1 g.2.2.2,.int .i64 (kiln:Int),.slice dA days.length dc] 25 (0,0))]) (0,fA,fs.length,fc) (Nat.zero_le _) sbn pkk ?_)))))))))))))))))));rintro⟨k,X,xn,xc⟩ hkk;dsimp only at hkk ⊢;refine csr (zE J J J jY ?_)
     refine lnx (zG (zK J (fun hc5=>?_) (fun hc5=>?_)))
     ·have hk':k<os.length:=om;obtain⟨bf,bo,hoA,hbf,hcf⟩:=hO om;obtain⟨f,hx⟩:∃x,os[k]?=some x:=⟨_,List.getElem?_eq_getElem hk'⟩;have hfok:=ho f (List.mem_of_getElem? hx);obtain⟨pw,gn,nw,wd⟩:=f;have hgd:os.getD k default=(⟨pw,gn,nw,wd⟩:Flt):=by rw[List.getD_eq_getElem?_getD,hx];rfl
      have hsucc:buyN fs kiln days os (k+1)=if (bstA (fs++[(⟨pw,gn,nw,wd⟩:Flt)]) kiln days).is=true∧(∀p,buyN fs kiln days os k=some p->(bstA (fs++[(⟨pw,gn,nw,wd⟩:Flt)]) kiln days).f<p.2) then some (k,(bstA (fs++[(⟨pw,gn,nw,wd⟩:Flt)]) kiln days).f) else buyN fs kiln days os k:=by rw[<-hgd];rfl
      have hbf2:=(anyS none none 0 0 kiln (fs++[(⟨pw,gn,nw,wd⟩:Flt)]) days).bst_le (zG0 (hc.more hn2 hfok)) days.length (start (fs++[(⟨pw,gn,nw,wd⟩:Flt)]));refine zO (zD (zG (zQ (csr (zA J J (jO (j:=k) J (show _=some (Value.slice (some ⟨bf,bo,none⟩) os.length oc) from by rw[<-hoA];rfl) J Tryz.underlying22 F.ti27 J hk' (qV (l:=(CF pw gn nw wd)) J J F.agg27 F.ti27 J (fun a w ha j u hu=>ha.old (hcf k _ hx j u hu) hbf) (zW J F.ti27 ?_))))))));intro b15;refine zF J J (zH J J F.ti27 J (lnx (zG (jS [.b b2] F.follows 11 J (fl 11) J (anm 0 J J J (anm 1 J J J (zC 2 J J J (vQ J U22) (anm 3 J J J (zC 4 J J J (vQ J U22) (zC 5 J J J (zHq (k:=fs.length) J J J U22 F.ti27 hcap) (zC 6 J J J (kR J F.agg27 F.ti27) (an1 7 J (yV (vs:=[(0,.agg ((CF pw gn nw wd):List Value).toArray)]) (CF pw gn nw wd) J J U22 F.ti27 J J J (Lit.agg (l1:=(CF pw gn nw wd)) (l:=[]) J J) ?_)))))))))))));intro b61;refine zB (anb (an1 8 J ?_))
      refine zEa (olds:=fs.flatMap Flt.cells) (news:=(CF pw gn nw wd)) J J J Tryz.underlying22 F.ti27 J J J Nat.one_pos (fun h=>by obtain⟨b',o',e,_⟩:=hF hc.f1;rw[e] at h;cases h) (zK3 fs) (fun a w ha p' hp' j u hu=>?_) (by unfold maxLen;omega) om ?_
      ·subst hp';exact jBf (hF.later ha.below) j u hu
      intro A1 c1;refine zB (anb (zC 9 J J J (zP J F.fi25_0 F.ti22) (an1 10 J (zH J J F.ti22 J (zB (anb (adn (zD (zG ?_)))))))))
      rcases his:(bstA (fs++[(⟨pw,gn,nw,wd⟩:Flt)]) kiln days).is with _|_
      ·refine zL (zZ J J F.agg25 F.ti25 (kM (vs:=[(0,_)]) (l':=[_,_,_]) J J F.ti78 F.pl78 (.cons J J (.nil _)) J ?_))
       refine kJ (X:=Nat×Nat) (vs:=[_]) (p:=fun _=>True) (val:=fun g=>.pointer (some ⟨g.1,0,none⟩)) (rs:=fun g=>[.blk g.1 (.cells #[.slice A1 (fs.length+1) c1,.int .i64 (kiln:Int),.slice dA days.length dc,.func (.func 92) #[] #[],.func (.func 93) #[] #[],.map (some g.2)] 99 (0,0)),.blk g.2 (KS.obj [])]) J J F.ent56 (fun a w ha=>by
        have h9:=zHy A1 dA c1 days.length dc kiln (fs++[(⟨pw,gn,nw,wd⟩:Flt)]) w;rw[show (fs++[(⟨pw,gn,nw,wd⟩:Flt)]).length=fs.length+1 from by simp] at h9
        exact h9.mono (fun e w' h=>by obtain⟨b,km,h1,h2⟩:=h;exact⟨(b,km),trivial,h1,h2⟩)) ?_
       rintro⟨sb,km⟩ -;dsimp only[List.cons_append,List.nil_append];have hfl:(fs++[(⟨pw,gn,nw,wd⟩:Flt)]).length=fs.length+1:=by simp
       refine xT (X:=Option Addr×Nat×List Meta×List (Spot×Value)) (first:=[]) (cap:=[]) (vs:=[_]) (p:=fun _=>True) (val:=fun g=>.tuple #[.slice none 0 0,.int .i64 0,.bool false]) (rs:=fun g=>.row 27 4 A1 (fs.length+1) c1 (fs.flatMap Flt.cells++(CF pw gn nw wd))::.blk b15 (.cells (CF pw gn nw wd).toArray 27 (0,0))::.blk b2 (.cells #[.slice A1 (fs.length+1) c1,.int .i64 (kiln:Int),.slice dA days.length dc] 25 (0,0))::(.row 23 1 g.1 g.2.2.1.length g.2.1 (g.2.2.1.reverse.map mcell)::.blk km (KS.obj g.2.2.2)::.blk sb (.cells #[.slice A1 (fs.length+1) c1,.int .i64 (kiln:Int),.slice dA days.length dc,.func (.func 92) #[] #[],.func (.func 93) #[] #[],.map (some km)] 99 (0,0))::g.2.2.1.map mrow)) J J J F.ent57 (fun a w ha=>?_) ?_
       ·have h9:=zE8 (s:=(anyS A1 dA c1 dc kiln (fs++[(⟨pw,gn,nw,wd⟩:Flt)]) days)) (zG0 (hc.more hn2 hfok)) (T:=[.row 27 4 A1 (fs.length+1) c1 (fs.flatMap Flt.cells++(CF pw gn nw wd)),.blk b15 (.cells (CF pw gn nw wd).toArray 27 (0,0)),.blk b2 (.cells #[.slice A1 (fs.length+1) c1,.int .i64 (kiln:Int),.slice dA days.length dc] 25 (0,0))]) (km:=km) (sb:=sb) (KnOk.nil _) (zKm (zM7 (n:=fs.length+1) (c:=c1) (by rw[List.flatMap_append];exact List.mem_cons_self ..) hfl) (zJu hD)) (by unfold Srch.cells anyS;rw[hfl];exact ha.pck pkk);refine h9.mono ?_;rintro e w' ⟨kn',oA',oc',mr,hcase,hk,hA⟩;unfold Srch.cells anyS at hA;rw[hfl] at hA;have hB:=hA.permed zM9
        rcases hcase with ⟨h1,h2,h3⟩|⟨h1,h2,h3⟩
        ·exact absurd (his.symm.trans h1) (by simp)
        ·exact⟨(oA',oc',mr,kn'),trivial,h3,hB⟩
       rintro⟨oA',oc',mr,kn'⟩ hp;dsimp only at hp ⊢;refine zA J J (jF J J J (jF J J J (jF J J J (zF J J (zF J J (lax J J (csr (zA J J (zA J J (zR J J J (zR J J J (zR J J J (kE J J J (kE J J J (kE J J J (zR J J J (jU J J J (lnx (kL J (zO (zJ (zD (zL (zE J J J bdO (zA J J (zB (kS (k+1,A1,fs.length+1,c1) tdo tdo (by (try dsimp only);rw[hsucc,if_neg (by rw[his];simp)];exact sbn) pkk)))))))))))))))))))))))))))
      ·refine zL (zZ J J F.agg25 F.ti25 (kM (vs:=[(0,_)]) (l':=[_,_,_]) J J F.ti78 F.pl78 (.cons J J (.nil _)) J ?_))
       refine kJ (X:=Nat×Nat) (vs:=[_]) (p:=fun _=>True) (val:=fun g=>.pointer (some ⟨g.1,0,none⟩)) (rs:=fun g=>[.blk g.1 (.cells #[.slice A1 (fs.length+1) c1,.int .i64 (kiln:Int),.slice dA days.length dc,.func (.func 92) #[] #[],.func (.func 93) #[] #[],.map (some g.2)] 99 (0,0)),.blk g.2 (KS.obj [])]) J J F.ent56 (fun a w ha=>by
        have h9:=zHy A1 dA c1 days.length dc kiln (fs++[(⟨pw,gn,nw,wd⟩:Flt)]) w;rw[show (fs++[(⟨pw,gn,nw,wd⟩:Flt)]).length=fs.length+1 from by simp] at h9
        exact h9.mono (fun e w' h=>by obtain⟨b,km,h1,h2⟩:=h;exact⟨(b,km),trivial,h1,h2⟩)) ?_
       rintro⟨sb,km⟩ -;dsimp only[List.cons_append,List.nil_append];have hfl:(fs++[(⟨pw,gn,nw,wd⟩:Flt)]).length=fs.length+1:=by simp
       refine xT (X:=Option Addr×Nat×List Meta×List (Spot×Value)) (first:=[]) (cap:=[]) (vs:=[_]) (p:=fun _=>True) (val:=fun g=>.tuple #[.slice g.1 g.2.2.1.length g.2.1,.int .i64 (((bstA (fs++[(⟨pw,gn,nw,wd⟩:Flt)]) kiln days).f:Nat):Int),.bool true]) (rs:=fun g=>.row 27 4 A1 (fs.length+1) c1 (fs.flatMap Flt.cells++(CF pw gn nw wd))::.blk b15 (.cells (CF pw gn nw wd).toArray 27 (0,0))::.blk b2 (.cells #[.slice A1 (fs.length+1) c1,.int .i64 (kiln:Int),.slice dA days.length dc] 25 (0,0))::(.row 23 1 g.1 g.2.2.1.length g.2.1 (g.2.2.1.reverse.map mcell)::.blk km (KS.obj g.2.2.2)::.blk sb (.cells #[.slice A1 (fs.length+1) c1,.int .i64 (kiln:Int),.slice dA days.length dc,.func (.func 92) #[] #[],.func (.func 93) #[] #[],.map (some km)] 99 (0,0))::g.2.2.1.map mrow)) J J J F.ent57 (fun a w ha=>?_) ?_
       ·have h9:=zE8 (s:=(anyS A1 dA c1 dc kiln (fs++[(⟨pw,gn,nw,wd⟩:Flt)]) days)) (zG0 (hc.more hn2 hfok)) (T:=[.row 27 4 A1 (fs.length+1) c1 (fs.flatMap Flt.cells++(CF pw gn nw wd)),.blk b15 (.cells (CF pw gn nw wd).toArray 27 (0,0)),.blk b2 (.cells #[.slice A1 (fs.length+1) c1,.int .i64 (kiln:Int),.slice dA days.length dc] 25 (0,0))]) (km:=km) (sb:=sb) (KnOk.nil _) (zKm (zM7 (n:=fs.length+1) (c:=c1) (by rw[List.flatMap_append];exact List.mem_cons_self ..) hfl) (zJu hD)) (by unfold Srch.cells anyS;rw[hfl];exact ha.pck pkk);refine h9.mono ?_;rintro e w' ⟨kn',oA',oc',mr,hcase,hk,hA⟩;unfold Srch.cells anyS at hA;rw[hfl] at hA;have hB:=hA.permed zM9
        rcases hcase with ⟨h1,h2,h3⟩|⟨h1,h2,h3⟩
        ·exact⟨(oA',oc',mr,kn'),trivial,h3,hB⟩
        ·exact absurd (his.symm.trans h1) (by simp)
       rintro⟨oA',oc',mr,kn'⟩ hp;dsimp only at hp ⊢;refine zA J J (jF J J J (jF J J J (jF J J J (zF J J (zF J J (lax J J (zG ?_)))))));have hif:=hsucc;have hle2:=zRy (fs:=fs) (kiln:=kiln) (days:=days) (os:=os) k
       rcases hbn:buyN fs kiln days os k with _|⟨bi,bfr⟩
       ·refine zL (zA J J (zA J J (zM J J (zA J J (zM J J (zE J J J jY (zM J J (zA J J (zR J J J (zR J J J (zR J J J (zM J J (jH J J J (jH J J J (lnx (qE J (zL (zA J J (zA J J (zF J J (zF J J (zB (zJ (zD (zL (zE J J J bdO (zA J J (zB (kS (k+1,A1,fs.length+1,c1) tdo tdo (by (try dsimp only);rw[hsucc,if_pos ⟨his,fun p hp=>by rw[hbn] at hp;cases hp⟩];exact sbn) pkk)))))))))))))))))))))))))))))
       ·refine zL (zA J J (zA J J (zM J J (zA J J (zM J J (zE (v:=.bool false) J J J (fun w=>by rw[jY];rw[show decide (buyI (some (bi,bfr))<0)=false from decide_eq_false (by dsimp only[buyI];omega)]) (zM J J (zA J J (zM J J (zA J J (zM J J (zA J J (zM J J (zE J J J jY ?_))))))))))))))
        refine zM J J (jU J J J (jH J J J (lnx (zK J (fun hc6=>?_) (fun hc6=>?_)))))
        ·dsimp only[buyF] at hc6;refine zL (zA J J (zA J J (zF J J (zF J J (zB (zJ (zD (zL (zE J J J bdO (zA J J (zB (kS (k+1,A1,fs.length+1,c1) tdo tdo (by (try dsimp only);rw[hsucc,if_pos ⟨his,fun p hp=>by rw[hbn] at hp;cases hp;omega⟩];exact sbn) pkk))))))))))))
        ·dsimp only[buyF] at hc6;refine zO (zJ (zD (zL (zE J J J bdO (zA J J (zB (kS (k+1,A1,fs.length+1,c1) tdo tdo (by (try dsimp only);rw[hsucc,if_neg (by rintro⟨_,h⟩;have:=h _ hbn;omega),hbn];exact sbn) pkk)))))))
     ·obtain rfl:k=os.length:=om;refine jV (zN (zN (zY (zD (zG (zG ?_))))))
      rcases hbn:buyN fs kiln days os os.length with _|⟨bi,bfr⟩
      ·exact zL (zA J J (zE J J J jY (lnx (qE J (csr (zF J J (zF J J (lax J J (zV (zU (zX J (fun a w ha=>xB J J J J ha) (fun a w ha=>⟨by rfl,ha.grown nsl⟩))))))))))))
      ·exact zL (zA J J (zE (v:=.bool false) J J J (fun w=>by rw[jY];rw[show decide (buyI (some (bi,bfr))<0)=false from decide_eq_false (by dsimp only[buyI];omega)]) (lnx (kL J (zO (zD (csr (zA J J (zA J J (zF J J (zF J J (lax J J (zV (zX J (fun a w ha=>xB J J J J ha) (fun a w ha=>⟨by rfl,ha.grown nsl⟩)))))))))))))))

end
section
variable {fs:List Flt} {k kiln:Nat}
def hfs:List Flt:=[⟨3,1,3,false⟩,⟨2,1,1,false⟩]
def hds:List Nat:=[3,2,3]
def tfs:List Flt:=[⟨2,1,1,false⟩,⟨2,1,1,false⟩]
def tds:List Nat:=[1,1]
def jbs:List (List Nat):=[[0,2],[3,0],[0,0]]
def ofs:List Flt:=[⟨2,0,2,false⟩]
theorem zMy:bstA hfs 1 hds=⟨1,1,true⟩:=by kernel_rfl
theorem jAk:planA hfs 1 hds=jbs:=by kernel_rfl
theorem zQe:bstG tfs 1 tds=⟨2,0,true⟩:=by kernel_rfl
theorem zYu:planG tfs 1 tds=[[0,3],[3,0]]:=by kernel_rfl
theorem jEo:buyN hfs 0 hds ofs 1=some (0,0):=by kernel_rfl
theorem jCq:verdO (bstF hfs 1 hds 0 1 true) (bstF hfs 1 hds 0 1 false)=(1,0):=by kernel_rfl
theorem jBw:workE hfs 1 hds (jbs.map fun l=>l.map fun (n:Nat)=>(n:Int))=(0,[[3,1],[0,2],[3,0],[0,0]],1):=by kernel_rfl
def stpL (fs:List Flt) (kiln:Nat) (l:List Mor) (d:Nat):List Mor:=l.flatMap fun m=>(exts [] fs.length).filterMap fun acts=>if (dayE fs kiln m acts d).1=0 then some (dayE fs kiln m acts d).2 else none
def rchM (fs:List Flt) (kiln:Nat) (days:List Nat):List Mor:=days.foldl (stpL fs kiln) [start fs]
theorem zO6 {d:Nat} {l:List Mor} {S:Mor->Prop} (h:∀m,m∈l↔S m):∀m,m∈stpL fs kiln l d↔stp fs kiln S d m:=fun x=>by
 unfold stpL stp;rw[List.mem_flatMap]
 constructor
 ·rintro⟨m,hm,h2⟩;obtain⟨acts,ha,h3⟩:=List.mem_filterMap.1 h2
  split at h3
  ·rename_i h0
   cases h3
   exact⟨m,(h m).1 hm,acts,ha,Prod.ext h0 J⟩
  ·cases h3
 ·rintro⟨m,hm,acts,ha,h2⟩;exact⟨m,(h m).2 hm,List.mem_filterMap.2 ⟨acts,ha,by rw[h2];rfl⟩⟩
theorem zP1:∀(days:List Nat) (l:List Mor) (S:Mor->Prop),(∀m,m∈l↔S m)->∀m,m∈days.foldl (stpL fs kiln) l↔days.foldl (stp fs kiln) S m
 | [],_,_,h=>h
 | _::days,_,_,h=>zP1 days _ _ (zO6 h)
theorem jGe {days:List Nat} {m:Mor}:m∈rchM fs kiln days↔Rch fs kiln days m:=zP1 days _ _ (fun m=>by simp) m
theorem jFg:(rchM hfs 0 [3]).isEmpty=false:=by kernel_rfl
theorem jFm:(rchM hfs 0 [3,2]).isEmpty=false:=by kernel_rfl
theorem jF9:(rchM hfs 0 [3,2,3]).isEmpty=true:=by kernel_rfl
theorem hv (hk:k<=3):ChV hfs k hds:=⟨by decide,by decide,by unfold FltOk;decide,hk,by decide,by decide,by decide⟩
theorem tv1:ChV tfs 1 tds:=⟨by decide,by decide,by unfold FltOk;decide,by decide,by decide,by decide,by decide⟩
theorem zRt {α:Type} [DecidableEq α] {l m:List α} (h1:k<=l.length) (h2:k<=m.length) (h3:l.take k=m.take k) (h4:¬(k<l.length∧k<m.length)):decide (l=m)=decide ((l.length:Int)=(m.length:Int)):=by
 rw[decide_eq_decide]
 constructor
 ·rintro rfl;rfl
 ·intro e;have e1:k=l.length:=om;have e2:k=m.length:=om;rw[e1,List.take_length,<-e1,e2,List.take_length] at h3;exact h3
end
section
variable [I:Sys]
variable {A B:Option Addr} {ca cb:Nat}
theorem F.ent45:Enters TP 45:=jD Tryz.func45 rfl kr
theorem F.pl25:Places TP 25 [(0,1),(1,1),(2,1)]:=.inl ⟨_,Tryz.underlying25,by kernel_rfl⟩
theorem F.pl27:Places TP 27 [(0,1),(1,1),(2,1),(3,1)]:=.inl ⟨_,Tryz.underlying27,by kernel_rfl⟩
theorem zO5 {l m:List Int} (hl:l.length<1000000) (hm:m.length<1000000) (w:World) (hA:RdL zcell 1 w A l) (hB:RdL zcell 1 w B m):Calls TP 45 #[.slice A l.length ca,.slice B m.length cb] w fun e w'=>e=.returned (.bool (decide (l=m)))∧Grew w w' []:=by
 refine enter (N:=32) [(0,.slice A l.length ca),(1,.slice B m.length cb)] Tryz.func45 J Tryz.ntmps45 J J (csr (lax J J (zG (csr (lax J J (zQ (qT (G:=Nat) (fun k=>k<=l.length∧k<=m.length∧l.take k=m.take k) (fun k=>l.length-k) (fun k=>[(0,.slice A l.length ca),(1,.slice B m.length cb),(5,.int .i64 (k:Int))]) (fun k=>[]) 0 ⟨Nat.zero_le _,Nat.zero_le _,rfl⟩ sbn sbl ?_)))))));intro k hk;(try dsimp only at hk ⊢)
 refine zG (csr (vU 10 15 (.bool (decide (k<l.length∧k<m.length))) ?_ ?_))
 ·refine zA J J (zA J J (jR J J U23 (zE J J J jY ?_)))
  refine zA J J (xU (t:=10) J (fun hg10=>?_) (fun hg10=>?_))
  ·exact zM J J (zA J J (zM J J (zA J J (zM J J (jR J J U23 (zM J J (zE J J J jY (jH J J J (zB (qN (.cons (by simp_all[look]<;>omega) sbn) sbl))))))))))
  ·exact zR J J J (zR J J J (zR J J J (zR J J J (jU J J J (zB (qN (.cons (by simp_all[look]<;>omega) sbn) sbl))))))
 refine lnx (zK J (fun hc0=>?_) (fun hc0=>?_))
 ·obtain⟨hk1,hk2,hk3⟩:=hk;obtain⟨ba,oa,hAe,hba,hca⟩:=hA om;obtain⟨bb,ob,hBe,hbb,hcb⟩:=hB om;obtain⟨x,hx⟩:∃x,l[k]?=some x:=⟨_,List.getElem?_eq_getElem hc0.1⟩;obtain⟨y,hy⟩:∃x,m[k]?=some x:=⟨_,List.getElem?_eq_getElem hc0.2⟩;refine zO (zD (zG (zQ (zG (jS [] F.follows 9 J (fl 9) J (anm 0 J J J (anm 1 J J J (zC 2 J J J (jG (j:=k) (show _=some (Value.slice (some ⟨ba,oa,none⟩) l.length ca) from by rw[<-hAe];rfl) J Tryz.underlying23 F.ti3 J hc0.1) (zC 3 J J J (jC (v:=.int .i64 x) J F.one3 (fun a w ha=>ha.old (hca k x hx 0 _ J) hba)) (anm 4 J J J (anm 5 J J J (zC 6 J J J (jG (j:=k) (show _=some (Value.slice (some ⟨bb,ob,none⟩) m.length cb) from by rw[<-hBe];rfl) J Tryz.underlying23 F.ti3 J hc0.2) (zC 7 J J J (jC (v:=.int .i64 y) J F.one3 (fun a w ha=>ha.old (hcb k y hy 0 _ J) hbb)) (zC 8 J J J (kW J J kT) ?_))))))))))))))
  refine adn (zD (zK J (fun hc1=>?_) (fun hc1=>?_)))
  ·exact csr (lax J J (zV (jW (zU (zU (jW (zU (zX J (rsO J J) (fun a w ha=>⟨by rw[decide_eq_false (fun e=>hc1 (by subst e;rw[hx] at hy;cases hy;rfl))],ha.grown nsl⟩)))))))))
  ·refine zO (zJ (zD (zL (zA J J (zE J J J bdO (zF J J (zB (kV (k+1) ⟨by omega,by omega,by rw[List.take_add_one,List.take_add_one,hx,hy,hk3];rw[show x=y from by simpa using hc1]⟩ tdo sbn sbl))))))))
 ·obtain⟨hk1,hk2,hk3⟩:=hk;exact jV (zN (zN (zY (zD (csr (zA J J (jR J J Tryz.underlying23 (zA J J (jR J J Tryz.underlying23 (zE J J J kD (lax J J (zV (zX J (rsO J J) (fun a w ha=>⟨by rw[zRt hk1 hk2 hk3 hc0],ha.grown nsl⟩))))))))))))))

theorem zEd {l m:List MetaZ} (hl:l.length<1000000) (hm:m.length<1000000) (hl2:∀x∈l,x.2.2.length<1000000) (hm2:∀x∈m,x.2.2.length<1000000) (w:World) (hA:RdZ w A l) (hB:RdZ w B m):Calls TP 17 #[.slice A l.length ca,.slice B m.length cb] w fun e w'=>e=.returned (.bool (decide (l.map (·.2.2)=m.map (·.2.2))))∧Grew w w' []:=by
 refine enter (N:=33) [(0,.slice A l.length ca),(1,.slice B m.length cb)] Tryz.func17 J Tryz.ntmps17 J J (csr (lax J J (zG (csr (lax J J (zQ (qT (G:=Nat) (fun k=>k<=l.length∧k<=m.length∧(l.map (·.2.2)).take k=(m.map (·.2.2)).take k) (fun k=>l.length-k) (fun k=>[(0,.slice A l.length ca),(1,.slice B m.length cb),(5,.int .i64 (k:Int))]) (fun k=>[]) 0 ⟨Nat.zero_le _,Nat.zero_le _,rfl⟩ sbn sbl ?_)))))));intro k hk;(try dsimp only at hk ⊢)
 refine zG (csr (vU 10 15 (.bool (decide (k<l.length∧k<m.length))) ?_ ?_))
 ·refine zA J J (zA J J (jR J J U35 (zE J J J jY ?_)))
  refine zA J J (xU (t:=10) J (fun hg10=>?_) (fun hg10=>?_))
  ·exact zM J J (zA J J (zM J J (zA J J (zM J J (jR J J U35 (zM J J (zE J J J jY (jH J J J (zB (qN (.cons (by simp_all[look]<;>omega) sbn) sbl))))))))))
  ·exact zR J J J (zR J J J (zR J J J (zR J J J (jU J J J (zB (qN (.cons (by simp_all[look]<;>omega) sbn) sbl))))))
 refine lnx (zK J (fun hc0=>?_) (fun hc0=>?_))
 ·obtain⟨hk1,hk2,hk3⟩:=hk;obtain⟨ba,oa,hAe,hba,hca⟩:=hA.outer om;obtain⟨bb,ob,hBe,hbb,hcb⟩:=hB.outer om;obtain⟨x,hx⟩:∃x,l[k]?=some x:=⟨_,List.getElem?_eq_getElem hc0.1⟩;obtain⟨y,hy⟩:∃x,m[k]?=some x:=⟨_,List.getElem?_eq_getElem hc0.2⟩;have hix:=hA.inner x (List.mem_of_getElem? hx);have hiy:=hB.inner y (List.mem_of_getElem? hy);have hlx:=hl2 x (List.mem_of_getElem? hx);have hly:=hm2 y (List.mem_of_getElem? hy);obtain⟨xA,xc,xl⟩:=x;obtain⟨yA,yc,yl⟩:=y;dsimp only at hix hiy hlx hly;have hxm:(l.map (·.2.2))[k]?=some xl:=by rw[List.getElem?_map,hx];rfl
  have hym:(m.map (·.2.2))[k]?=some yl:=by rw[List.getElem?_map,hy];rfl
  refine zO (zD (zG (zQ (zG (jS [] F.follows 10 J (fl 10) J (anm 0 J J J (anm 1 J J J (zC 2 J J J (jG (j:=k) (show _=some (Value.slice (some ⟨ba,oa,none⟩) l.length ca) from by rw[<-hAe];rfl) J Tryz.underlying35 F.ti23 J hc0.1) (zC 3 J J J (jC (v:=.slice xA xl.length xc) J F.one23 (fun a w ha=>ha.old (hca k _ hx 0 _ J) hba)) (anm 4 J J J (anm 5 J J J (zC 6 J J J (jG (j:=k) (show _=some (Value.slice (some ⟨bb,ob,none⟩) m.length cb) from by rw[<-hBe];rfl) J Tryz.underlying35 F.ti23 J hc0.2) (zC 7 J J J (jC (v:=.slice yA yl.length yc) J F.one23 (fun a w ha=>ha.old (hcb k _ hy 0 _ J) hbb)) (an1 8 J (jE (v:=.bool (decide (xl=yl))) (vs:=[_,_]) J J F.ent45 (fun a w ha=>zO5 hlx hly w (hix.later ha.below) (hiy.later ha.below)) (zB (anb (zC 9 J J J (zCa J) ?_))))))))))))))))))
  refine adn (zD (kH J (fun hc1=>?_) (fun hc1=>?_)))
  ·exact csr (lax J J (zV (jW (zU (zU (jW (zU (zX J (rsO J J) (fun a w ha=>⟨by rw[decide_eq_false (fun e=>by rw[e,hym] at hxm;cases hxm;simp at hc1)],ha.grown nsl⟩)))))))))
  ·refine zO (zJ (zD (zL (zA J J (zE J J J bdO (zF J J (zB (kV (k+1) ⟨by omega,by omega,by rw[List.take_add_one,List.take_add_one,hxm,hym,hk3];rw[show xl=yl from by simpa using hc1]⟩ tdo sbn sbl))))))))
 ·obtain⟨hk1,hk2,hk3⟩:=hk;exact jV (zN (zN (zY (zD (csr (zA J J (jR J J Tryz.underlying35 (zA J J (jR J J Tryz.underlying35 (zE J J J kD (lax J J (zV (zX J (rsO J J) (fun a w ha=>⟨by rw[zRt (l:=l.map (·.2.2)) (m:=m.map (·.2.2)) (by simpa using hk1) (by simpa using hk2) hk3 (by simpa using hc0)];simp,ha.grown nsl⟩))))))))))))))

theorem zFc (k:Nat) (w:World):Calls TP 50 #[.int .i64 (k:Int)] w fun e w'=>∃b5 b7,e=.returned (.agg #[.slice (some ⟨b5,0,none⟩) 2 2,.int .i64 (k:Int),.slice (some ⟨b7,0,none⟩) 3 3])∧Grew w w' [.blk b7 (.cells (ints hds).toArray 3 (0,0)),.blk b5 (.cells (hfs.flatMap Flt.cells).toArray 27 (0,0))]:=by
 refine enter (N:=9) [(0,.int .i64 (k:Int))] Tryz.func50 J Tryz.ntmps50 J J (csr (zW J F.ti25 ?_));intro b2;refine lnx (csr (kM (vs:=[(0,_),(1,_),(2,_)]) (l':=[_,_,_,_]) J J F.ti27 F.pl27 (.cons J J (.cons J J (.cons J J (.nil _)))) J (kM (vs:=[(0,_),(1,_),(2,_)]) (l':=[_,_,_,_]) J J F.ti27 F.pl27 (.cons J J (.cons J J (.cons J J (.nil _)))) J (yV (vs:=[(0,.agg (Flt.cells ⟨3,1,3,false⟩).toArray),(1,.agg (Flt.cells ⟨2,1,1,false⟩).toArray)]) (hfs.flatMap Flt.cells) J J U22 F.ti27 J J J (Lit.agg (l1:=Flt.cells ⟨3,1,3,false⟩) J (Lit.agg (l1:=Flt.cells ⟨2,1,1,false⟩) (l:=[]) J J)) ?_))));intro b5;refine zA J J (kB (vs:=[(0,_),(1,_),(2,_)]) J J U23 F.ti3 J J J ?_);intro b7;exact kM (vs:=[(0,_),(1,_),(2,_)]) (l':=[_,_,_]) J J F.ti25 F.pl25 (.cons J J (.cons J J (.cons J J (.nil _)))) J (zH J J F.ti25 J (lnx (zV (zX J (fun a w ha=>by exact xC (ha:=ha) J J F.agg25 F.ti25 J) (fun a w ha=>⟨b5,b7,rfl,ha.grown (.cons_cons _ (.cons_cons _ nsl))⟩)))))

theorem jAq  (w:World):Calls TP 52 #[] w fun e w'=>∃b5 b7,e=.returned (.agg #[.slice (some ⟨b5,0,none⟩) 2 2,.int .i64 1,.slice (some ⟨b7,0,none⟩) 2 2])∧Grew w w' [.blk b7 (.cells (ints tds).toArray 3 (0,0)),.blk b5 (.cells (tfs.flatMap Flt.cells).toArray 27 (0,0))]:=by
 refine enter (N:=6) [] Tryz.func52 J Tryz.ntmps52 J J (csr (zW J F.ti25 ?_));intro b0;refine lnx (csr (kM (vs:=[(0,_),(1,_),(2,_)]) (l':=[_,_,_,_]) J J F.ti27 F.pl27 (.cons J J (.cons J J (.cons J J (.nil _)))) J (kM (vs:=[(0,_),(1,_),(2,_)]) (l':=[_,_,_,_]) J J F.ti27 F.pl27 (.cons J J (.cons J J (.cons J J (.nil _)))) J (yV (vs:=[(0,.agg (Flt.cells ⟨2,1,1,false⟩).toArray),(1,.agg (Flt.cells ⟨2,1,1,false⟩).toArray)]) (tfs.flatMap Flt.cells) J J U22 F.ti27 J J J (Lit.agg (l1:=Flt.cells ⟨2,1,1,false⟩) J (Lit.agg (l1:=Flt.cells ⟨2,1,1,false⟩) (l:=[]) J J)) ?_))));intro b5;refine kB (vs:=[(0,_),(1,_)]) J J U23 F.ti3 J J J ?_;intro b7;exact kM (vs:=[(0,_),(1,_),(2,_)]) (l':=[_,_,_]) J J F.ti25 F.pl25 (.cons J J (.cons J J (.cons J J (.nil _)))) J (zH J J F.ti25 J (lnx (zV (zX J (fun a w ha=>by exact xC (ha:=ha) J J F.agg25 F.ti25 J) (fun a w ha=>⟨b5,b7,rfl,ha.grown (.cons_cons _ (.cons_cons _ nsl))⟩)))))

theorem zWt  (w:World):Calls TP 51 #[] w fun e w'=>∃b1 b2 b3 b4,e=.returned (.slice (some ⟨b4,0,none⟩) 3 3)∧Grew w w' [.blk b4 (.cells #[.slice (some ⟨b1,0,none⟩) 2 2,.slice (some ⟨b2,0,none⟩) 2 2,.slice (some ⟨b3,0,none⟩) 2 2] 23 (0,0)),.blk b3 (.cells #[.int .i64 0,.int .i64 0] 3 (0,0)),.blk b2 (.cells #[.int .i64 3,.int .i64 0] 3 (0,0)),.blk b1 (.cells #[.int .i64 0,.int .i64 2] 3 (0,0))]:=by
 refine enter (N:=5) [] Tryz.func51 J Tryz.ntmps51 J J (csr (lax J J (csr (kB (vs:=[(0,_),(1,_)]) J J U23 F.ti3 J J J ?_))));intro b1;refine kB (vs:=[(0,_),(1,_)]) J J U23 F.ti3 J J J ?_;intro b2;refine kB (vs:=[(0,_),(1,_)]) J J U23 F.ti3 J J J ?_;intro b3;refine kB (vs:=[(0,_),(1,_),(2,_)]) J J U35 F.ti23 J J J ?_;intro b4;exact lax J J (zV (zX J (rsO J J) (fun a w ha=>⟨b1,b2,b3,b4,rfl,ha.grown (.cons_cons _ (.cons_cons _ (.cons_cons _ (.cons_cons _ nsl))))⟩)))

end
section
variable {days l1 l2 l3:List Nat} {fs:List Flt} {kiln:Nat} {mr:List Meta}
theorem mr2 (h:mr.reverse.map (·.2.2)=[l1,l2]):∃a b:Option Addr×Nat,mr=[(b.1,b.2,l2),(a.1,a.2,l1)]:=by
 have hl:mr.length=2:=by simpa using congrArg List.length h
 match mr,hl with
 | [(q1,q2,q3),(p1,p2,p3)],_ =>
  simp at h;obtain⟨rfl,rfl⟩:=h;exact⟨(p1,p2),(q1,q2),rfl⟩
theorem mr3 (h:mr.reverse.map (·.2.2)=[l1,l2,l3]):∃a b c:Option Addr×Nat,mr=[(c.1,c.2,l3),(b.1,b.2,l2),(a.1,a.2,l1)]:=by
 have hl:mr.length=3:=by simpa using congrArg List.length h
 match mr,hl with
 | [(r1,r2,r3),(q1,q2,q3),(p1,p2,p3)],_ =>
  simp at h;obtain⟨rfl,rfl,rfl⟩:=h;exact⟨(p1,p2),(q1,q2),(r1,r2),rfl⟩
theorem mr4 {l4:List Nat} (h:mr.reverse.map (·.2.2)=[l1,l2,l3,l4]):∃a b c d:Option Addr×Nat,mr=[(d.1,d.2,l4),(c.1,c.2,l3),(b.1,b.2,l2),(a.1,a.2,l1)]:=by
 have hl:mr.length=4:=by simpa using congrArg List.length h
 match mr,hl with
 | [(s1,s2,s3),(r1,r2,r3),(q1,q2,q3),(p1,p2,p3)],_ =>
  simp at h;obtain⟨rfl,rfl,rfl,rfl⟩:=h;exact⟨(p1,p2),(q1,q2),(r1,r2),(s1,s2),rfl⟩
theorem zQn (h:(rchM fs kiln days).isEmpty=false):∃m,Rch fs kiln days m:=by
 cases hl:rchM fs kiln days with
 | nil=>rw[hl] at h;cases h
 | cons m l=>exact⟨m,jGe.1 (by rw[hl];simp)⟩
theorem zY1 (h:(rchM fs kiln days).isEmpty=true) (m:Mor):¬Rch fs kiln days m:=fun hm=>by
 have:=jGe.2 hm;rw[List.isEmpty_iff.1 h] at this
 cases this
theorem zYy {P:Nat->Prop} {q:Prop} (h:(∃d,d<hds.length∧(∀j,j<d->∃m,Rch hfs 0 (hds.take (j+1)) m)∧(∀m,¬Rch hfs 0 (hds.take (d+1)) m)∧P d)∨((∀j,j<hds.length->∃m,Rch hfs 0 (hds.take (j+1)) m)∧q)):P 2:=by
 rcases h with ⟨d,h1,h2,h3,h4⟩|⟨h1,_⟩
 ·rcases d with _|_|_|d
  ·obtain⟨m,hm⟩:=zQn jFg;exact absurd hm (h3 m)
  ·obtain⟨m,hm⟩:=zQn jFm;exact absurd hm (h3 m)
  ·exact h4
  ·exact absurd h1 (by simp[hds])
 ·obtain⟨m,hm⟩:=h1 2 (by decide);exact absurd hm (zY1 jF9 m)
end
section
variable [I:Sys]
theorem F.ent15:Enters TP 15:=jD Tryz.func15 rfl (by kernel_rfl)
theorem F.ent31:Enters TP 31:=jD Tryz.func31 rfl (by kernel_rfl)
theorem F.ent26:Enters TP 26:=jD Tryz.func26 rfl (by kernel_rfl)
theorem F.ent17:Enters TP 17:=jD Tryz.func17 rfl (by kernel_rfl)
theorem F.ent37:Enters TP 37:=jD Tryz.func37 rfl (by kernel_rfl)
theorem F.ent22:Enters TP 22:=jD Tryz.func22 rfl (by kernel_rfl)
theorem F.ent24:Enters TP 24:=jD Tryz.func24 rfl (by kernel_rfl)
theorem F.ent50:Enters TP 50:=jD Tryz.func50 rfl (by kernel_rfl)
theorem F.ent51:Enters TP 51:=jD Tryz.func51 rfl (by kernel_rfl)
theorem F.ent52:Enters TP 52:=jD Tryz.func52 rfl (by kernel_rfl)
theorem zMr [R:ReaC] (w:World) (hR:RdC w):Calls TP 11 #[] w fun e w'=>e=.returned (.bool true)∧Grew w w' []:=by
 refine enter (N:=125) [] Tryz.func11 rfl Tryz.ntmps11 rfl rfl (zG (zL (zF rfl rfl (zB (zD (zG (zL (kJ (X:=Nat×Nat) (vs:=[_]) (p:=fun _=>True) (val:=fun g=>.agg [.slice (some ⟨g.1,0,none⟩) 2 2,.int .i64 1,.slice (some ⟨g.2,0,none⟩) 3 3].toArray) (rs:=fun g=>[.blk g.2 (.cells (ints hds).toArray 3 (0,0)),.blk g.1 (.cells (hfs.flatMap Flt.cells).toArray 27 (0,0))]) rfl rfl F.ent50 (fun a w ha=>(zFc 1 w).mono (fun e w' h=>by obtain⟨b5,b7,h1,h2⟩:=h;exact⟨(b5,b7),trivial,h1,h2⟩)) ?_))))))))
 rintro⟨f1,d1⟩ -
 dsimp only[List.cons_append,List.nil_append]
 refine kJ (X:=Option Addr×Nat×(Option Addr×Nat)×(Option Addr×Nat)×(Option Addr×Nat)) (vs:=[_]) (p:=fun _=>True) (val:=fun g=>.tuple #[.slice g.1 3 g.2.1,.int .i64 1,.int .i64 0]) (rs:=fun g=>[.row 23 1 g.1 3 g.2.1 [.slice g.2.2.1.1 2 g.2.2.1.2,.slice g.2.2.2.1.1 2 g.2.2.2.1.2,.slice g.2.2.2.2.1 2 g.2.2.2.2.2],.row 3 1 g.2.2.2.2.1 2 g.2.2.2.2.2 (ints [0,0]),.row 3 1 g.2.2.2.1.1 2 g.2.2.2.1.2 (ints [3,0]),.row 3 1 g.2.2.1.1 2 g.2.2.1.2 (ints [0,2])]) rfl rfl F.ent15 (fun a w ha=>?_) ?_
 ·refine (zYe (fA:=some ⟨f1,0,none⟩) (dA:=some ⟨d1,0,none⟩) (fc:=2) (dc:=3) (fs:=hfs) (days:=hds) (kiln:=1) (hv (by decide)) w (kZ ha (cells:=Flt.cells) (size:=4) (b:=f1) (l:=hfs) (fun _=>rfl) rfl) (kZ ha (cells:=ncell) (size:=1) (b:=d1) (l:=hds) (fun _=>rfl) rfl)).mono ?_
  rintro e w' ⟨oA,oc,mr,hcase,hg⟩
  rcases hcase with ⟨h1,h2,h3⟩|⟨h1,_⟩
  ·rw[jAk] at h2
   obtain⟨a,b,c,rfl⟩:=mr3 h2
   rw[zMy] at h3
   exact⟨(oA,oc,a,b,c),trivial,h3,hg⟩
  ·rw[zMy] at h1;cases h1
 rintro⟨A1,c1,⟨p1,q1⟩,⟨p2,q2⟩,⟨p3,q3⟩⟩ -
 dsimp only[List.cons_append,List.nil_append]
 refine zA rfl rfl (jF rfl rfl rfl (jF rfl rfl rfl (jF rfl rfl rfl (zF rfl rfl (zF rfl rfl (zF rfl rfl (zB (zD (zG (zL (kJ (X:=Nat×Nat) (vs:=[_]) (p:=fun _=>True) (val:=fun g=>.agg [.slice (some ⟨g.1,0,none⟩) 2 2,.int .i64 1,.slice (some ⟨g.2,0,none⟩) 3 3].toArray) (rs:=fun g=>[.blk g.2 (.cells (ints hds).toArray 3 (0,0)),.blk g.1 (.cells (hfs.flatMap Flt.cells).toArray 27 (0,0))]) rfl rfl F.ent50 (fun a w ha=>(zFc 1 w).mono (fun e w' h=>by obtain⟨b5,b7,h1,h2⟩:=h;exact⟨(b5,b7),trivial,h1,h2⟩)) ?_)))))))))))
 rintro⟨f2,d2⟩ -
 dsimp only[List.cons_append,List.nil_append]
 refine kJ (X:=Nat×Nat×Nat×Nat) (vs:=[]) (p:=fun _=>True) (val:=fun g=>.slice (some ⟨g.2.2.2,0,none⟩) 3 3) (rs:=fun g=>[.blk g.2.2.2 (.cells [.slice (some ⟨g.1,0,none⟩) 2 2,.slice (some ⟨g.2.1,0,none⟩) 2 2,.slice (some ⟨g.2.2.1,0,none⟩) 2 2].toArray 23 (0,0)),.blk g.2.2.1 (.cells [.int .i64 0,.int .i64 0].toArray 3 (0,0)),.blk g.2.1 (.cells [.int .i64 3,.int .i64 0].toArray 3 (0,0)),.blk g.1 (.cells [.int .i64 0,.int .i64 2].toArray 3 (0,0))]) rfl rfl F.ent51 (fun a w ha=>(zWt w).mono (fun e w' h=>by obtain⟨b1,b2,b3,b4,h1,h2⟩:=h;exact⟨(b1,b2,b3,b4),trivial,h1,h2⟩)) ?_
 rintro⟨j1,j2,j3,j4⟩ -
 dsimp only[List.cons_append,List.nil_append]
 refine kJ (X:=Option Addr×Nat×(Option Addr×Nat)×(Option Addr×Nat)×(Option Addr×Nat)×(Option Addr×Nat)) (vs:=[_,_]) (p:=fun _=>True) (val:=fun g=>.tuple #[.slice g.1 4 g.2.1,.int .i64 1,.int .i64 0]) (rs:=fun g=>[.row 23 1 g.1 4 g.2.1 [.slice g.2.2.1.1 2 g.2.2.1.2,.slice g.2.2.2.1.1 2 g.2.2.2.1.2,.slice g.2.2.2.2.1.1 2 g.2.2.2.2.1.2,.slice g.2.2.2.2.2.1 2 g.2.2.2.2.2.2],.row 3 1 g.2.2.2.2.2.1 2 g.2.2.2.2.2.2 (ints [0,0]),.row 3 1 g.2.2.2.2.1.1 2 g.2.2.2.2.1.2 (ints [3,0]),.row 3 1 g.2.2.2.1.1 2 g.2.2.2.1.2 (ints [0,2]),.row 3 1 g.2.2.1.1 2 g.2.2.1.2 (ints [3,1])]) rfl rfl F.ent31 (fun a w ha=>?_) ?_
 ·refine (zYa (fA:=some ⟨f2,0,none⟩) (dA:=some ⟨d2,0,none⟩) (fc:=2) (dc:=3) (fs:=hfs) (days:=hds) (kiln:=1) (pA:=some ⟨j4,0,none⟩) (pc:=3) (ms:=[(some ⟨j1,0,none⟩,2,[0,2]),(some ⟨j2,0,none⟩,2,[3,0]),(some ⟨j3,0,none⟩,2,[0,0])]) (hv (by decide)) (by show 3<1000000;decide) (by intro x hx;simp only[List.mem_cons,List.not_mem_nil,or_false] at hx;rcases hx with rfl|rfl|rfl<;>(dsimp only;decide)) w (kZ ha (cells:=Flt.cells) (size:=4) (b:=f2) (l:=hfs) (fun _=>rfl) rfl) (kZ ha (cells:=ncell) (size:=1) (b:=d2) (l:=hds) (fun _=>rfl) rfl) ⟨kZ ha (cells:=fun m=>[zmcell m]) (size:=1) (b:=j4) (l:=[(some ⟨j1,0,none⟩,2,[0,2]),(some ⟨j2,0,none⟩,2,[3,0]),(some ⟨j3,0,none⟩,2,[0,0])]) (fun _=>rfl) rfl,fun m hm=>by
   simp only[List.mem_cons,List.not_mem_nil,or_false] at hm
   rcases hm with rfl|rfl|rfl
   ·exact kZ ha (cells:=zcell) (size:=1) (b:=j1) (l:=[0,2]) (fun _=>rfl) rfl
   ·exact kZ ha (cells:=zcell) (size:=1) (b:=j2) (l:=[3,0]) (fun _=>rfl) rfl
   ·exact kZ ha (cells:=zcell) (size:=1) (b:=j3) (l:=[0,0]) (fun _=>rfl) rfl⟩).mono ?_
  rintro e w' ⟨oA,oc,mr,h2,h3,hg⟩
  rw[show workE hfs 1 hds (List.map (fun x=>x.2.2) ([(some ⟨j1,0,none⟩,2,[0,2]),(some ⟨j2,0,none⟩,2,[3,0]),(some ⟨j3,0,none⟩,2,[0,0])]:List MetaZ))=(0,[[3,1],[0,2],[3,0],[0,0]],1) from jBw] at h2 h3
  obtain⟨a,b,c,d,rfl⟩:=mr4 h2
  exact⟨(oA,oc,a,b,c,d),trivial,h3,hg⟩
 rintro⟨A2,c2,⟨r1,s1⟩,⟨r2,s2⟩,⟨r3,s3⟩,⟨r4,s4⟩⟩ -
 dsimp only[List.cons_append,List.nil_append]
 refine zA rfl rfl (jF rfl rfl rfl (jF rfl rfl rfl (jF rfl rfl rfl (zF rfl rfl (zF rfl rfl (zF rfl rfl (zB (zD (zG (zL (kJ (X:=Nat×Nat) (vs:=[_]) (p:=fun _=>True) (val:=fun g=>.agg [.slice (some ⟨g.1,0,none⟩) 2 2,.int .i64 0,.slice (some ⟨g.2,0,none⟩) 3 3].toArray) (rs:=fun g=>[.blk g.2 (.cells (ints hds).toArray 3 (0,0)),.blk g.1 (.cells (hfs.flatMap Flt.cells).toArray 27 (0,0))]) rfl rfl F.ent50 (fun a w ha=>(zFc 0 w).mono (fun e w' h=>by obtain⟨b5,b7,h1,h2⟩:=h;exact⟨(b5,b7),trivial,h1,h2⟩)) ?_)))))))))))
 rintro⟨f3,d3⟩ -
 dsimp only[List.cons_append,List.nil_append]
 refine jE (v:=.tuple #[.int .i64 2,.int .i64 0]) (vs:=[_]) rfl rfl F.ent37 (fun a w ha=>(jAx (fA:=some ⟨f3,0,none⟩) (dA:=some ⟨d3,0,none⟩) (fc:=2) (dc:=3) (fs:=hfs) (days:=hds) (kiln:=0) (hv (by decide)) (by decide) w (hR.later ha.below) (fun _=>⟨f3,0,none,_,_,rfl,ha.mem_blk (InB.mem (b:=f3)),by decide⟩) (kZ ha (cells:=Flt.cells) (size:=4) (b:=f3) (l:=hfs) (fun _=>rfl) rfl) (kZ ha (cells:=ncell) (size:=1) (b:=d3) (l:=hds) (fun _=>rfl) rfl)).mono (fun e w' h=>⟨zYy (P:=fun d=>e=.returned (.tuple #[.int .i64 (d:Int),.int .i64 0])) h.1,h.2⟩)) (zA rfl rfl (jF rfl rfl rfl (jF rfl rfl rfl (zF rfl rfl (zF rfl rfl (zB (zD (zG (zL (kJ (X:=Nat×Nat) (vs:=[]) (p:=fun _=>True) (val:=fun g=>.agg [.slice (some ⟨g.1,0,none⟩) 2 2,.int .i64 1,.slice (some ⟨g.2,0,none⟩) 2 2].toArray) (rs:=fun g=>[.blk g.2 (.cells (ints tds).toArray 3 (0,0)),.blk g.1 (.cells (tfs.flatMap Flt.cells).toArray 27 (0,0))]) rfl rfl F.ent52 (fun a w ha=>(jAq w).mono (fun e w' h=>by obtain⟨b5,b7,h1,h2⟩:=h;exact⟨(b5,b7),trivial,h1,h2⟩)) ?_))))))))))
 rintro⟨f4,d4⟩ -
 dsimp only[List.cons_append,List.nil_append]
 refine kJ (X:=Option Addr×Nat×(Option Addr×Nat)×(Option Addr×Nat)) (vs:=[_]) (p:=fun _=>True) (val:=fun g=>.tuple #[.slice g.1 2 g.2.1,.int .i64 2,.int .i64 0]) (rs:=fun g=>[.row 23 1 g.1 2 g.2.1 [.slice g.2.2.1.1 2 g.2.2.1.2,.slice g.2.2.2.1 2 g.2.2.2.2],.row 3 1 g.2.2.2.1 2 g.2.2.2.2 (ints [3,0]),.row 3 1 g.2.2.1.1 2 g.2.2.1.2 (ints [0,3])]) rfl rfl F.ent24 (fun a w ha=>?_) ?_
 ·refine (zR4 (fA:=some ⟨f4,0,none⟩) (dA:=some ⟨d4,0,none⟩) (fc:=2) (dc:=2) (fs:=tfs) (days:=tds) (kiln:=1) tv1 w (kZ ha (cells:=Flt.cells) (size:=4) (b:=f4) (l:=tfs) (fun _=>rfl) rfl) (kZ ha (cells:=ncell) (size:=1) (b:=d4) (l:=tds) (fun _=>rfl) rfl)).mono ?_
  rintro e w' ⟨oA,oc,mr,hcase,hg⟩
  rcases hcase with ⟨h1,h2,h3⟩|⟨h1,_⟩
  ·rw[zYu] at h2
   obtain⟨a,b,rfl⟩:=mr2 h2
   rw[zQe] at h3
   exact⟨(oA,oc,a,b),trivial,h3,hg⟩
  ·rw[zQe] at h1;cases h1
 rintro⟨A4,c4,⟨t1,u1⟩,⟨t2,u2⟩⟩ -
 dsimp only[List.cons_append,List.nil_append]
 refine zA rfl rfl (jF rfl rfl rfl (jF rfl rfl rfl (jF rfl rfl rfl (zF rfl rfl (zF rfl rfl (zF rfl rfl (zB (zD (zG (zL (kJ (X:=Nat×Nat) (vs:=[_]) (p:=fun _=>True) (val:=fun g=>.agg [.slice (some ⟨g.1,0,none⟩) 2 2,.int .i64 0,.slice (some ⟨g.2,0,none⟩) 3 3].toArray) (rs:=fun g=>[.blk g.2 (.cells (ints hds).toArray 3 (0,0)),.blk g.1 (.cells (hfs.flatMap Flt.cells).toArray 27 (0,0))]) rfl rfl F.ent50 (fun a w ha=>(zFc 0 w).mono (fun e w' h=>by obtain⟨b5,b7,h1,h2⟩:=h;exact⟨(b5,b7),trivial,h1,h2⟩)) ?_)))))))))))
 rintro⟨f5,d5⟩ -
 dsimp only[List.cons_append,List.nil_append]
 refine kM (vs:=[(0,_),(2,_)]) (l':=[_,_,_,_]) rfl rfl F.ti27 F.pl27 (.cons rfl rfl (.cons rfl rfl (.nil _))) rfl (yV (vs:=[(0,.agg (Flt.cells ⟨2,0,2,false⟩).toArray)]) (ofs.flatMap Flt.cells) rfl rfl Tryz.underlying22 F.ti27 rfl rfl rfl (Lit.agg (l1:=Flt.cells ⟨2,0,2,false⟩) (l:=[]) rfl rfl) ?_)
 intro o5
 refine jE (v:=.tuple #[.int .i64 0,.int .i64 0,.int .i64 0]) (vs:=[_,_]) rfl rfl F.ent22 (fun a w ha=>(jFh (fA:=some ⟨f5,0,none⟩) (dA:=some ⟨d5,0,none⟩) (fc:=2) (dc:=3) (fs:=hfs) (days:=hds) (kiln:=0) (oA:=some ⟨o5,0,none⟩) (oc:=1) (os:=ofs) (hv (by decide)) (by decide) (by unfold FltOk;decide) (by decide) (by decide) w (kZ ha (cells:=Flt.cells) (size:=4) (b:=f5) (l:=hfs) (fun _=>rfl) rfl) (kZ ha (cells:=ncell) (size:=1) (b:=d5) (l:=hds) (fun _=>rfl) rfl) (kZ ha (cells:=Flt.cells) (size:=4) (b:=o5) (l:=ofs) (fun _=>rfl) rfl)).mono (fun e w' h=>⟨h.1.trans (by rw[show ofs.length=1 from rfl,jEo];rfl),h.2⟩)) (zA rfl rfl (jF rfl rfl rfl (jF rfl rfl rfl (jF rfl rfl rfl (zF rfl rfl (zF rfl rfl (zF rfl rfl (zB (zD (zG (zL (kJ (X:=Nat×Nat) (vs:=[_]) (p:=fun _=>True) (val:=fun g=>.agg [.slice (some ⟨g.1,0,none⟩) 2 2,.int .i64 1,.slice (some ⟨g.2,0,none⟩) 3 3].toArray) (rs:=fun g=>[.blk g.2 (.cells (ints hds).toArray 3 (0,0)),.blk g.1 (.cells (hfs.flatMap Flt.cells).toArray 27 (0,0))]) rfl rfl F.ent50 (fun a w ha=>(zFc 1 w).mono (fun e w' h=>by obtain⟨b5,b7,h1,h2⟩:=h;exact⟨(b5,b7),trivial,h1,h2⟩)) ?_))))))))))))
 rintro⟨f6,d6⟩ -
 dsimp only[List.cons_append,List.nil_append]
 refine jE (v:=.tuple #[.int .i64 1,.int .i64 0]) (vs:=[_,_,_]) rfl rfl F.ent26 (fun a w ha=>(zL7 (fA:=some ⟨f6,0,none⟩) (dA:=some ⟨d6,0,none⟩) (fc:=2) (dc:=3) (fs:=hfs) (days:=hds) (kiln:=1) (f:=0) (day:=1) (hv (by decide)) (by decide) (by decide) w (kZ ha (cells:=Flt.cells) (size:=4) (b:=f6) (l:=hfs) (fun _=>rfl) rfl) (kZ ha (cells:=ncell) (size:=1) (b:=d6) (l:=hds) (fun _=>rfl) rfl)).mono (fun e w' h=>⟨h.1.trans (by rw[jCq];rfl),h.2⟩)) (zA rfl rfl (jF rfl rfl rfl (jF rfl rfl rfl (zF rfl rfl (zF rfl rfl (zB (zD (zG (zL (zA rfl rfl (zE rfl rfl rfl kD (zA rfl rfl (zM rfl rfl (zA rfl rfl (zM rfl rfl (zE rfl rfl rfl kD (jH rfl rfl rfl (zA rfl rfl (zM rfl rfl (zA rfl rfl (zM rfl rfl (zE rfl rfl rfl kD (jH rfl rfl rfl (zA rfl rfl (zM rfl rfl (zA rfl rfl (zM rfl rfl (zE rfl rfl rfl kD (jH rfl rfl rfl (zA rfl rfl (zM rfl rfl (zA rfl rfl (zM rfl rfl (zE rfl rfl rfl kD (jH rfl rfl rfl (zA rfl rfl (zM rfl rfl (zA rfl rfl (zM rfl rfl (zE rfl rfl rfl kD (jH rfl rfl rfl (zA rfl rfl (zM rfl rfl (zA rfl rfl (zM rfl rfl (zE rfl rfl rfl kD (jH rfl rfl rfl (zA rfl rfl (zM rfl rfl (zA rfl rfl (zM rfl rfl (zE rfl rfl rfl kD (jH rfl rfl rfl (zA rfl rfl (zM rfl rfl (zA rfl rfl (zM rfl rfl (zE rfl rfl rfl kD (jH rfl rfl rfl (zA rfl rfl (zM rfl rfl (zA rfl rfl (zM rfl rfl (zE rfl rfl rfl kD (jH rfl rfl rfl (zA rfl rfl (zM rfl rfl (zA rfl rfl (zM rfl rfl (zE rfl rfl rfl kD (jH rfl rfl rfl (zA rfl rfl (zM rfl rfl (zA rfl rfl (zM rfl rfl (zE rfl rfl rfl kD (jH rfl rfl rfl (zA rfl rfl (zM rfl rfl (zA rfl rfl (zM rfl rfl (zE rfl rfl rfl kD (jH rfl rfl rfl (zA rfl rfl (zM rfl rfl (zA rfl rfl (zM rfl rfl (kJ (X:=Nat×Nat×Nat×Nat) (vs:=[]) (p:=fun _=>True) (val:=fun g=>.slice (some ⟨g.2.2.2,0,none⟩) 3 3) (rs:=fun g=>[.blk g.2.2.2 (.cells [.slice (some ⟨g.1,0,none⟩) 2 2,.slice (some ⟨g.2.1,0,none⟩) 2 2,.slice (some ⟨g.2.2.1,0,none⟩) 2 2].toArray 23 (0,0)),.blk g.2.2.1 (.cells [.int .i64 0,.int .i64 0].toArray 3 (0,0)),.blk g.2.1 (.cells [.int .i64 3,.int .i64 0].toArray 3 (0,0)),.blk g.1 (.cells [.int .i64 0,.int .i64 2].toArray 3 (0,0))]) rfl rfl F.ent51 (fun a w ha=>(zWt w).mono (fun e w' h=>by obtain⟨b1,b2,b3,b4,h1,h2⟩:=h;exact⟨(b1,b2,b3,b4),trivial,h1,h2⟩)) ?_))))))))))))))))))))))))))))))))))))))))))))))))))))))))))))))))))))))))))))))))))))))))
 rintro⟨j5,j6,j7,j8⟩ -
 dsimp only[List.cons_append,List.nil_append]
 refine zM rfl rfl ?_
 refine jE (v:=.bool true) (vs:=[_,_]) rfl rfl F.ent17 (fun a w ha=>(zEd (A:=A1) (B:=some ⟨j8,0,none⟩) (ca:=c1) (cb:=3) (l:=[(p1,q1,[0,2]),(p2,q2,[3,0]),(p3,q3,[0,0])]) (m:=[(some ⟨j5,0,none⟩,2,[0,2]),(some ⟨j6,0,none⟩,2,[3,0]),(some ⟨j7,0,none⟩,2,[0,0])]) (by show 3<1000000;decide) (by show 3<1000000;decide) (by intro x hx;simp only[List.mem_cons,List.not_mem_nil,or_false] at hx;rcases hx with rfl|rfl|rfl<;>(dsimp only;decide)) (by intro x hx;simp only[List.mem_cons,List.not_mem_nil,or_false] at hx;rcases hx with rfl|rfl|rfl<;>(dsimp only;decide)) w ⟨kX ha (cells:=fun m=>[zmcell m]) (size:=1) (e:=23) (c:=c1) (n:=3) (l:=[(p1,q1,[0,2]),(p2,q2,[3,0]),(p3,q3,[0,0])]) (fun _=>rfl) (InR.mem (A:=A1)) rfl,fun m hm=>by
   simp only[List.mem_cons,List.not_mem_nil,or_false] at hm
   rcases hm with rfl|rfl|rfl
   ·exact kX ha (cells:=zcell) (size:=1) (e:=3) (c:=q1) (n:=2) (l:=[0,2]) (fun _=>rfl) (InR.mem (A:=p1)) rfl
   ·exact kX ha (cells:=zcell) (size:=1) (e:=3) (c:=q2) (n:=2) (l:=[3,0]) (fun _=>rfl) (InR.mem (A:=p2)) rfl
   ·exact kX ha (cells:=zcell) (size:=1) (e:=3) (c:=q3) (n:=2) (l:=[0,0]) (fun _=>rfl) (InR.mem (A:=p3)) rfl⟩ ⟨kZ ha (cells:=fun m=>[zmcell m]) (size:=1) (b:=j8) (l:=[(some ⟨j5,0,none⟩,2,[0,2]),(some ⟨j6,0,none⟩,2,[3,0]),(some ⟨j7,0,none⟩,2,[0,0])]) (fun _=>rfl) rfl,fun m hm=>by
   simp only[List.mem_cons,List.not_mem_nil,or_false] at hm
   rcases hm with rfl|rfl|rfl
   ·exact kZ ha (cells:=zcell) (size:=1) (b:=j5) (l:=[0,2]) (fun _=>rfl) rfl
   ·exact kZ ha (cells:=zcell) (size:=1) (b:=j6) (l:=[3,0]) (fun _=>rfl) rfl
   ·exact kZ ha (cells:=zcell) (size:=1) (b:=j7) (l:=[0,0]) (fun _=>rfl) rfl⟩).mono (fun e w' h=>⟨h.1.trans (by rfl),h.2⟩)) ?_
 refine jH rfl rfl rfl (zA rfl rfl (zM rfl rfl (zA rfl rfl (zM rfl rfl (kB (vs:=[(0,_),(1,_)]) rfl rfl Tryz.underlying23 F.ti3 rfl rfl rfl ?_)))))
 intro b111
 refine zM rfl rfl (kB (vs:=[(0,_),(1,_)]) rfl rfl Tryz.underlying23 F.ti3 rfl rfl rfl ?_)
 intro b112
 refine zM rfl rfl (kB (vs:=[(0,_),(1,_)]) rfl rfl Tryz.underlying23 F.ti3 rfl rfl rfl ?_)
 intro b113
 refine zM rfl rfl (kB (vs:=[(0,_),(1,_)]) rfl rfl Tryz.underlying23 F.ti3 rfl rfl rfl ?_)
 intro b114
 refine zM rfl rfl (kB (vs:=[(0,_),(1,_),(2,_),(3,_)]) rfl rfl Tryz.underlying35 F.ti23 rfl rfl rfl ?_)
 intro b115
 refine zM rfl rfl ?_
 refine jE (v:=.bool true) (vs:=[_,_]) rfl rfl F.ent17 (fun a w ha=>(zEd (A:=A2) (B:=some ⟨b115,0,none⟩) (ca:=c2) (cb:=4) (l:=[(r1,s1,[3,1]),(r2,s2,[0,2]),(r3,s3,[3,0]),(r4,s4,[0,0])]) (m:=[(some ⟨b111,0,none⟩,2,[3,1]),(some ⟨b112,0,none⟩,2,[0,2]),(some ⟨b113,0,none⟩,2,[3,0]),(some ⟨b114,0,none⟩,2,[0,0])]) (by show 4<1000000;decide) (by show 4<1000000;decide) (by intro x hx;simp only[List.mem_cons,List.not_mem_nil,or_false] at hx;rcases hx with rfl|rfl|rfl|rfl<;>(dsimp only;decide)) (by intro x hx;simp only[List.mem_cons,List.not_mem_nil,or_false] at hx;rcases hx with rfl|rfl|rfl|rfl<;>(dsimp only;decide)) w ⟨kX ha (cells:=fun m=>[zmcell m]) (size:=1) (e:=23) (c:=c2) (n:=4) (l:=[(r1,s1,[3,1]),(r2,s2,[0,2]),(r3,s3,[3,0]),(r4,s4,[0,0])]) (fun _=>rfl) (InR.mem (A:=A2)) rfl,fun m hm=>by
   simp only[List.mem_cons,List.not_mem_nil,or_false] at hm
   rcases hm with rfl|rfl|rfl|rfl
   ·exact kX ha (cells:=zcell) (size:=1) (e:=3) (c:=s1) (n:=2) (l:=[3,1]) (fun _=>rfl) (InR.mem (A:=r1)) rfl
   ·exact kX ha (cells:=zcell) (size:=1) (e:=3) (c:=s2) (n:=2) (l:=[0,2]) (fun _=>rfl) (InR.mem (A:=r2)) rfl
   ·exact kX ha (cells:=zcell) (size:=1) (e:=3) (c:=s3) (n:=2) (l:=[3,0]) (fun _=>rfl) (InR.mem (A:=r3)) rfl
   ·exact kX ha (cells:=zcell) (size:=1) (e:=3) (c:=s4) (n:=2) (l:=[0,0]) (fun _=>rfl) (InR.mem (A:=r4)) rfl⟩ ⟨kZ ha (cells:=fun m=>[zmcell m]) (size:=1) (b:=b115) (l:=[(some ⟨b111,0,none⟩,2,[3,1]),(some ⟨b112,0,none⟩,2,[0,2]),(some ⟨b113,0,none⟩,2,[3,0]),(some ⟨b114,0,none⟩,2,[0,0])]) (fun _=>rfl) rfl,fun m hm=>by
   simp only[List.mem_cons,List.not_mem_nil,or_false] at hm
   rcases hm with rfl|rfl|rfl|rfl
   ·exact kZ ha (cells:=zcell) (size:=1) (b:=b111) (l:=[3,1]) (fun _=>rfl) rfl
   ·exact kZ ha (cells:=zcell) (size:=1) (b:=b112) (l:=[0,2]) (fun _=>rfl) rfl
   ·exact kZ ha (cells:=zcell) (size:=1) (b:=b113) (l:=[3,0]) (fun _=>rfl) rfl
   ·exact kZ ha (cells:=zcell) (size:=1) (b:=b114) (l:=[0,0]) (fun _=>rfl) rfl⟩).mono (fun e w' h=>⟨h.1.trans (by rfl),h.2⟩)) ?_
 refine jH rfl rfl rfl (zA rfl rfl (zM rfl rfl (zA rfl rfl (zM rfl rfl (kB (vs:=[(0,_),(1,_)]) rfl rfl Tryz.underlying23 F.ti3 rfl rfl rfl ?_)))))
 intro b120
 refine zM rfl rfl (kB (vs:=[(0,_),(1,_)]) rfl rfl Tryz.underlying23 F.ti3 rfl rfl rfl ?_)
 intro b121
 refine zM rfl rfl (kB (vs:=[(0,_),(1,_)]) rfl rfl Tryz.underlying35 F.ti23 rfl rfl rfl ?_)
 intro b122
 refine zM rfl rfl ?_
 refine jE (v:=.bool true) (vs:=[_,_]) rfl rfl F.ent17 (fun a w ha=>(zEd (A:=A4) (B:=some ⟨b122,0,none⟩) (ca:=c4) (cb:=2) (l:=[(t1,u1,[0,3]),(t2,u2,[3,0])]) (m:=[(some ⟨b120,0,none⟩,2,[0,3]),(some ⟨b121,0,none⟩,2,[3,0])]) (by show 2<1000000;decide) (by show 2<1000000;decide) (by intro x hx;simp only[List.mem_cons,List.not_mem_nil,or_false] at hx;rcases hx with rfl|rfl<;>(dsimp only;decide)) (by intro x hx;simp only[List.mem_cons,List.not_mem_nil,or_false] at hx;rcases hx with rfl|rfl<;>(dsimp only;decide)) w ⟨kX ha (cells:=fun m=>[zmcell m]) (size:=1) (e:=23) (c:=c4) (n:=2) (l:=[(t1,u1,[0,3]),(t2,u2,[3,0])]) (fun _=>rfl) (InR.mem (A:=A4)) rfl,fun m hm=>by
   simp only[List.mem_cons,List.not_mem_nil,or_false] at hm
   rcases hm with rfl|rfl
   ·exact kX ha (cells:=zcell) (size:=1) (e:=3) (c:=u1) (n:=2) (l:=[0,3]) (fun _=>rfl) (InR.mem (A:=t1)) rfl
   ·exact kX ha (cells:=zcell) (size:=1) (e:=3) (c:=u2) (n:=2) (l:=[3,0]) (fun _=>rfl) (InR.mem (A:=t2)) rfl⟩ ⟨kZ ha (cells:=fun m=>[zmcell m]) (size:=1) (b:=b122) (l:=[(some ⟨b120,0,none⟩,2,[0,3]),(some ⟨b121,0,none⟩,2,[3,0])]) (fun _=>rfl) rfl,fun m hm=>by
   simp only[List.mem_cons,List.not_mem_nil,or_false] at hm
   rcases hm with rfl|rfl
   ·exact kZ ha (cells:=zcell) (size:=1) (b:=b120) (l:=[0,3]) (fun _=>rfl) rfl
   ·exact kZ ha (cells:=zcell) (size:=1) (b:=b121) (l:=[3,0]) (fun _=>rfl) rfl⟩).mono (fun e w' h=>⟨h.1.trans (by rfl),h.2⟩)) ?_
 exact jH rfl rfl rfl (zF rfl rfl (zB (zD (zV (zX rfl (rsO rfl rfl) (fun a w ha=>⟨rfl,ha.grown nsl⟩))))))

variable {k:Nat} {l:List Nat}
theorem zB4 (z:Int):∃m:Nat,m<18446744073709551616∧IntKind.u64.wrap z=(m:Int):=by
 refine⟨(IntKind.u64.wrap z).toNat,?_,?_⟩
 ·simp[IntKind.wrap,IntKind.signed,IntKind.bits];omega
 ·simp[IntKind.wrap,IntKind.signed,IntKind.bits];omega
theorem xor64 {a b:Nat} (ha:a<18446744073709551616) (hb:b<18446744073709551616):a ^^^ b<18446744073709551616:=Nat.xor_lt_two_pow (n:=64) ha hb
theorem shr64 {a:Nat} (k:Nat) (ha:a<18446744073709551616):a >>> k<18446744073709551616:=Nat.lt_of_le_of_lt (by rw[Nat.shiftRight_eq_div_pow];exact Nat.div_le_self _ _) ha
theorem zNc {m:Nat} (h:m<18446744073709551615):IntKind.u64.wrap ((m:Int)+1)=((m+1:Nat):Int):=by
 have:=zI8 (m+1) om;simpa using this
theorem zXc (x m:Nat):(x:Int).tmod ((m:Nat):Int)=((x%m:Nat):Int):=(Int.ofNat_tmod x m).symm
class Pul (b:Nat) (o:outParam Obj) (hp:List Res) (T:outParam (List Res)):Prop where
 perm:hp.Perm (.blk b o::T)
instance Pul.tail (b:Nat) (o:Obj) (x:Res) (l T:List Res) [h:Pul b o l T]:Pul b o (x::l) (x::T):=⟨(h.perm.cons x).trans (.swap _ _ _)⟩
instance Pul.head (b:Nat) (o:Obj) (l:List Res):Pul b o (.blk b o::l) l:=⟨.refl _⟩
section
variable {C:Ctx} {fr:LV} {hp hp':List Res} {a:Act} {w:World} {ops:Array Oper} {Q:QT} {rest:List Oper}
 {d:Nat} {ty:TypeId} {pos:String} {after:Array Edge}
theorem zAr {X:Type} (b:Nat) {o:Obj} (o':X->Obj) {T:List Res} {f:FuncId} {vs:List Value} {args:Array Operand} {ts:Array TypeId} (p:X->Prop) (val:X->Value) [hq:Pul b o hp T] (hd:Nat.blt d C.N=true)
  (hargs:args.toList.map (ev fr)=vs.map some) (hf:Enters C.P f)
  (hc:∀a w,At C fr (.blk b o::T) a w->Calls C.P f vs.toArray w fun e w'=>∃y,p y∧e=.returned (val y)∧At C fr (.blk b (o' y)::T) a w')
  (k:∀y,p y->Lst C ops Q rest ((d,val y)::fr) (.blk b (o' y)::T)):Lst C ops Q (⟨some d,.call {callee:=.value (.func f),args:=args,argTypes:=ts},ty,pos,after,none⟩::rest) fr hp:=by
 refine xT (first:=[]) (cap:=[]) (p:=p) (val:=val) (rs:=fun y=>.blk b (o' y)::T) hd J hargs hf (fun a w ha=>?_) k;simp only[List.nil_append,List.append_nil];exact hc a w (ha.permed hq.perm)
end
def hatO (nA:Option Addr) (n nc tk st:Nat):Obj:=.cells #[.slice nA n nc,.int .i64 (tk:Int),.int .u64 (st:Int)] 73 (0,0)
theorem zXo (h:k<l.length):(ints l)[k]?=some (.int .i64 ((l.getD k 0:Nat):Int)):=by
 unfold ints;rw[List.getElem?_map,List.getElem?_eq_getElem h,List.getD_eq_getElem?_getD,List.getElem?_eq_getElem h]
 rfl
theorem zYf (h:k<l.length):l.getD k 0∈l:=by
 rw[List.getD_eq_getElem?_getD,List.getElem?_eq_getElem h];exact List.getElem_mem h
end
section
variable [I:Sys]
variable {C:Ctx} {Q:QT} {T hp:List Res} {a:Act} {after:Array Edge} {args:Array Operand} {d hb nc st tk:Nat} {fr:LV} {n:Int} {nA:Option Addr} {nums:List Int} {ops:Array Oper} {pos:String} {rest:List Oper} {ts:Array TypeId} {ty:TypeId} {w:World}
theorem F.ent21:Enters TP 21:=jD Tryz.func21 rfl kr
theorem F.ent60:Enters TP 60:=jD Tryz.func60 rfl kr
theorem F.ent59:Enters TP 59:=jD Tryz.func59 rfl kr
theorem F.ent54:Enters TP 54:=jD Tryz.func54 rfl kr
theorem F.ent61:Enters TP 61:=jD Tryz.func61 rfl kr
theorem F.fi73_0:FI TP 73 0 23 0:=⟨_,_,Tryz.underlying73,rfl,rfl,rfl⟩
theorem F.fi73_1:FI TP 73 1 3 1:=⟨_,_,Tryz.underlying73,rfl,rfl,rfl⟩
theorem F.fi73_2:FI TP 73 2 71 2:=⟨_,_,Tryz.underlying73,rfl,rfl,rfl⟩
theorem F.one71:One TP 71:=⟨by unfold aggB;rw[Tryz.underlying71],by rw[Tryz.underlying71];simp⟩
theorem F.pl73:Places TP 73 [(0,1),(1,1),(2,1)]:=.inl ⟨_,Tryz.underlying73,by kernel_rfl⟩
theorem F.ti73:TI TP 73 (.agg #[.slice none 0 0,.int .i64 0,.int .u64 0]) 3 40:=TI.of kr
theorem jEv (hC:C.P=TP) {hb tk st nc:Nat} {nA:Option Addr} {nums:List Int} (hB:C.w0.heap.size=C.B) (hN:RdL icell 1 C.w0 nA nums) (htk:tk<=1000000) (hst:st<18446744073709551616) (ha:At C fr (.blk hb (.cells #[.slice nA nums.length nc,.int .i64 (tk:Int),.int .u64 (st:Int)] 73 (0,0))::T) a w):Calls C.P 61 #[pt hb] w fun e w'=>∃st' x:Nat,st'<18446744073709551616∧x<18446744073709551616∧e=.returned (.int .u64 (x:Int))∧At C fr (.blk hb (.cells #[.slice nA nums.length nc,.int .i64 ((tk+1:Nat):Int),.int .u64 (st':Int)] 73 (0,0))::T) a w':=by
 obtain⟨P,B,w0,N0,ds⟩:=C;obtain rfl:P=TP:=hC;(try dsimp only at hB);(try dsimp only at hN);refine yW (N:=75) [(0,pt hb)] ha Tryz.func61 J Tryz.ntmps61 J J (csr (lax J J (csr (zA J J (xO J J (zI J J F.fi73_1 F.ti3 (zS J J F.one3 ?_)))))));obtain⟨v9,hv9,ev9⟩:=zB4 (tk:Int);refine zCn J J Tryz.underlying3 Tryz.underlying71 ev9 ?_;obtain⟨v10,hv10,ev10⟩:=zB4 ((v9:Int)+1);refine zE J J J (fun w=>zAw w ev10) (lax J J (zG (zG (jS [] F.follows 10 J (fl 10) J (anm 0 J J J (zC 1 J J J (qD J) (zC 2 J J J (zP J F.fi73_1 F.ti3) (zC 3 J J J (jJ J F.one3) (anm 4 J J J (zC 5 J J J (qD J) (zC 6 J J J (zP J F.fi73_0 F.ti23) (zC 7 J J J (jJ J F.one23) (zC 8 J J J (vQ J U23) (zC 9 J J J (kW J J jY) ?_))))))))))))))
 refine adn (zD (qF (G:=Nat) (fun q=>q<18446744073709551616) (fun q=>[(0,pt hb),(2,.int .u64 0),(3,.int .u64 (q:Int))]) (fun _=>.blk hb (.cells #[.slice nA nums.length nc,.int .i64 (tk:Int),.int .u64 (st:Int)] 73 (0,0))::T) ?_ ?_))
 ·refine zK J (fun hc0=>?_) (fun hc0=>?_)
  ·have hk':tk<nums.length:=om;obtain⟨b,o,hAe,hb',hcell⟩:=hN om;obtain⟨x,hx⟩:∃x,nums[tk]?=some x:=⟨_,List.getElem?_eq_getElem hk'⟩;obtain⟨v32,hv32,ev32⟩:=zB4 x;obtain⟨v33,hv33,ev33⟩:=zB4 ((v32:Int)*13787848793156543929);exact jS [] F.follows 15 J (fl 15) J (anm 0 J J J (anm 1 J J J (zC 2 J J J (qD J) (zC 3 J J J (zP J F.fi73_0 F.ti23) (zC 4 J J J (jJ J F.one23) (anm 5 J J J (zC 6 J J J (qD J) (zC 7 J J J (zP J F.fi73_1 F.ti3) (zC 8 J J J (jJ J F.one3) (zC 9 J J J (jG (j:=tk) (show _=some (Value.slice (some ⟨b,o,none⟩) nums.length nc) from by rw[<-hAe];rfl) J Tryz.underlying23 F.ti3 J hk') (zC 10 J J J (jC (v:=.int .i64 x) J F.one3 (fun a w ha=>ha.old (hcell tk x hx 0 _ J) (Nat.lt_of_lt_of_le hb' (Nat.le_of_eq hB)))) (an1 11 J (zCn J J Tryz.underlying3 Tryz.underlying71 ev32 (zB (anb (an1 12 J (zE J J J (fun w=>zDq w ev33) (zB (anb (an1 13 J (zE J J J (fun w=>zDl w (zDk v10 v33 hv10 hv33)) (zB (anb (zC 14 J J J (jP J) (adn (jK (v10 ^^^ v33) (xor64 hv10 hv33) sbn pkk))))))))))))))))))))))))))
  ·exact zO (jK v10 hv10 sbn pkk)
 ·rintro q hq;(try dsimp only);refine zD (csr (zA J J (xO J J (zI J J F.fi73_1 F.ti3 (zS J J F.one3 (zE J J J (fun w=>zAw w (show IntKind.i64.wrap ((tk:Int)+1)=((tk+1:Nat):Int) from kC _ om om)) (xO J J (zI J J F.fi73_1 F.ti3 (zH J J F.ti3 J (lnx (csr (zA J J (zA J J (xO J J (zI J J F.fi73_2 F.ti71 (zS J J F.one71 (zA J J (zE J J J (fun w=>zDl w (zDk st q hst hq)) ?_))))))))))))))))));obtain⟨v49,hv49,ev49⟩:=zB4 (((st ^^^ q:Nat):Int)*10723151780598845931);refine zE J J J (fun w=>zDq w ev49) (xO J J (zI J J F.fi73_2 F.ti71 (zH J J F.ti71 J ?_)))
  refine lnx (zG (qF (G:=Nat) (fun s2=>s2<18446744073709551616) (fun s2=>[(0,pt hb),(2,.int .u64 0)]) (fun s2=>.blk hb (.cells #[.slice nA nums.length nc,.int .i64 ((tk+1:Nat):Int),.int .u64 (s2:Int)] 73 (0,0))::T) ?_ ?_))
  ·refine jS [.b hb] F.follows 14 J (fl 14) J (anm 0 J J J (anm 1 J J J (zC 2 J J J (qD J) (zC 3 J J J (zP J F.fi73_2 F.ti71) (anm 5 J J J (zC 6 J J J (qD J) (zC 7 J J J (zP J F.fi73_2 F.ti71) ?_)))))))
   refine qG 4 8 kr J J J J ?_ ?_
   ·exact zS J J F.one71 (zB (anb (an1 8 J (zS J J F.one71 (zB (anb (an1 9 J (zDi J J J om (zDy v49 31 _) (zB (anb (an1 10 J (zE J J J (fun w=>zDl w (zDk v49 (v49 >>> (min 31 64)) hv49 (shr64 _ hv49))) (zB (anb (zC 11 J J J (qD J) (zC 12 J J J (zP J F.fi73_2 F.ti71) (an1 13 J (zH J J F.ti71 J (zB (anb (adn (jK (v49 ^^^ (v49 >>> (min 31 64))) (xor64 hv49 (shr64 _ hv49)) sbn pkk))))))))))))))))))))))
   ·refine zS J J F.one71 ?_
    refine zB (anb (qG 4 9 kr J J J J ?_ ?_))
    ·exact zS J J F.one71 (zB (anb (an1 9 J (zDi J J J om (zDy v49 31 _) (zB (anb (an1 10 J (zE J J J (fun w=>zDl w (zDk v49 (v49 >>> (min 31 64)) hv49 (shr64 _ hv49))) (zB (anb (zC 11 J J J (qD J) (zC 12 J J J (zP J F.fi73_2 F.ti71) (an1 13 J (zH J J F.ti71 J (zB (anb (adn (jK (v49 ^^^ (v49 >>> (min 31 64))) (xor64 hv49 (shr64 _ hv49)) sbn pkk))))))))))))))))))
    ·exact zDi J J J om (zDy v49 31 _) (zB (anb (an1 4 J (zS J J F.one71 (zB (anb (an1 10 J (zE J J J (fun w=>zDl w (zDk v49 (v49 >>> (min 31 64)) hv49 (shr64 _ hv49))) (zB (anb (zC 11 J J J (qD J) (zC 12 J J J (zP J F.fi73_2 F.ti71) (an1 13 J (zH J J F.ti71 J (zB (anb (adn (jK (v49 ^^^ (v49 >>> (min 31 64))) (xor64 hv49 (shr64 _ hv49)) sbn pkk))))))))))))))))))
  ·rintro s2 hs2;(try dsimp only);refine zD (zG (zL ?_));obtain⟨v69,hv69,ev69⟩:=zB4 ((s2:Int)*15485907386658061715);exact zA J J (xO J J (zI J J F.fi73_2 F.ti71 (zS J J F.one71 (zE J J J (fun w=>zDq w ev69) (lax J J (csr (zA J J (zA J J (zDi J J J om (zDy v69 32 _) (zE J J J (fun w=>zDl w (zDk v69 (v69 >>> (min 32 64)) hv69 (shr64 _ hv69))) (zDi J J J om (zDy (v69 ^^^ (v69 >>> (min 32 64))) 9 _) (lax J J (zV (zX J (rsO J J) (fun _ _ ha'=>⟨s2,_,hs2,shr64 _ (xor64 hv69 (shr64 _ hv69)),rfl,ha.back (ha'.pck pkk)⟩)))))))))))))))

theorem To_c (hC:C.P=TP) {hb tk st nc:Nat} {nA:Option Addr} {nums:List Int} (hB:C.w0.heap.size=C.B) (hN:RdL icell 1 C.w0 nA nums) (htk:tk<=1000000) (hst:st<18446744073709551616) {n:Int} (hn:n<=1000000)  (ha:At C fr (.blk hb (.cells #[.slice nA nums.length nc,.int .i64 (tk:Int),.int .u64 (st:Int)] 73 (0,0))::T) a w):Calls C.P 21 #[pt hb,.int .i64 n] w fun e w'=>∃st' x:Nat,st'<18446744073709551616∧x<=n.toNat∧e=.returned (.int .i64 (x:Int))∧At C fr (.blk hb (.cells #[.slice nA nums.length nc,.int .i64 ((tk+1:Nat):Int),.int .u64 (st':Int)] 73 (0,0))::T) a w':=by
 obtain⟨P,B,w0,N0,ds⟩:=C;obtain rfl:P=TP:=hC;(try dsimp only at hB);(try dsimp only at hN);refine yW (N:=16) [(0,pt hb),(1,.int .i64 n)] ha Tryz.func21 J Tryz.ntmps21 J J (csr (lax J J (csr (zA J J (xT (X:=Nat×Nat) (first:=[]) (cap:=[]) (vs:=[_]) (p:=fun y=>y.1<18446744073709551616∧y.2<18446744073709551616) (val:=fun y=>.int .u64 (y.2:Int)) (rs:=fun y=>.blk hb (.cells #[.slice nA nums.length nc,.int .i64 ((tk+1:Nat):Int),.int .u64 (y.1:Int)] 73 (0,0))::T) J J J F.ent61 (fun a w ha=>(jEv (C:=⟨TP,B,w0,_,_⟩) J hB hN htk hst ha).mono (fun e w' h=>by obtain⟨s',x,h1,h2,h3,h4⟩:=h;exact⟨(s',x),⟨h1,h2⟩,h3,h4⟩)) ?_)))));rintro⟨s1,x⟩ ⟨hs1,hx⟩;dsimp only at hs1 hx ⊢;refine lax J J (zG (csr (zA J J (zE J J J jY ?_))))
 refine lnx (zK J (fun hc0=>?_) (fun hc0=>?_))
 ·exact csr (lax J J (zV (zU (zX J (rsO J J) (fun _ _ ha'=>⟨s1,0,hs1,Nat.zero_le _,rfl,ha.back (ha'.pck pkk)⟩)))))
 ·obtain⟨m,rfl⟩:=Int.eq_ofNat_of_zero_le (show 0<=n by omega);refine zO (zD (csr (zA J J (zA J J (zCn J J Tryz.underlying3 Tryz.underlying71 (zI8 m om) (zE J J J (fun w=>zAw w (zNc om)) (zE J J J (fun w=>jBc w om (zXc x (m+1))) ?_)))))));have hmod:x%(m+1)<m+1:=Nat.mod_lt _ om;exact zCn J J Tryz.underlying71 Tryz.underlying3 (kC _ om om) (lax J J (zV (zX J (rsO J J) (fun _ _ ha'=>⟨s1,x%(m+1),hs1,by rw[Int.toNat_natCast];omega,rfl,ha.back (ha'.pck pkk)⟩))))

theorem vP [hq:Pul hb (hatO nA nums.length nc tk st) hp T]
  (hP:C.P=TP) (hd:Nat.blt d C.N=true) (hargs:args.toList.map (ev fr)=([pt hb,.int .i64 n]:List Value).map some) (hB:C.w0.heap.size=C.B) (hN:RdL icell 1 C.w0 nA nums) (hst:st<18446744073709551616) (htk:tk<=1000000) (hn:n<=1000000)
  (k:∀(s x:Nat),s<18446744073709551616->x<=n.toNat->Lst C ops Q rest ((d,.int .i64 (x:Int))::fr) (.blk hb (hatO nA nums.length nc (tk+1) s)::T)):Lst C ops Q (⟨some d,.call {callee:=.value (.func 21),args:=args,argTypes:=ts},ty,pos,after,none⟩::rest) fr hp:=by
 refine zAr (X:=Nat×Nat) hb (fun y=>hatO nA nums.length nc (tk+1) y.1) (fun y=>y.1<18446744073709551616∧y.2<=n.toNat) (fun y=>.int .i64 (y.2:Int)) hd hargs (hP▸F.ent21) (fun a w ha=>(To_c hP hB hN htk hst hn ha).mono fun e w' h=>?_) fun y hy=>k y.1 y.2 hy.1 hy.2;obtain⟨s',x,h1,h2,h3,h4⟩:=h;exact⟨(s',x),⟨h1,h2⟩,h3,h4⟩

theorem jE3 (hC:C.P=TP) {hb tk st nc:Nat} {nA:Option Addr} {nums:List Int} (hB:C.w0.heap.size=C.B) (hN:RdL icell 1 C.w0 nA nums) (htk:tk<=1000000) (hst:st<18446744073709551616) {lo hi:Nat} (hlh:lo<=hi) (hhi:hi<=1000) (ha:At C fr (.blk hb (hatO nA nums.length nc (tk) (st))::T) a w):Calls C.P 60 #[pt hb,.int .i64 (lo:Int),.int .i64 (hi:Int)] w fun e w'=>∃st' x:Nat,st'<18446744073709551616∧lo<=x∧x<=hi∧e=.returned (.int .i64 (x:Int))∧At C fr (.blk hb (hatO nA nums.length nc (tk+1) (st'))::T) a w':=by
 obtain⟨P,B,w0,N0,ds⟩:=C;obtain rfl:P=TP:=hC;(try dsimp only at hB);(try dsimp only at hN);refine yW (N:=14) [(0,pt hb),(1,.int .i64 (lo:Int)),(2,.int .i64 (hi:Int))] ha Tryz.func60 J Tryz.ntmps60 J J (csr (lax J J (csr (zA J J (zA J J (zA J J (zA J J (zE J J J (fun w=>qK w (kC ((hi:Int)-(lo:Int)) om om)) (vP J J J hB hN hst om om ?_)))))))));rintro s1 x1 hs1 hx1;exact zE J J J (fun w=>zAw w (show IntKind.i64.wrap ((lo:Int)+(x1:Int))=((lo+x1:Nat):Int) from kC _ om om)) (lax J J (zV (zX J (rsO J J) (fun _ _ ha'=>⟨s1,lo+x1,hs1,by omega,by omega,rfl,ha.back (ha'.pck pkk)⟩))))

theorem zN7 {lo hi:Nat} [hq:Pul hb (hatO nA nums.length nc tk st) hp T]
  (hP:C.P=TP) (hd:Nat.blt d C.N=true) (hargs:args.toList.map (ev fr)=([pt hb,.int .i64 (lo:Int),.int .i64 (hi:Int)]:List Value).map some) (hB:C.w0.heap.size=C.B) (hN:RdL icell 1 C.w0 nA nums) (hst:st<18446744073709551616) (htk:tk<=1000000) (hlh:lo<=hi) (hhi:hi<=1000)
  (k:∀(s x:Nat),s<18446744073709551616->lo<=x->x<=hi->Lst C ops Q rest ((d,.int .i64 (x:Int))::fr) (.blk hb (hatO nA nums.length nc (tk+1) s)::T)):Lst C ops Q (⟨some d,.call {callee:=.value (.func 60),args:=args,argTypes:=ts},ty,pos,after,none⟩::rest) fr hp:=by
 refine zAr (X:=Nat×Nat) hb (fun y=>hatO nA nums.length nc (tk+1) y.1) (fun y=>y.1<18446744073709551616∧lo<=y.2∧y.2<=hi) (fun y=>.int .i64 (y.2:Int)) hd hargs (hP▸F.ent60) (fun a w ha=>(jE3 hP hB hN htk hst hlh hhi ha).mono fun e w' h=>?_) fun y hy=>k y.1 y.2 hy.1 hy.2.1 hy.2.2;obtain⟨s',x,h1,h2,h3,h4,h5⟩:=h;exact⟨(s',x),⟨h1,h2,h3⟩,h4,h5⟩

theorem zXv (hC:C.P=TP) {hb tk st nc:Nat} {nA:Option Addr} {nums:List Int} (hB:C.w0.heap.size=C.B) (hN:RdL icell 1 C.w0 nA nums) (htk:tk<=1000000) (hst:st<18446744073709551616) {n:Int} (hn0:0<=n) (hn:n<=1000000) (ha:At C fr (.blk hb (hatO nA nums.length nc (tk) (st))::T) a w):Calls C.P 54 #[pt hb,.int .i64 n] w fun e w'=>∃(st':Nat) (b:Bool),st'<18446744073709551616∧e=.returned (.bool b)∧At C fr (.blk hb (hatO nA nums.length nc (tk+1) (st'))::T) a w':=by
 obtain⟨P,B,w0,N0,ds⟩:=C;obtain rfl:P=TP:=hC;(try dsimp only at hB);(try dsimp only at hN);refine yW (N:=10) [(0,pt hb),(1,.int .i64 n)] ha Tryz.func54 J Tryz.ntmps54 J J (csr (lax J J (csr (zA J J (zA J J (zE J J J (fun w=>qK w (kC (n-1) om om)) (vP J J J hB hN hst om om ?_)))))));rintro s1 x1 hs1 hx1;exact zE J J J kD (lax J J (zV (zX J (rsO J J) (fun _ _ ha'=>⟨s1,_,hs1,rfl,ha.back (ha'.pck pkk)⟩))))

theorem zB2 [hq:Pul hb (hatO nA nums.length nc tk st) hp T]
  (hP:C.P=TP) (hd:Nat.blt d C.N=true) (hargs:args.toList.map (ev fr)=([pt hb,.int .i64 n]:List Value).map some) (hB:C.w0.heap.size=C.B) (hN:RdL icell 1 C.w0 nA nums) (hst:st<18446744073709551616) (htk:tk<=1000000) (hn0:0<=n) (hn:n<=1000000)
  (k:∀(s:Nat) (b:Bool),s<18446744073709551616->Lst C ops Q rest ((d,.bool b)::fr) (.blk hb (hatO nA nums.length nc (tk+1) s)::T)):Lst C ops Q (⟨some d,.call {callee:=.value (.func 54),args:=args,argTypes:=ts},ty,pos,after,none⟩::rest) fr hp:=by
 refine zAr (X:=Nat×Bool) hb (fun y=>hatO nA nums.length nc (tk+1) y.1) (fun y=>y.1<18446744073709551616) (fun y=>.bool y.2) hd hargs (hP▸F.ent54) (fun a w ha=>(zXv hP hB hN htk hst hn0 hn ha).mono fun e w' h=>?_) fun y hy=>k y.1 y.2 hy;obtain⟨s',x,h1,h2,h3⟩:=h;exact⟨(s',x),h1,h2,h3⟩

theorem jF0 (hC:C.P=TP) {hb tk st nc:Nat} {nA:Option Addr} {nums:List Int} (hB:C.w0.heap.size=C.B) (hN:RdL icell 1 C.w0 nA nums) (htk:tk<=1000000) (hst:st<18446744073709551616) {lb lc:Nat} {l:List Nat} (hl1:1<=l.length) (hl2:l.length<=100) (hm:Res.blk lb (.cells (ints l).toArray 3 (0,0))∈T) (ha:At C fr (.blk hb (hatO nA nums.length nc (tk) (st))::T) a w):Calls C.P 59 #[pt hb,.slice (some ⟨lb,0,none⟩) l.length lc] w fun e w'=>∃st' x:Nat,st'<18446744073709551616∧x∈l∧e=.returned (.int .i64 (x:Int))∧At C fr (.blk hb (hatO nA nums.length nc (tk+1) (st'))::T) a w':=by
 obtain⟨P,B,w0,N0,ds⟩:=C;obtain rfl:P=TP:=hC;(try dsimp only at hB);(try dsimp only at hN);refine yW (N:=13) [(0,pt hb),(1,.slice (some ⟨lb,0,none⟩) l.length lc)] ha Tryz.func59 J Tryz.ntmps59 J J (csr (lax J J (csr (zA J J (zA J J (zA J J (jR J J U23 (zE J J J (fun w=>qK w (kC ((l.length:Int)-1) om om)) (vP J J J hB hN hst om om ?_)))))))));rintro s1 x1 hs1 hx1;have hx:x1<l.length:=om;exact jO (j:=x1) J J J Tryz.underlying23 F.ti3 J hx (jM (v:=.int .i64 ((l.getD x1 0:Nat):Int)) J J F.one3 (fun a w ha=>by rw[Nat.zero_add,Nat.mul_one];exact qY (ha.mem_blk (List.mem_cons_of_mem _ hm)) (zXo hx)) (lax J J (zV (zX J (rsO J J) (fun _ _ ha'=>⟨s1,l.getD x1 0,hs1,zYf hx,rfl,ha.back (ha'.pck pkk)⟩)))))

theorem wD (l:List Nat) {lb lc:Nat} [hq:Pul hb (hatO nA nums.length nc tk st) hp T]
  (hP:C.P=TP) (hd:Nat.blt d C.N=true) (hargs:args.toList.map (ev fr)=([pt hb,.slice (some ⟨lb,0,none⟩) l.length lc]:List Value).map some) (hB:C.w0.heap.size=C.B) (hN:RdL icell 1 C.w0 nA nums) (hst:st<18446744073709551616) (htk:tk<=1000000) (hl1:1<=l.length) (hl2:l.length<=100) (hm:Res.blk lb (.cells (ints l).toArray 3 (0,0))∈T)
  (k:∀(s x:Nat),s<18446744073709551616->x∈l->Lst C ops Q rest ((d,.int .i64 (x:Int))::fr) (.blk hb (hatO nA nums.length nc (tk+1) s)::T)):Lst C ops Q (⟨some d,.call {callee:=.value (.func 59),args:=args,argTypes:=ts},ty,pos,after,none⟩::rest) fr hp:=by
 refine zAr (X:=Nat×Nat) hb (fun y=>hatO nA nums.length nc (tk+1) y.1) (fun y=>y.1<18446744073709551616∧y.2∈l) (fun y=>.int .i64 (y.2:Int)) hd hargs (hP▸F.ent59) (fun a w ha=>(jF0 hP hB hN htk hst hl1 hl2 hm ha).mono fun e w' h=>?_) fun y hy=>k y.1 y.2 hy.1 hy.2;obtain⟨s',x,h1,h2,h3,h4⟩:=h;exact⟨(s',x),⟨h1,h2⟩,h3,h4⟩

theorem zZ2 (nA:Option Addr) (n nc:Nat) (w:World):Calls TP 13 #[.slice nA n nc] w fun e w'=>∃b,e=.returned (pt b)∧Grew w w' [.blk b (hatO nA n nc 0 11400714819323198485)]:=by
 refine enter (N:=6) [(0,.slice nA n nc)] Tryz.func13 J Tryz.ntmps13 J J (csr (lax J J (csr (zA J J (kM (vs:=[(0,_),(2,_)]) (l':=[_,_,_]) J J F.ti73 F.pl73 (.cons J J (.cons J J (.nil _))) J (jT J J ?_))))));intro b5;exact lax J J (zV (zX J (rsO J J) (fun a w ha=>⟨b5,rfl,ha.grown sbl⟩)))

end
section
variable [I:Sys]
section
variable {C:Ctx} {fr:LV} {hp hp':List Res} {a:Act} {w:World} {ops:Array Oper} {Q:QT} {rest:List Oper}
 {d:Nat} {ty:TypeId} {pos:String} {after:Array Edge}
theorem zBb {X:Type} (b:Nat) {o:Obj} (o':X->Obj) (rs:X->List Res) {T:List Res} {f:FuncId} {vs:List Value} {args:Array Operand} {ts:Array TypeId} (p:X->Prop) (val:X->Value) [hq:Pul b o hp T] (hd:Nat.blt d C.N=true)
  (hargs:args.toList.map (ev fr)=vs.map some) (hf:Enters C.P f)
  (hc:∀a w,At C fr (.blk b o::T) a w->Calls C.P f vs.toArray w fun e w'=>∃y,p y∧e=.returned (val y)∧At C fr (rs y++.blk b (o' y)::T) a w')
  (k:∀y,p y->Lst C ops Q rest ((d,val y)::fr) (rs y++.blk b (o' y)::T)):Lst C ops Q (⟨some d,.call {callee:=.value (.func f),args:=args,argTypes:=ts},ty,pos,after,none⟩::rest) fr hp:=by
 refine xT (first:=[]) (cap:=[]) (p:=p) (val:=val) (rs:=fun y=>rs y++.blk b (o' y)::T) hd J hargs hf (fun a w ha=>?_) k;simp only[List.nil_append,List.append_nil];exact hc a w (ha.permed hq.perm)
end
variable {C:Ctx} {T:List Res} {a:Act} {fr:LV} {w:World}
theorem F.ent19:Enters TP 19:=jD Tryz.func19 rfl kr
theorem F.ent20:Enters TP 20:=jD Tryz.func20 rfl kr
theorem zTv (hC:C.P=TP) {hb tk st nc:Nat} {nA:Option Addr} {nums:List Int} (hB:C.w0.heap.size=C.B) (hN:RdL icell 1 C.w0 nA nums) (htk:tk<=900000) (hst:st<18446744073709551616) (ha:At C fr (.blk hb (hatO nA nums.length nc (tk) (st))::T) a w):Calls C.P 20 #[pt hb] w fun e w'=>∃(tk' st':Nat) (f:Flt),tk'<=tk+10∧st'<18446744073709551616∧FltOk f∧e=.returned (.agg #[.int .i64 (f.power:Int),.int .i64 (f.gain:Int),.int .i64 (f.now:Int),.bool f.washed])∧At C fr (.blk hb (hatO nA nums.length nc (tk') (st'))::T) a w':=by
 obtain⟨P,B,w0,N0,ds⟩:=C;obtain rfl:P=TP:=hC;(try dsimp only at hB);(try dsimp only at hN);refine yW (N:=30) [(0,pt hb)] ha Tryz.func20 J Tryz.ntmps20 J J (csr (zW J F.ti27 ?_));intro b2;refine lnx (csr (zA J J (kB (vs:=[(0,_),(1,_),(2,_),(3,_),(4,_),(5,_)]) J J U23 F.ti3 J J J ?_)));intro b5;refine wD [1,2,2,3,3,4] J J J hB hN hst om (by simp) (by simp) (InB.mem (b:=b5)) ?_;rintro s1 pw hs1 hpw;simp only[List.mem_cons,List.not_mem_nil,or_false] at hpw;refine kM (vs:=[(0,_)]) (l':=[_,_,_,_]) J J F.ti27 F.pl27 (.cons J J (.nil _)) J (zW J F.ti27 ?_);intro b3;refine zH J J F.ti27 J ?_
 refine lnx (zG (qF (G:=Nat×Nat) (fun g=>g.1<18446744073709551616∧g.2<=pw) (fun g=>[(0,pt hb),(2,pt b2),(3,pt b3)]) (fun g=>.blk hb (hatO nA nums.length nc (tk+1+1+1) (g.1))::.blk b3 (.cells #[.int .i64 (pw:Int),.int .i64 (g.2:Int),.int .i64 (pw:Int),.bool false] 27 (0,0))::.blk b2 (.cells #[.int .i64 0,.int .i64 0,.int .i64 0,.bool false] 27 (0,0))::T) ?_ ?_))
 ·refine jS [.b b3,.b hb] F.follows 13 J (fl 13) J (anm 0 J J J (anm 1 J J J (zC 2 J J J (zP J F.fi27_0 F.ti3) (zC 7 J J J (zP J F.fi27_0 F.ti3) ?_))))
  refine qG 3 8 kr J J J J ?_ ?_
  ·refine zS J J F.one3 ?_
   refine zB (anb (qG 4 8 kr J J J J ?_ ?_))
   ·refine vP J J J hB hN hs1 om om ?_;rintro s2 g1 hs2 hg1
    refine zB (anb (qG 5 8 kr J J J J ?_ ?_))
    ·refine kB (vs:=[(0,_),(1,_),(2,_),(3,_)]) J J U23 F.ti3 J J J ?_;intro b13
     refine zB (anb (qG 6 8 kr J J J J ?_ ?_))
     ·refine wD [0,1,1,g1] J J J hB hN hs2 om (by simp) (by simp) (InB.mem (b:=b13)) ?_;rintro s3 gn hs3 hgn;simp only[List.mem_cons,List.not_mem_nil,or_false] at hgn;exact zB (anb (an1 8 J (zS J J F.one3 (zB (anb (zC 9 J J J (zP J F.fi27_1 F.ti3) (an1 10 J (zH J J F.ti3 J (zB (anb (zC 11 J J J (zP J F.fi27_2 F.ti3) (an1 12 J (zH J J F.ti3 J (zB (anb (adn (jK (s3,gn) ⟨hs3,by dsimp only;omega⟩ sbn pkk)))))))))))))))))
     ·refine zS J J F.one3 (zB (anb (an1 6 J (wD [0,1,1,g1] J J J hB hN hs2 om (by simp) (by simp) (InB.mem (b:=b13)) ?_))));rintro s3 gn hs3 hgn;simp only[List.mem_cons,List.not_mem_nil,or_false] at hgn;exact zB (anb (zC 9 J J J (zP J F.fi27_1 F.ti3) (an1 10 J (zH J J F.ti3 J (zB (anb (zC 11 J J J (zP J F.fi27_2 F.ti3) (an1 12 J (zH J J F.ti3 J (zB (anb (adn (jK (s3,gn) ⟨hs3,by dsimp only;omega⟩ sbn pkk)))))))))))))
    ·refine zS J J F.one3 (zB (anb (an1 5 J (kB (vs:=[(0,_),(1,_),(2,_),(3,_)]) J J U23 F.ti3 J J J ?_))));intro b13;refine zB (anb (an1 6 J (wD [0,1,1,g1] J J J hB hN hs2 om (by simp) (by simp) (InB.mem (b:=b13)) ?_)));rintro s3 gn hs3 hgn;simp only[List.mem_cons,List.not_mem_nil,or_false] at hgn;exact zB (anb (zC 9 J J J (zP J F.fi27_1 F.ti3) (an1 10 J (zH J J F.ti3 J (zB (anb (zC 11 J J J (zP J F.fi27_2 F.ti3) (an1 12 J (zH J J F.ti3 J (zB (anb (adn (jK (s3,gn) ⟨hs3,by dsimp only;omega⟩ sbn pkk)))))))))))))
   ·refine zS J J F.one3 (zB (anb (an1 4 J (vP J J J hB hN hs1 om om ?_))));rintro s2 g1 hs2 hg1;refine zB (anb (an1 5 J (kB (vs:=[(0,_),(1,_),(2,_),(3,_)]) J J U23 F.ti3 J J J ?_)));intro b13;refine zB (anb (an1 6 J (wD [0,1,1,g1] J J J hB hN hs2 om (by simp) (by simp) (InB.mem (b:=b13)) ?_)));rintro s3 gn hs3 hgn;simp only[List.mem_cons,List.not_mem_nil,or_false] at hgn;exact zB (anb (zC 9 J J J (zP J F.fi27_1 F.ti3) (an1 10 J (zH J J F.ti3 J (zB (anb (zC 11 J J J (zP J F.fi27_2 F.ti3) (an1 12 J (zH J J F.ti3 J (zB (anb (adn (jK (s3,gn) ⟨hs3,by dsimp only;omega⟩ sbn pkk)))))))))))))
  ·refine zS J J F.one3 (zB (anb (an1 3 J (zS J J F.one3 (zB (anb (an1 4 J (vP J J J hB hN hs1 om om ?_))))))));rintro s2 g1 hs2 hg1;refine zB (anb (an1 5 J (kB (vs:=[(0,_),(1,_),(2,_),(3,_)]) J J U23 F.ti3 J J J ?_)));intro b13;refine zB (anb (an1 6 J (wD [0,1,1,g1] J J J hB hN hs2 om (by simp) (by simp) (InB.mem (b:=b13)) ?_)));rintro s3 gn hs3 hgn;simp only[List.mem_cons,List.not_mem_nil,or_false] at hgn;exact zB (anb (zC 9 J J J (zP J F.fi27_1 F.ti3) (an1 10 J (zH J J F.ti3 J (zB (anb (zC 11 J J J (zP J F.fi27_2 F.ti3) (an1 12 J (zH J J F.ti3 J (zB (anb (adn (jK (s3,gn) ⟨hs3,by dsimp only;omega⟩ sbn pkk)))))))))))))
 ·rintro⟨s3,gn⟩ ⟨hs3,hgn⟩;dsimp only at hs3 hgn ⊢;refine zD (zG (csr (zA J J (zB2 J J J hB hN hs3 om om om ?_))));rintro s4 sb hs4
  refine lnx (kH J (fun hc0=>?_) (fun hc0=>?_))
  ·refine zL (zA J J (zI J J F.fi27_0 F.ti3 (zS J J F.one3 (vP J J J hB hN hs4 om om ?_))));rintro s5 nw hs5 hnw;refine zI J J F.fi27_2 F.ti3 (zH J J F.ti3 J (lnx (csr (zA J J (zB2 J J J hB hN hs5 om om om ?_)))));rintro s6 wb hs6;exact zI J J F.fi27_3 F.ti4 (zH J J F.ti4 J (lnx (csr (zZ J J F.agg27 F.ti27 (zH J J F.ti27 J (lnx (zV (zX J (fun a w ha=>by exact xC (ha:=ha) J J F.agg27 F.ti27 J) (fun _ _ ha'=>⟨tk+1+1+1+1+1+1,s6,⟨pw,gn,nw,wb⟩,by omega,hs6,⟨by show 1<=pw;omega,by show pw<=4;omega,by show gn<=pw;omega,by show nw<=pw;omega⟩,rfl,ha.back (ha'.pck pkk)⟩)))))))))
  ·refine zO (zD (csr (zA J J (zB2 J J J hB hN hs4 om om om ?_))));rintro s6 wb hs6;exact zI J J F.fi27_3 F.ti4 (zH J J F.ti4 J (lnx (csr (zZ J J F.agg27 F.ti27 (zH J J F.ti27 J (lnx (zV (zX J (fun a w ha=>by exact xC (ha:=ha) J J F.agg27 F.ti27 J) (fun _ _ ha'=>⟨tk+1+1+1+1+1,s6,⟨pw,gn,pw,wb⟩,by omega,hs6,⟨by show 1<=pw;omega,by show pw<=4;omega,by show gn<=pw;omega,by show pw<=pw;omega⟩,rfl,ha.back (ha'.pck pkk)⟩)))))))))

theorem zP7 (hC:C.P=TP) {hb tk st nc:Nat} {nA:Option Addr} {nums:List Int} (hB:C.w0.heap.size=C.B) (hN:RdL icell 1 C.w0 nA nums) (htk:tk<=800000) (hst:st<18446744073709551616) {nf ny:Nat} (hf1:1<=nf) (hf3:nf<=3) (hy1:1<=ny) (hy4:ny<=4) (ha:At C fr (.blk hb (hatO nA nums.length nc (tk) (st))::T) a w):Calls C.P 19 #[pt hb,.int .i64 (nf:Int),.int .i64 (ny:Int)] w fun e w'=>∃(tk' st' kiln:Nat) (fs:List Flt) (days:List Nat) (A D:Option Addr) (c dc:Nat),tk'<=tk+100∧st'<18446744073709551616∧fs.length<=nf∧days.length<=ny∧ChV fs kiln days∧e=.returned (.agg #[.slice A fs.length c,.int .i64 (kiln:Int),.slice D days.length dc])∧At C fr (.row 27 4 A fs.length c (fs.flatMap Flt.cells)::.row 3 1 D days.length dc (ints days)::.blk hb (hatO nA nums.length nc (tk') (st'))::T) a w':=by
 obtain⟨P,B,w0,N0,ds⟩:=C;obtain rfl:P=TP:=hC;(try dsimp only at hB);(try dsimp only at hN);refine yW (N:=59) [(0,pt hb),(1,.int .i64 (nf:Int)),(2,.int .i64 (ny:Int))] ha Tryz.func19 J Tryz.ntmps19 J J (csr (zW J F.ti25 ?_));intro b6;refine lnx (csr (zA J J (kB (vs:=[(0,_),(1,_),(2,_),(3,_)]) J J U23 F.ti3 J J J ?_)));intro b13;refine wD [0,1,1,2] J J J hB hN hst om (by simp) (by simp) (InB.mem (b:=b13)) ?_;rintro s0 kiln hs0 hkiln;simp only[List.mem_cons,List.not_mem_nil,or_false] at hkiln;refine kM (vs:=[(1,_)]) (l':=[_,_,_]) J J F.ti25 F.pl25 (.cons J J (.nil _)) J (zW J F.ti25 ?_);intro b7;refine zH J J F.ti25 J (lnx (csr (lax J J (zG (csr (zA J J (zA J J (zN7 (lo:=1) (hi:=nf) J J J hB hN hs0 om om om ?_))))))));rintro s1 n0 hs1 hn0a hn0b;refine lax J J (zQ (wK 27 4 (qU (G:=Nat×Nat×Nat×Option Addr×Nat×List Flt×Nat) (fun g=>g.1+g.2.2.2.2.2.1.length=n0∧(∀x∈g.2.2.2.2.2.1,FltOk x)∧g.2.1<=tk+2+10*g.2.2.2.2.2.1.length∧g.2.2.1<18446744073709551616∧g.2.2.2.2.2.2<=4*g.2.2.2.2.2.1.length) (fun g=>g.1) (fun g=>[(0,pt hb),(1,.int .i64 (nf:Int)),(2,.int .i64 (ny:Int)),(6,pt b6),(7,pt b7),(8,.int .i64 (g.2.2.2.2.2.2:Int)),(9,.int .i64 (g.1:Int))]) (fun g=>.row 27 4 g.2.2.2.1 g.2.2.2.2.2.1.length g.2.2.2.2.1 (g.2.2.2.2.2.1.flatMap Flt.cells)::.blk b7 (.cells #[.slice g.2.2.2.1 g.2.2.2.2.2.1.length g.2.2.2.2.1,.int .i64 (kiln:Int),.slice none 0 0] 25 (0,0))::.blk b6 (.cells #[.slice none 0 0,.int .i64 0,.slice none 0 0] 25 (0,0))::.blk hb (hatO nA nums.length nc (g.2.1) (g.2.2.1))::T) (n0,tk+1+1,s1,none,0,[],0) ⟨by simp,by simp,by simp,hs1,by simp⟩ sbn pkk ?_)));rintro⟨i,t1,s2,A1,c1,fs,sm⟩ ⟨hil,hlo,ht1,hs2,hsm⟩;(try dsimp only at hil hlo ht1 hs2 hsm ⊢);refine zG (csr (zA J J (zE J J J wM ?_)))
 refine lnx (zK J (fun hc0=>?_) (fun hc0=>?_))
 ·obtain⟨i,rfl⟩:∃i',i=i'+1:=⟨i-1,by omega⟩;refine zO (zD (zG (zQ (csr (zA J J (zAr (X:=Nat×Nat×Flt) (vs:=[_]) hb (fun y=>hatO nA nums.length nc (y.1) (y.2.1)) (fun y=>y.1<=t1+10∧y.2.1<18446744073709551616∧FltOk y.2.2) (fun y=>.agg #[.int .i64 (y.2.2.power:Int),.int .i64 (y.2.2.gain:Int),.int .i64 (y.2.2.now:Int),.bool y.2.2.washed]) J J F.ent20 (fun a w ha=>(zTv (C:=⟨TP,B,w0,_,_⟩) J hB hN (tk:=t1) (st:=s2) om hs2 ha).mono (fun e w' h=>by obtain⟨t',s',x,h1,h2,h3,h4,h5⟩:=h;exact⟨(t',s',x),⟨h1,h2,h3⟩,h4,h5⟩)) ?_))))));rintro⟨t2,s3,⟨pw,gn,nw,wd⟩⟩ ⟨ht2,hs3,hfo⟩;dsimp only at ht2 hs3 hfo ⊢;refine zW J F.ti27 ?_;intro b10;refine zH J J F.ti27 J ?_
  refine lnx (qF (G:=Option Addr×Nat) (fun _=>True) (fun x=>[(0,pt hb),(1,.int .i64 (nf:Int)),(2,.int .i64 (ny:Int)),(6,pt b6),(7,pt b7),(8,.int .i64 ((sm+pw:Nat):Int)),(9,.int .i64 ((i+1:Nat):Int))]) (fun x=>.row 27 4 x.1 (fs.length+1) x.2 (fs.flatMap Flt.cells++(CF pw gn nw wd))::.blk b7 (.cells #[.slice x.1 (fs.length+1) x.2,.int .i64 (kiln:Int),.slice none 0 0] 25 (0,0))::.blk b6 (.cells #[.slice none 0 0,.int .i64 0,.slice none 0 0] 25 (0,0))::.blk hb (hatO nA nums.length nc (t2) (s3))::T) ?_ ?_)
  ·refine jS [.b b7,.r A1] F.follows 12 J (fl 12) J ?_;have hpw4:pw<=4:=hfo.2.1;refine zC 0 J J J (zP J F.fi25_0 F.ti22) (zC 2 J J J (kR J F.agg27 F.ti27) (anm 5 J J J (zC 6 J J J (zP J F.fi27_0 F.ti3) (zC 7 J J J (jJ J F.one3) (zC 8 J J J (kW (v:=.int .i64 ((sm+pw:Nat):Int)) J J bdO) ?_)))))
   refine qG 1 3 kr J J J J ?_ ?_
   ·refine zS J J F.one22 (zB (anb (an1 3 J (yV (vs:=[(0,.agg ((CF pw gn nw wd):List Value).toArray)]) (CF pw gn nw wd) J J U22 F.ti27 J J J (Lit.agg (l1:=(CF pw gn nw wd)) (l:=[]) J J) ?_))));intro b28;refine zB (anb (an1 4 J (kI J J J Tryz.underlying22 F.ti27 J J J (by unfold maxLen;omega) om ?_)));intro A2 c2;exact zB (anb (zC 9 J J J (zP J F.fi25_0 F.ti22) (an1 10 J (zH J J F.ti22 J (zB (anb (zC 11 J J J (jP J) (adn (jK (A2,c2) trivial sbn pkk)))))))))
   ·refine yV (vs:=[(0,.agg ((CF pw gn nw wd):List Value).toArray)]) (CF pw gn nw wd) J J U22 F.ti27 J J J (Lit.agg (l1:=(CF pw gn nw wd)) (l:=[]) J J) ?_;intro b28;refine zB (anb (an1 1 J (zS J J F.one22 (zB (anb (an1 4 J (kI J J J Tryz.underlying22 F.ti27 J J J (by unfold maxLen;omega) om ?_)))))));intro A2 c2;exact zB (anb (zC 9 J J J (zP J F.fi25_0 F.ti22) (an1 10 J (zH J J F.ti22 J (zB (anb (zC 11 J J J (jP J) (adn (jK (A2,c2) trivial sbn pkk)))))))))
  ·rintro⟨A2,c2⟩ -;have hpw4:pw<=4:=hfo.2.1;(try dsimp only);refine zJ (zD (zL (zA J J (zE J J J (fun w=>qK w (show IntKind.i64.wrap (((i+1:Nat):Int)-1)=(i:Int) from by rw[kC _ om om];omega)) (zF J J (zB (kS (i,t2,s3,A2,c2,fs++[⟨pw,gn,nw,wd⟩],sm+pw) ⟨by simp;omega,fun y hy=>?_,by simp;omega,hs3,by simp;omega⟩ tdo (by dsimp only;(try rw[List.length_append,List.length_singleton]);exact sbn) (by dsimp only;rw[List.length_append,List.length_singleton];rw[List.flatMap_append,List.flatMap_singleton];exact pkk))))))))
   rcases List.mem_append.1 hy with h|h
   ·exact hlo y h
   ·simp at h;subst h;exact hfo
 ·obtain rfl:i=0:=om;have hn0:fs.length=n0:=om;have hfl1:1<=fs.length:=om;have hfl2:fs.length<=nf:=om;refine jV (zN (zN (zY (zD (zG (csr (zA J J (zA J J (zN7 (lo:=1) (hi:=ny) J J J hB hN hs2 om om om ?_)))))))));rintro s4 m0 hs4 hm0a hm0b;refine lax J J (zQ (wK 3 1 (qU (G:=Nat×Nat×Nat×Option Addr×Nat×List Nat) (fun g=>g.1+g.2.2.2.2.2.length=m0∧(∀x∈g.2.2.2.2.2,x<=12)∧g.2.1<=t1+1+3*g.2.2.2.2.2.length∧g.2.2.1<18446744073709551616) (fun g=>g.1) (fun g=>[(0,pt hb),(1,.int .i64 (nf:Int)),(2,.int .i64 (ny:Int)),(6,pt b6),(7,pt b7),(8,.int .i64 (sm:Int)),(11,.int .i64 (g.1:Int))]) (fun g=>.row 3 1 g.2.2.2.1 g.2.2.2.2.2.length g.2.2.2.2.1 (ints g.2.2.2.2.2)::.row 27 4 A1 fs.length c1 (fs.flatMap Flt.cells)::.blk b7 (.cells #[.slice A1 fs.length c1,.int .i64 (kiln:Int),.slice g.2.2.2.1 g.2.2.2.2.2.length g.2.2.2.2.1] 25 (0,0))::.blk b6 (.cells #[.slice none 0 0,.int .i64 0,.slice none 0 0] 25 (0,0))::.blk hb (hatO nA nums.length nc (g.2.1) (g.2.2.1))::T) (m0,t1+1,s4,none,0,[]) ⟨by simp,by simp,by simp,hs4⟩ sbn pkk ?_)));rintro⟨i,t3,s5,A3,c3,ds⟩ ⟨hjl,hdo,ht3,hs5⟩;(try dsimp only at hjl hdo ht3 hs5 ⊢);refine zG (csr (zA J J (zE J J J wM ?_)))
  refine lnx (zK J (fun hc1=>?_) (fun hc1=>?_))
  ·obtain⟨i,rfl⟩:∃i',i=i'+1:=⟨i-1,by omega⟩
   refine zO (zD (zG (zQ (qF (G:=Option Addr×Nat×Nat×Nat) (fun x=>x.2.2.1<18446744073709551616∧x.2.2.2<=12) (fun x=>[(0,pt hb),(1,.int .i64 (nf:Int)),(2,.int .i64 (ny:Int)),(6,pt b6),(7,pt b7),(8,.int .i64 (sm:Int)),(11,.int .i64 ((i+1:Nat):Int))]) (fun x=>.row 3 1 x.1 (ds.length+1) x.2.1 (ints ds++[.int .i64 (x.2.2.2:Int)])::.row 27 4 A1 fs.length c1 (fs.flatMap Flt.cells)::.blk b7 (.cells #[.slice A1 fs.length c1,.int .i64 (kiln:Int),.slice x.1 (ds.length+1) x.2.1] 25 (0,0))::.blk b6 (.cells #[.slice none 0 0,.int .i64 0,.slice none 0 0] 25 (0,0))::.blk hb (hatO nA nums.length nc (t3+1+1+1) (x.2.2.1))::T) ?_ ?_))))
   ·refine jS [.b b7,.b hb,.r A3] F.follows 17 J (fl 17) J (zC 0 J J J (zP J F.fi25_2 F.ti23) (anm 2 J J J (anm 3 J J J (anm 4 J J J (zC 5 J J J (kW (v:=.int .i64 ((sm / 2:Nat):Int)) J J (fun w=>zH8 w om (by rw[show ((sm:Int).tdiv 2)=((sm / 2:Nat):Int) from (Int.ofNat_tdiv sm 2).symm];exact kC _ om om))) (anm 8 J J J (anm 9 J J J ?_)))))))
    refine qG 1 6 kr J J J J ?_ ?_
    ·refine zS J J F.one23 (zB (anb (an1 6 J (zSy J J J ?_))));rw[show (if (1:Int)<((sm / 2:Nat):Int) then ((sm / 2:Nat):Int) else 1)=((max 1 (sm / 2):Nat):Int) from by split<;>omega];refine zB (anb (an1 7 J (vP J J J hB hN hs5 om om ?_)));rintro s6 y1 hs6 hy1;refine zB (anb (an1 10 J (vP J J J hB hN hs6 om om ?_)));rintro s7 y2 hs7 hy2;refine zB (anb (an1 11 J (kB (vs:=[(0,_),(1,_),(2,_),(3,_),(4,_)]) J J U23 F.ti3 J J J ?_)));intro b53;refine zB (anb (an1 12 J (wD [0,1,2,y1,y2] J J J hB hN hs7 om (by simp) (by simp) (InB.mem (b:=b53)) ?_)));rintro s8 d1 hs8 hd1;simp only[List.mem_cons,List.not_mem_nil,or_false] at hd1;have hd12:d1<=12:=om;refine zB (anb (an1 13 J (kB (vs:=[(0,_)]) J J U23 F.ti3 J J J ?_)));intro b55;refine zB (anb (an1 14 J (kI J J J Tryz.underlying23 F.ti3 J J J (by unfold maxLen;omega) om ?_)));intro A4 c4;exact zB (anb (zC 15 J J J (zP J F.fi25_2 F.ti23) (an1 16 J (zH J J F.ti23 J (zB (anb (adn (jK (A4,c4,s8,d1) ⟨hs8,hd12⟩ sbn pkk))))))))
    ·refine zSy J J J ?_;rw[show (if (1:Int)<((sm / 2:Nat):Int) then ((sm / 2:Nat):Int) else 1)=((max 1 (sm / 2):Nat):Int) from by split<;>omega]
     refine zB (anb (qG 1 7 kr J J J J ?_ ?_))
     ·refine zS J J F.one23 (zB (anb (an1 7 J (vP J J J hB hN hs5 om om ?_))));rintro s6 y1 hs6 hy1;refine zB (anb (an1 10 J (vP J J J hB hN hs6 om om ?_)));rintro s7 y2 hs7 hy2;refine zB (anb (an1 11 J (kB (vs:=[(0,_),(1,_),(2,_),(3,_),(4,_)]) J J U23 F.ti3 J J J ?_)));intro b53;refine zB (anb (an1 12 J (wD [0,1,2,y1,y2] J J J hB hN hs7 om (by simp) (by simp) (InB.mem (b:=b53)) ?_)));rintro s8 d1 hs8 hd1;simp only[List.mem_cons,List.not_mem_nil,or_false] at hd1;have hd12:d1<=12:=om;refine zB (anb (an1 13 J (kB (vs:=[(0,_)]) J J U23 F.ti3 J J J ?_)));intro b55;refine zB (anb (an1 14 J (kI J J J Tryz.underlying23 F.ti3 J J J (by unfold maxLen;omega) om ?_)));intro A4 c4;exact zB (anb (zC 15 J J J (zP J F.fi25_2 F.ti23) (an1 16 J (zH J J F.ti23 J (zB (anb (adn (jK (A4,c4,s8,d1) ⟨hs8,hd12⟩ sbn pkk))))))))
     ·refine vP J J J hB hN hs5 om om ?_;rintro s6 y1 hs6 hy1
      refine zB (anb (qG 1 10 kr J J J J ?_ ?_))
      ·refine zS J J F.one23 (zB (anb (an1 10 J (vP J J J hB hN hs6 om om ?_))));rintro s7 y2 hs7 hy2;refine zB (anb (an1 11 J (kB (vs:=[(0,_),(1,_),(2,_),(3,_),(4,_)]) J J U23 F.ti3 J J J ?_)));intro b53;refine zB (anb (an1 12 J (wD [0,1,2,y1,y2] J J J hB hN hs7 om (by simp) (by simp) (InB.mem (b:=b53)) ?_)));rintro s8 d1 hs8 hd1;simp only[List.mem_cons,List.not_mem_nil,or_false] at hd1;have hd12:d1<=12:=om;refine zB (anb (an1 13 J (kB (vs:=[(0,_)]) J J U23 F.ti3 J J J ?_)));intro b55;refine zB (anb (an1 14 J (kI J J J Tryz.underlying23 F.ti3 J J J (by unfold maxLen;omega) om ?_)));intro A4 c4;exact zB (anb (zC 15 J J J (zP J F.fi25_2 F.ti23) (an1 16 J (zH J J F.ti23 J (zB (anb (adn (jK (A4,c4,s8,d1) ⟨hs8,hd12⟩ sbn pkk))))))))
      ·refine vP J J J hB hN hs6 om om ?_;rintro s7 y2 hs7 hy2
       refine zB (anb (qG 1 11 kr J J J J ?_ ?_))
       ·refine zS J J F.one23 (zB (anb (an1 11 J (kB (vs:=[(0,_),(1,_),(2,_),(3,_),(4,_)]) J J U23 F.ti3 J J J ?_))));intro b53;refine zB (anb (an1 12 J (wD [0,1,2,y1,y2] J J J hB hN hs7 om (by simp) (by simp) (InB.mem (b:=b53)) ?_)));rintro s8 d1 hs8 hd1;simp only[List.mem_cons,List.not_mem_nil,or_false] at hd1;have hd12:d1<=12:=om;refine zB (anb (an1 13 J (kB (vs:=[(0,_)]) J J U23 F.ti3 J J J ?_)));intro b55;refine zB (anb (an1 14 J (kI J J J Tryz.underlying23 F.ti3 J J J (by unfold maxLen;omega) om ?_)));intro A4 c4;exact zB (anb (zC 15 J J J (zP J F.fi25_2 F.ti23) (an1 16 J (zH J J F.ti23 J (zB (anb (adn (jK (A4,c4,s8,d1) ⟨hs8,hd12⟩ sbn pkk))))))))
       ·refine kB (vs:=[(0,_),(1,_),(2,_),(3,_),(4,_)]) J J U23 F.ti3 J J J ?_;intro b53
        refine zB (anb (qG 1 12 kr J J J J ?_ ?_))
        ·refine zS J J F.one23 (zB (anb (an1 12 J (wD [0,1,2,y1,y2] J J J hB hN hs7 om (by simp) (by simp) (InB.mem (b:=b53)) ?_))));rintro s8 d1 hs8 hd1;simp only[List.mem_cons,List.not_mem_nil,or_false] at hd1;have hd12:d1<=12:=om;refine zB (anb (an1 13 J (kB (vs:=[(0,_)]) J J U23 F.ti3 J J J ?_)));intro b55;refine zB (anb (an1 14 J (kI J J J Tryz.underlying23 F.ti3 J J J (by unfold maxLen;omega) om ?_)));intro A4 c4;exact zB (anb (zC 15 J J J (zP J F.fi25_2 F.ti23) (an1 16 J (zH J J F.ti23 J (zB (anb (adn (jK (A4,c4,s8,d1) ⟨hs8,hd12⟩ sbn pkk))))))))
        ·refine wD [0,1,2,y1,y2] J J J hB hN hs7 om (by simp) (by simp) (InB.mem (b:=b53)) ?_;rintro s8 d1 hs8 hd1;simp only[List.mem_cons,List.not_mem_nil,or_false] at hd1;have hd12:d1<=12:=om
         refine zB (anb (qG 1 13 kr J J J J ?_ ?_))
         ·refine zS J J F.one23 (zB (anb (an1 13 J (kB (vs:=[(0,_)]) J J U23 F.ti3 J J J ?_))));intro b55;refine zB (anb (an1 14 J (kI J J J Tryz.underlying23 F.ti3 J J J (by unfold maxLen;omega) om ?_)));intro A4 c4;exact zB (anb (zC 15 J J J (zP J F.fi25_2 F.ti23) (an1 16 J (zH J J F.ti23 J (zB (anb (adn (jK (A4,c4,s8,d1) ⟨hs8,hd12⟩ sbn pkk))))))))
         ·refine kB (vs:=[(0,_)]) J J U23 F.ti3 J J J ?_;intro b55;refine zB (anb (an1 1 J (zS J J F.one23 (zB (anb (an1 14 J (kI J J J Tryz.underlying23 F.ti3 J J J (by unfold maxLen;omega) om ?_)))))));intro A4 c4;exact zB (anb (zC 15 J J J (zP J F.fi25_2 F.ti23) (an1 16 J (zH J J F.ti23 J (zB (anb (adn (jK (A4,c4,s8,d1) ⟨hs8,hd12⟩ sbn pkk))))))))
   ·rintro⟨A4,c4,s8,d1⟩ ⟨hs8,hd12⟩;dsimp only at hs8 hd12 ⊢;refine zJ (zD (zL (zA J J (zE J J J (fun w=>qK w (show IntKind.i64.wrap (((i+1:Nat):Int)-1)=(i:Int) from by rw[kC _ om om];omega)) (zF J J (zB (kS (i,t3+1+1+1,s8,A4,c4,ds++[d1]) ⟨by simp;omega,fun y hy=>?_,by simp;omega,hs8⟩ tdo (by dsimp only;(try rw[List.length_append,List.length_singleton]);exact sbn) (by dsimp only;rw[List.length_append,List.length_singleton];rw[zWp];exact pkk))))))))
    rcases List.mem_append.1 hy with h|h
    ·exact hdo y h
    ·simp at h;subst h;exact hd12
  ·obtain rfl:i=0:=om;exact jV (zN (zN (zY (zD (csr (zZ J J F.agg25 F.ti25 (zH J J F.ti25 J (lnx (zV (zX J (fun a w ha=>by exact xC (ha:=ha) J J F.agg25 F.ti25 J) (fun _ _ ha'=>⟨t3,s5,kiln,fs,ds,A1,A3,c1,c3,by omega,hs5,hfl2,by omega,⟨hfl1,by omega,hlo,by omega,by omega,by omega,hdo⟩,rfl,ha.back (ha'.pck pkk)⟩)))))))))))

theorem jEg (hC:C.P=TP) {hb tk st nc:Nat} {nA:Option Addr} {nums:List Int} (hB:C.w0.heap.size=C.B) (hN:RdL icell 1 C.w0 nA nums) (htk:tk<=700000) (hst:st<18446744073709551616) (ha:At C fr (.blk hb (hatO nA nums.length nc (tk) (st))::T) a w):Calls C.P 53 #[pt hb] w fun e w'=>∃(tk' st' kiln:Nat) (fs:List Flt) (days:List Nat) (A D:Option Addr) (c dc:Nat),tk'<=tk+101∧st'<18446744073709551616∧ChV fs kiln days∧e=.returned (.agg #[.slice A fs.length c,.int .i64 (kiln:Int),.slice D days.length dc])∧At C fr (.row 27 4 A fs.length c (fs.flatMap Flt.cells)::.row 3 1 D days.length dc (ints days)::.blk hb (hatO nA nums.length nc (tk') (st'))::T) a w':=by
 obtain⟨P,B,w0,N0,ds⟩:=C;obtain rfl:P=TP:=hC;(try dsimp only at hB);(try dsimp only at hN);refine yW (N:=9) [(0,pt hb)] ha Tryz.func53 J Tryz.ntmps53 J J (csr (zW J F.ti25 ?_));intro b2;refine lnx (zG (csr (zA J J (zB2 J J J hB hN hst om om om ?_))));rintro s1 sb hs1
 refine lnx (kH J (fun hc0=>?_) (fun hc0=>?_))
 ·refine csr (zA J J (zBb (X:=Nat×Nat×Nat×List Flt×List Nat×Option Addr×Option Addr×Nat×Nat) (vs:=[_,_,_]) hb (fun y=>hatO nA nums.length nc y.1 y.2.1) (fun y=>[.row 27 4 y.2.2.2.2.2.1 y.2.2.2.1.length y.2.2.2.2.2.2.2.1 (y.2.2.2.1.flatMap Flt.cells),.row 3 1 y.2.2.2.2.2.2.1 y.2.2.2.2.1.length y.2.2.2.2.2.2.2.2 (ints y.2.2.2.2.1)]) (fun y=>y.1<=(tk+1)+100∧y.2.1<18446744073709551616∧y.2.2.2.1.length<=3∧y.2.2.2.2.1.length<=2∧ChV y.2.2.2.1 y.2.2.1 y.2.2.2.2.1) (fun y=>.agg #[.slice y.2.2.2.2.2.1 y.2.2.2.1.length y.2.2.2.2.2.2.2.1,.int .i64 (y.2.2.1:Int),.slice y.2.2.2.2.2.2.1 y.2.2.2.2.1.length y.2.2.2.2.2.2.2.2]) J J F.ent19 (fun a w ha=>(zP7 (C:=⟨TP,B,w0,_,_⟩) J hB hN (tk:=(tk+1)) (st:=s1) (nf:=3) (ny:=2) om hs1 om om om om ha).mono (fun e w' h=>by obtain⟨t',s',k',f',d',A',D',c',dc',h1,h2,h3,h4,h5,h6,h7⟩:=h;exact⟨(t',s',k',f',d',A',D',c',dc'),⟨h1,h2,h3,h4,h5⟩,h6,h7⟩)) ?_));rintro⟨t2,s2,kiln,fs,days,A,D,c,dc⟩ ⟨ht2,hs2,hfsl,hdaysl,hfsv⟩;dsimp only[List.cons_append,List.nil_append] at ht2 hs2 hfsl hdaysl hfsv ⊢;exact zH J J F.ti25 J (lnx (zV (zU (zX J (fun a w ha=>by exact xC (ha:=ha) J J F.agg25 F.ti25 J) (fun _ _ ha'=>⟨t2,s2,kiln,fs,days,A,D,c,dc,by omega,hs2,hfsv,rfl,ha.back (ha'.pck pkk)⟩)))))
 ·refine zO (zD (csr (zA J J (zBb (X:=Nat×Nat×Nat×List Flt×List Nat×Option Addr×Option Addr×Nat×Nat) (vs:=[_,_,_]) hb (fun y=>hatO nA nums.length nc y.1 y.2.1) (fun y=>[.row 27 4 y.2.2.2.2.2.1 y.2.2.2.1.length y.2.2.2.2.2.2.2.1 (y.2.2.2.1.flatMap Flt.cells),.row 3 1 y.2.2.2.2.2.2.1 y.2.2.2.2.1.length y.2.2.2.2.2.2.2.2 (ints y.2.2.2.2.1)]) (fun y=>y.1<=(tk+1)+100∧y.2.1<18446744073709551616∧y.2.2.2.1.length<=2∧y.2.2.2.2.1.length<=4∧ChV y.2.2.2.1 y.2.2.1 y.2.2.2.2.1) (fun y=>.agg #[.slice y.2.2.2.2.2.1 y.2.2.2.1.length y.2.2.2.2.2.2.2.1,.int .i64 (y.2.2.1:Int),.slice y.2.2.2.2.2.2.1 y.2.2.2.2.1.length y.2.2.2.2.2.2.2.2]) J J F.ent19 (fun a w ha=>(zP7 (C:=⟨TP,B,w0,_,_⟩) J hB hN (tk:=(tk+1)) (st:=s1) (nf:=2) (ny:=4) om hs1 om om om om ha).mono (fun e w' h=>by obtain⟨t',s',k',f',d',A',D',c',dc',h1,h2,h3,h4,h5,h6,h7⟩:=h;exact⟨(t',s',k',f',d',A',D',c',dc'),⟨h1,h2,h3,h4,h5⟩,h6,h7⟩)) ?_))));rintro⟨t2,s2,kiln,fs,days,A,D,c,dc⟩ ⟨ht2,hs2,hfsl,hdaysl,hfsv⟩;dsimp only[List.cons_append,List.nil_append] at ht2 hs2 hfsl hdaysl hfsv ⊢;exact zH J J F.ti25 J (lnx (zV (zX J (fun a w ha=>by exact xC (ha:=ha) J J F.agg25 F.ti25 J) (fun _ _ ha'=>⟨t2,s2,kiln,fs,days,A,D,c,dc,by omega,hs2,hfsv,rfl,ha.back (ha'.pck pkk)⟩))))

end
section
variable [I:Sys]
variable {C:Ctx} {fr:LV} {hp:List Res} {ops:Array Oper} {Q:QT} {rest:List Oper} {d:Nat} {ty:TypeId} {pos:String} {after:Array Edge}
variable {size:Nat} {α:Type}
theorem zEt {cells:α->List Value} (hs:∀x,(cells x).length=size) (l:List α):(l.flatMap cells).length=l.length*size:=by
 induction l with
 | nil=>simp
 | cons x l ih=>rw[List.flatMap_cons,List.length_append,hs,ih,List.length_cons,Nat.succ_mul];omega
theorem RdL.cells_at {cells:α->List Value} (hs:∀x,(cells x).length=size) (h0:0<size) {w:World} {p:Addr} {l:List α} (h:RdL cells size w (some p) l) {j:Nat} {u:Value} (hu:(l.flatMap cells)[j]?=some u):w.cell? (p.add j)=some u:=by
 have hj:j<l.length*size:=by
  rw[<-zEt hs]
  rcases Nat.lt_or_ge j (l.flatMap cells).length with h1|h1
  ·exact h1
  ·rw[List.getElem?_eq_none h1] at hu;cases hu
 have hk:j / size<l.length:=Nat.div_lt_of_lt_mul (by rw[Nat.mul_comm];exact hj);obtain⟨b,o,h1,_,h3⟩:=h (Nat.lt_of_le_of_lt (Nat.zero_le _) hk)
 cases h1
 have hd:=Nat.div_add_mod j size;rw[Nat.mul_comm] at hd;have hm:j%size<size:=Nat.mod_lt _ h0;have hx:l[j / size]?=some l[j / size]:=List.getElem?_eq_getElem hk;have hjs:j%size<(cells l[j / size]).length:=by rw[hs];exact hm
 have hc:(cells l[j / size])[j%size]?=some (cells l[j / size])[j%size]:=List.getElem?_eq_getElem hjs;have h4:=zEp hs l _ _ hx _ _ hc;rw[hd,hu] at h4;have h5:=h3 _ _ hx _ _ hc;rw[xW];rw[Nat.add_assoc,hd] at h5;rw[h5];exact h4.symm
theorem zBf {cells:α->List Value} {x y:Operand} {t e:TypeId} {A:Option Addr} {p:Addr} {n c m cb bytes:Nat} {xs:List Value} {l:List α} {z:Value} {hp':Option Addr->Nat->List Res} (hd:Nat.blt d C.N=true)
  (hx:ev fr x=some (.slice A n c)) (hy:ev fr y=some (.slice (some p) m cb)) (ht:C.P.underlying t=some (.slice e)) (hi:TI C.P e z size bytes) (hzs:z.cells.size=size) (hs0:Nat.blt 0 size=true) (hs:∀x,(cells x).length=size) (ho1:∀x,∀u∈cells x,u.oneCell'=true)
  (hnews:∀a w,At C fr hp a w->RdL cells size w (some p) l) (hl:l.length=m) [hr:InR A e size n c xs hp] [hu:∀A' c',UpR A e size n c xs (.row e size A' (n+m) c' (xs++l.flatMap cells)) hp (hp' A' c')]
  (h63:n+m<=maxLen) (hbytes:(n+m)*bytes<=140737488355328)
  (k:∀A' c',Lst C ops Q rest ((d,.slice A' (n+m) c')::fr) (hp' A' c')) :
  Lst C ops Q (⟨some d,.call {callee:=.builtin .append,args:=#[x,y],argTypes:=#[t,t]},ty,pos,after,none⟩::rest) fr hp:=by
 have ho:∀u∈l.flatMap cells,u.oneCell'=true:=by
  intro u hu';obtain⟨x,_,hx⟩:=List.mem_flatMap.1 hu';exact ho1 x u hx
 have hi':=hi;obtain⟨i,hi1,hi2,hi3,hi4⟩:=hi';have h0:=kK hs0;subst hi4;refine zGo hd hx hy ht hi hzs hs0 (fun a w ha j u hu=>(hnews a w ha).cells_at hs h0 hu) (by rw[zEt hs,hl]) ho (fun w v' w' hown hn hrun=>?_) h63 hbytes k;exact zDs ht hi1 hi2 (hi3▸hown) (by rw[zEt hs,hi3,hl]) hn ho h63 hbytes hrun
end
section
variable {a b c d f:Nat} {l:List Nat} {m:Mor} {o x:Oc} {rec:Mor->Oc}
theorem zHv {e:Nat} (h1:cless a b c d=false) (h2:cless c d e f=false):cless a b e f=false:=by
 unfold cless at *;simp only[decide_eq_false_iff_not,not_or,not_and] at *;omega
theorem zGg (a b:Nat):cless a b a b=false:=by
 unfold cless;simp
theorem jEr (h:cless a b c d=true):cless c d a b=false:=by
 unfold cless at *;simp only[decide_eq_true_eq,decide_eq_false_iff_not,not_or,not_and] at *;omega
theorem jCr {x y:Nat}:cless (a+x) (b+y) (c+x) (d+y)=cless a b c d:=by
 unfold cless;rw[decide_eq_decide];omega
theorem zL3 (o x:Oc):(lst2 o x).is=(o.is||x.is):=by
 unfold lst2 oless
 cases ho:o.is<;>cases hx:x.is<;>simp[ho,hx]<;>split<;>simp_all
theorem zTd (o x:Oc):lst2 o x=o∨lst2 o x=x∧x.is=true:=by
 unfold lst2
 split
 ·rename_i h;unfold oless at h;exact .inr ⟨rfl,by simp at h;exact h.1⟩
 ·exact .inl J
theorem zZp (h:o.is=true):cless o.f o.w (lst2 o x).f (lst2 o x).w=false:=by
 unfold lst2
 split
 ·rename_i h2;unfold oless at h2;simp[h] at h2;exact jEr h2.2
 ·exact zGg ..
theorem zZk (h:x.is=true):cless x.f x.w (lst2 o x).f (lst2 o x).w=false:=by
 unfold lst2
 split
 ·exact zGg ..
 ·rename_i h2;unfold oless at h2;simp[h] at h2;exact h2.2
theorem zR1 (g:List Nat->Oc):∀(ls:List (List Nat)) (o:Oc),(ls.foldl (fun o l=>lst2 o (g l)) o).is=(o.is||ls.any fun l=>(g l).is)
 | [],o=>by simp
 | l::ls,o=>by rw[List.foldl_cons,zR1 g ls,zL3,List.any_cons,Bool.or_assoc]
theorem zMe (g:List Nat->Oc):∀(ls:List (List Nat)) (o:Oc),ls.foldl (fun o l=>lst2 o (g l)) o=o∨∃l∈ls,(g l).is=true∧ls.foldl (fun o l=>lst2 o (g l)) o=g l
 | [],o=>.inl rfl
 | l::ls,o=>by
  rw[List.foldl_cons]
  rcases zMe g ls (lst2 o (g l)) with h|⟨x,hx,h1,h2⟩
  ·rw[h]
   rcases zTd o (g l) with h|⟨h,h3⟩
   ·exact .inl h
   ·exact .inr ⟨l,by simp,h3,h⟩
  ·exact .inr ⟨x,by simp[hx],h1,h2⟩
theorem zQp (g:List Nat->Oc):∀(ls:List (List Nat)) (o:Oc),o.is=true->cless o.f o.w (ls.foldl (fun o l=>lst2 o (g l)) o).f (ls.foldl (fun o l=>lst2 o (g l)) o).w=false
 | [],o,_=>zGg ..
 | l::ls,o,h=>zHv (zZp h) (zQp g ls (lst2 o (g l)) (by rw[zL3,h];rfl))
theorem zOl (g:List Nat->Oc):∀(ls:List (List Nat)) (o:Oc) (l:List Nat),l∈ls->(g l).is=true->cless (g l).f (g l).w (ls.foldl (fun o l=>lst2 o (g l)) o).f (ls.foldl (fun o l=>lst2 o (g l)) o).w=false
 | l::ls,o,x,hx,h=>by
  rw[List.foldl_cons]
  rcases List.mem_cons.1 hx with rfl|hx
  ·exact zHv (zZk h) (zQp g ls _ (by rw[zL3,h];simp))
  ·exact zOl g ls _ x hx h
section
variable (alw:Nat->List Nat->Bool) (las:Mor->Bool) (fs:List Flt) (kiln:Nat) (days:List Nat)
inductive Pth:Nat->Mor->List (List Nat)->Nat->Nat->Prop
 | last {m:Mor}:las m=true->Pth 0 m [] 0 0
 | day {n:Nat} {m m1:Mor} {acts:List Nat} {p:List (List Nat)} {f w:Nat}:acts∈exts [] fs.length->alw (days.length-(n+1)) acts=true->dayE fs kiln m acts (days.getD (days.length-(n+1)) 0)=(0,m1)->Pth n m1 p f w->Pth (n+1) m (acts::p) (f+spF acts) (w+spW acts)
end
section
variable {alw:Nat->List Nat->Bool} {las:Mor->Bool} {fs:List Flt} {kiln:Nat} {days:List Nat}
theorem jA2 (h:(stpO alw fs kiln days rec d m l).is=true) :
  alw d l=true∧∃m1,dayE fs kiln m l (days.getD d 0)=(0,m1)∧(rec m1).is=true∧stpO alw fs kiln days rec d m l=⟨(rec m1).f+spF l,(rec m1).w+spW l,true⟩:=by
 unfold stpO at h ⊢
 split at h
 ·cases h
 ·rename_i h1
  split at h
  ·cases h
  ·rename_i h2;rw[if_neg h1,if_neg h2];refine⟨by simpa using h1,_,Prod.ext (by simpa using h2) J,h,?_⟩;dsimp only at h;rw[h]
theorem jBt {m1:Mor} (h1:alw d l=true) (h2:dayE fs kiln m l (days.getD d 0)=(0,m1)):stpO alw fs kiln days rec d m l=⟨(rec m1).f+spF l,(rec m1).w+spW l,(rec m1).is⟩:=by
 unfold stpO;rw[if_neg (by simp[h1]),if_neg (by rw[h2];simp),h2]
theorem zAn:∀(n:Nat) (m:Mor),(bstO alw las fs kiln days n m).is=true->∃p,Pth alw las fs kiln days n m p (bstO alw las fs kiln days n m).f (bstO alw las fs kiln days n m).w
 | 0,m,h=>⟨[],.last h⟩
 | n+1,m,h=>by
  rcases zMe (fun l=>stpO alw fs kiln days (bstO alw las fs kiln days n) (days.length-(n+1)) m l) (exts [] fs.length) noOc with e|⟨l,hl,h1,e⟩
  ·have e':bstO alw las fs kiln days (n+1) m=noOc:=e;rw[e'] at h
   cases h
  ·have e':bstO alw las fs kiln days (n+1) m=stpO alw fs kiln days (bstO alw las fs kiln days n) (days.length-(n+1)) m l:=e;obtain⟨h2,m1,h3,h4,h5⟩:=jA2 h1;rw[e',h5];obtain⟨p,hp⟩:=zAn n m1 h4;exact⟨l::p,.day hl h2 h3 hp⟩
theorem zHe {n:Nat} {p:List (List Nat)} {w:Nat} (h:Pth alw las fs kiln days n m p f w):(bstO alw las fs kiln days n m).is=true∧cless f w (bstO alw las fs kiln days n m).f (bstO alw las fs kiln days n m).w=false:=by
 induction h with
 | last h=>exact⟨h,zGg ..⟩
 | @day n m m1 acts p f w h1 h2 h3 h4 ih =>
  obtain⟨i1,i2⟩:=ih;have e:=jBt (rec:=bstO alw las fs kiln days n) h2 h3;have his:(stpO alw fs kiln days (bstO alw las fs kiln days n) (days.length-(n+1)) m acts).is=true:=by rw[e];exact i1
  constructor
  ·show ((exts [] fs.length).foldl (fun o l=>lst2 o (stpO alw fs kiln days (bstO alw las fs kiln days n) (days.length-(n+1)) m l)) noOc).is=true;rw[zR1,List.any_eq_true.2 ⟨acts,h1,his⟩,Bool.or_true]
  ·refine zHv ?_ (zOl (fun l=>stpO alw fs kiln days (bstO alw las fs kiln days n) (days.length-(n+1)) m l) (exts [] fs.length) noOc acts h1 his);rw[e];dsimp only;rw[jCr];exact i2
end
end
section
theorem Grew.less {w w':World} {rs:List Res} (h:Grew w w' rs):Grew w w' []:=⟨h.1,fun _ h=>by simp at h,by simp⟩
theorem jBr (x:Flt):x.cells.length=4:=rfl
theorem jAz (x:Flt):∀u∈x.cells,u.oneCell'=true:=by
 intro u hu;simp[Flt.cells] at hu;rcases hu with h|h|h|h<;>subst h<;>simp[Value.oneCell']
theorem jAc (x:Nat):∀u∈ncell x,u.oneCell'=true:=by
 intro u hu;simp[ncell] at hu;subst hu;simp[Value.oneCell']
section
variable [I:Sys] {C:Ctx} {fr:LV} {hp:List Res} {a:Act} {w:World}
theorem zZq (ha:At C fr hp a w) {A:Option Addr} {c n:Nat} {l:List Nat} [hr:InR A 3 1 n c (ints l) hp] (hn:n=l.length):RdL ncell 1 w A l :=
 kX ha (cells:=ncell) (size:=1) (e:=3) (c:=c) (n:=n) (l:=l) (fun _=>rfl) (by rw[<-zG5];exact hr.mem) hn
theorem zY6 (ha:At C fr hp a w) {A:Option Addr} {c n:Nat} {l:List Flt} [hr:InR A 27 4 n c (l.flatMap Flt.cells) hp] (hn:n=l.length):RdL Flt.cells 4 w A l :=
 kX ha (cells:=Flt.cells) (size:=4) (e:=27) (c:=c) (n:=n) (l:=l) (fun _=>rfl) hr.mem hn
end
end
section
variable [I:Sys]
theorem F.ent55:Enters TP 55:=jD Tryz.func55 rfl kr
theorem zV6 {α:Type} {cells:α->List Value} (hs:∀x,(cells x).length=1) (ho:∀x,∀u∈cells x,u.oneCell'=true) (p:Addr) (c:Nat) (l:List α) (hl:l.length<=400000) (w:World) (hA:RdL cells 1 w (some p) l):Calls TP 55 #[.slice (some p) l.length c] w fun e w'=>∃A' c',e=.returned (.slice A' l.length c')∧Grew w w' [.row 3 1 A' l.length c' (l.flatMap cells)]:=by
 refine enter (N:=6) [(0,.slice (some p) l.length c)] Tryz.func55 J Tryz.ntmps55 J J (csr (lax J J (csr (zDz J U23 F.ti3 ?_))));intro b3;refine zBv 1 (.head _) (zA J J (zBf (cells:=cells) J J J Tryz.underlying23 F.ti3 J J hs ho (fun a w ha=>hA.later ha.below) J (by unfold maxLen;omega) om ?_));intro A1 c1;refine lax J J (zV ?_);simp only[Nat.zero_add,List.nil_append];exact zX J (rsO J J) (fun a w ha=>⟨A1,c1,rfl,ha.grown sbl⟩)

theorem zWy {α β:Type} {cf:α->List Value} {cd:β->List Value} (hs4:∀x,(cf x).length=4) (ho4:∀x,∀u∈cf x,u.oneCell'=true) (hs1:∀x,(cd x).length=1) (ho1:∀x,∀u∈cd x,u.oneCell'=true) (fp dp:Addr) (fc dc:Nat) (kz:Int) (fs:List α) (days:List β) (hfl:fs.length<=400000) (hdl:days.length<=400000) (w:World) (hF:RdL cf 4 w (some fp) fs) (hD:RdL cd 1 w (some dp) days):Calls TP 14 #[.agg #[.slice (some fp) fs.length fc,.int .i64 kz,.slice (some dp) days.length dc]] w fun e w'=>∃A c D dc',e=.returned (.agg #[.slice A fs.length c,.int .i64 kz,.slice D days.length dc'])∧Grew w w' [.row 27 4 A fs.length c (fs.flatMap cf),.row 3 1 D days.length dc' (days.flatMap cd)]:=by
 refine enter (N:=13) [(0,.agg #[.slice (some fp) fs.length fc,.int .i64 kz,.slice (some dp) days.length dc])] Tryz.func14 J Tryz.ntmps14 J J (csr (jT J J ?_));intro b1;refine zW J F.ti25 ?_;intro b2;refine lnx (zG (jS [.b b2] F.follows 11 J (fl 11) J (zC 1 J J J (zP J F.fi25_0 F.ti22) (zC 2 J J J (jJ J F.one22) (zC 4 J J J (zP J F.fi25_1 F.ti3) (zC 5 J J J (jJ J F.one3) (zC 6 J J J (zP J F.fi25_2 F.ti23) (zC 7 J J J (jJ J F.one23) (an1 0 J (zDz J U22 F.ti27 ?_))))))))));intro b3;refine zBv 4 (.head _) (zB (anb (an1 3 J (zBf (cells:=cf) J J J Tryz.underlying22 F.ti27 J J hs4 ho4 (fun a w ha=>hF.later ha.below) J (by unfold maxLen;omega) om ?_))));intro A2 c2;simp only[Nat.zero_add,List.nil_append];refine zB (anb (an1 8 J (kJ (X:=Option Addr×Nat) (vs:=[_]) (p:=fun _=>True) (val:=fun y=>.slice y.1 days.length y.2) (rs:=fun y=>[.row 3 1 y.1 days.length y.2 (days.flatMap cd)]) J J F.ent55 (fun a w ha=>(zV6 hs1 ho1 dp dc days hdl w (hD.later ha.below)).mono (fun e w' h=>by obtain⟨A',c',h1,h2⟩:=h;exact⟨(A',c'),trivial,h1,h2⟩)) ?_)));rintro⟨A3,c3⟩ -;dsimp only[List.cons_append,List.nil_append];exact zB (anb (zC 9 J J J (vF (vs:=[(0,_),(1,_),(2,_)]) (l':=[_,_,_]) J F.ti25 F.pl25 (.cons J J (.cons J J (.cons J J (.nil _)))) J) (an1 10 J (zH J J F.ti25 J (zB (anb (adn (zD (zV (zX J (fun a w ha=>by exact xC (ha:=ha) J J F.agg25 F.ti25 J) (fun a w ha=>⟨A2,c2,A3,c3,rfl,(ha.pck pkk).grown (List.Sublist.refl _)⟩)))))))))))

theorem zVf {fA dA:Option Addr} {fc dc kiln:Nat} {fs:List Flt} {days:List Nat} (hf1:1<=fs.length) (hf3:fs.length<=1000) (hd1:1<=days.length) (hd4:days.length<=1000) (w:World) (hF:RdL Flt.cells 4 w fA fs) (hD:RdL ncell 1 w dA days) :
  Calls TP 14 #[(CG fA fs.length fc kiln dA days.length dc)] w fun e w'=>∃A c D dc',e=.returned (.agg #[.slice A fs.length c,.int .i64 (kiln:Int),.slice D days.length dc'])∧Grew w w' [.row 27 4 A fs.length c (fs.flatMap Flt.cells),.row 3 1 D days.length dc' (ints days)]:=by
 obtain⟨fb,fo,rfl,_,_⟩:=hF om;obtain⟨db,d_o,rfl,_,_⟩:=hD om;have h:=zWy jBr jAz (fun _=>rfl) jAc ⟨fb,fo,none⟩ ⟨db,d_o,none⟩ fc dc (kiln:Int) fs days om om w hF hD;rw[<-zG5] at h;exact h

theorem F.ent13:Enters TP 13:=jD Tryz.func13 rfl kr
theorem F.ent11:Enters TP 11:=jD Tryz.func11 rfl kr
theorem F.ent53:Enters TP 53:=jD Tryz.func53 rfl kr
theorem F.ent14:Enters TP 14:=jD Tryz.func14 rfl kr
end
section
section
variable [I:Sys] {C:Ctx} {fr:LV} {hp hp':List Res} {a:Act} {w:World} {ops:Array Oper} {Q:QT} {rest:List Oper} {d:Nat} {ty:TypeId} {pos:String} {after:Array Edge}
theorem xZ {x y:Operand} {t e:TypeId} {A:Option Addr} {g o size n c m:Nat} {xs:List Value} (xs':List Value) {v z:Value} (hx:ev fr x=some (.pointer (some ⟨g,o,none⟩))) (hy:ev fr y=some v) (hi:TI C.P t z 1 m) [hc:Cells v [v]]
  (hA:A=some ⟨g,0,none⟩) (ho:o<xs.length) (hxs:xs.set o v=xs') [hr:InR A e size n c xs hp] [hu:UpR A e size n c xs (.row e size A n c xs') hp hp']
  (k:Lst C ops Q rest fr hp'):Lst C ops Q (⟨none,.store t x y,ty,pos,after,none⟩::rest) fr hp:=by
 obtain⟨i,hi,_,hsz,_⟩:=hi;refine zD2 (fun _ _ _=>zB1 ..) (fun a w ha=>?_) k;have hown:=ha.own _ hr.mem;obtain⟨hlen,hcase⟩:=hown
 rcases hcase with ⟨h1,_⟩|⟨g',cap,cur,hv,hB,hheap,hle,hmax,hcs,htake⟩
 ·injection h1 with e1;rw[hA] at e1
  cases e1
 ·injection hv with e1 e2 e3;rw[hA] at e1;injection e1 with e1;injection e1 with e1;subst e1;subst e3
  have hlen':o<cur.toList.length:=by
   have h9:n*size<=c*size:=Nat.mul_le_mul_right _ hle;simp only[Array.length_toList];omega
  have hs:Splice cur.toList o [v] (cur.toList.set o v):=⟨by rw[List.set_eq_take_append_cons_drop,if_pos hlen',List.append_assoc];rfl,by simp at hlen' ⊢;omega⟩;obtain⟨w',h1,h2,h3⟩:=zDe hs (by simpa using hheap) hc.one C.P
  refine⟨w',?_,ha.turn hu.upd (by rw[hA];exact h3) ⟨by rw[<-hxs,List.length_set];exact hlen,.inr ⟨g,c,(cur.toList.set o v).toArray,by rw[hA],hB,h2,hle,hmax,by simp[hcs],?_⟩⟩ (fun k hk=>.inl hk)⟩
  ·simp[execOp,ha.eval hx,ha.eval hy,Instr.storeAt,Instr.sureAddr,storeVar,sizeOf,typeInfo,hi,hc.eq,hsz,h1]
  ·rw[<-hxs,<-htake,List.take_set]
theorem vJ {l:List Oper} (A:Option Addr) {e size n c:Nat} {xs:List Value} [hr:InR A e size n c xs hp] (hn:0<n) (k:∀g,A=some ⟨g,0,none⟩->Lst C ops Q l fr hp):Lst C ops Q l fr hp:=fun a w ha=>by
 obtain⟨g,hg⟩:=vN (ha.own _ hr.mem) hn;exact k g hg a w ha
end
structure ChW (fs:List Flt) (kiln:Nat) (days:List Nat):Prop where
 f3:fs.length<=3
 ff:∀f∈fs,FltOk f
 k3:kiln<=3
 d1:1<=days.length
 d4:days.length<=4
 dd:∀n∈days,n<=12
theorem ChV.w {fs:List Flt} {kiln:Nat} {days:List Nat} (h:ChV fs kiln days):ChW fs kiln days:=⟨h.f3,h.ff,h.k3,h.d1,h.d4,h.dd⟩
theorem zZw (l:List Nat) (i j v:Nat):(l.set i v).getD j 0=if i=j∧i<l.length then v else l.getD j 0:=by
 rw[List.getD_eq_getElem?_getD,List.getD_eq_getElem?_getD,List.getElem?_set]
 by_cases h:i=j
 ·subst h
  by_cases h2:i<l.length
  ·simp[h2]
  ·simp[h2]
 ·simp[h]
theorem jGc {fs:List Flt} {kiln:Nat} {m m1:Mor} {acts:List Nat} {s:Nat}:dayE fs kiln m acts s=(0,m1)↔barred m acts acts.length=false∧firesN acts acts.length<=kiln∧(dRun fs m acts s acts.length).1=0∧m1=(dRun fs m acts s acts.length).2:=by
 unfold dayE
 by_cases h1:barred m acts acts.length=true
 ·rw[if_pos h1];simp[h1]
 ·rw[if_neg h1]
  by_cases h2:kiln<firesN acts acts.length
  ·rw[if_pos h2];simp;omega
  ·rw[if_neg h2]
   by_cases h3:0<(dRun fs m acts s acts.length).1
   ·rw[if_pos h3];simp;omega
   ·rw[if_neg h3];simp only[Prod.mk.injEq,true_and]
    constructor
    ·rintro rfl;exact⟨by simpa using h1,by omega,by omega,rfl⟩
    ·rintro⟨_,_,_,rfl⟩;rfl
def sumK (m:Mor):Nat->Nat
 | 0=>0
 | k+1=>sumK m k+m.s.getD k 0
theorem zYk {fs:List Flt} {m:Mor} {n x:Nat}:∀k,k<=n->(dRun fs m (List.replicate n 0) x k).1=x-sumK m k
 | 0,_=>by simp[dRun,sumK]
 | k+1,hk=>by
  have ih:=zYk (fs:=fs) (m:=m) (n:=n) (x:=x) k om;rw[zAa,zEi]
  have h0:(List.replicate n 0).getD k 0=0:=by
   rw[List.getD_eq_getElem?_getD,List.getElem?_replicate]
   split<;>rfl
  rw[h0];unfold sumK actOf;dsimp only;rw[if_pos J,ih];omega
def Void (n:Nat) (m:Mor):Prop:=∀i,n<=i->m.s.getD i 0=0
theorem zPb {fs:List Flt} {m:Mor} {acts:List Nat} {x n:Nat} (hv:Void n m):∀k,k<=n->Void n (dRun fs m acts x k).2
 | 0,_=>hv
 | k+1,hk=>by
  have ih:=zPb (fs:=fs) (acts:=acts) (x:=x) hv k om;rw[zAa,zEi];intro i hi;dsimp only;rw[zZw,if_neg om];exact ih i hi
theorem zKy (fs:List Flt) (_h3:fs.length<=3):Void fs.length (start fs):=by
 intro i hi;unfold start startN;dsimp only;rw[List.take_length,List.getD_eq_getElem?_getD,List.getElem?_append,if_neg (by simp;omega),List.getElem?_replicate]
 split<;>rfl
end
end Go.Proofs.YteppiphdbondeaaGreat.N
