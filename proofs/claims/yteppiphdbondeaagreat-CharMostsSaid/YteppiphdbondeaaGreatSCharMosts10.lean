/- Parts of the walk of the law CharMosts: YG, YH, Y7, YI, YJ, Y8, Y9, YK, Y10, YL, YN, Y11, Y12, YP, YQ, Y13, Y15, ChRow. -/
import Derived.Test.YteppiphdbondeaaGreatSCharMosts09
import Derived.Test.YteppiphdbondeaaGreatProg
import Derived.ArgAppend
import Derived.Deep.Upon
import Derived.Test.YteppiphdbondeaaGreatSCharMosts08
import Derived.Test.YteppiphdbondeaaGreatSCharMosts03
namespace Go.Proofs.YteppiphdbondeaaGreat.N
set_option linter.unusedSectionVars false
open Go.RowKit
section
variable {d k kiln:Nat} {fs:List Flt} {l:List Mor} {m:Mor}
abbrev LZ:Type:=Option Addr×Nat×List MZ
def lcell (x:LZ):Value:=.slice x.1 x.2.2.length x.2.1
def lrow (n:Nat) (x:LZ):List Res:=.row 112 2 x.1 x.2.2.length x.2.1 (x.2.2.reverse.flatMap (mmc n))::x.2.2.flatMap (mmr n)
def lmor (x:LZ):List Mor:=x.2.2.reverse.map (·.2.2)
theorem zAd (x:LZ):(lmor x).length=x.2.2.length:=by simp[lmor]
theorem zA4 {LS:List LZ} {x:LZ} (h:LS.reverse[k]?=some x):(LS.reverse.map lcell)[k]?=some (lcell x):=by rw[List.getElem?_map,h];rfl
theorem zX6 (n:Nat) (x:MZ) (R:List MZ):(x::R).reverse.flatMap (mmc n)=R.reverse.flatMap (mmc n)++mmc n x:=by
 rw[List.reverse_cons,List.flatMap_append,List.flatMap_singleton]
theorem zFr [I:Sys] {C:Ctx} {fr:List (Nat×Value)} {hp:List Res} {a:Act} {w:World} (ha:At C fr hp a w) {n:Nat} {x:LZ} (h:∀r∈lrow n x,r∈hp):RdMs n w x.1 x.2.2.reverse:=by
 have h1:Res.row 112 2 x.1 x.2.2.reverse.length x.2.1 (x.2.2.reverse.flatMap (mmc n))∈hp:=by
  rw[List.length_reverse];exact h _ (List.mem_cons_self ..)
 refine jCd ha h1 fun y hy r hr=>h r (List.mem_cons_of_mem _ (List.mem_flatMap.2 ⟨y,List.mem_reverse.1 hy,hr⟩))
def candL (fs:List Flt) (kiln d:Nat) (m:Mor) (l:List (List Nat)):List Mor:=l.filterMap fun acts=>if (dayE fs kiln m acts d).1=0 then some (dayE fs kiln m acts d).2 else none
theorem zJ1 {l:List (List Nat)} {acts:List Nat} (h:l[k]?=some acts):candL fs kiln d m (l.take (k+1))=candL fs kiln d m (l.take k)++if (dayE fs kiln m acts d).1=0 then [(dayE fs kiln m acts d).2] else []:=by
 unfold candL;rw[List.take_add_one,h,List.filterMap_append]
 congr 1
 show List.filterMap _ [acts]=_;rw[List.filterMap_cons,List.filterMap_nil]
 split<;>rename_i h0<;>split at h0<;>simp_all
def fndL (fs:List Flt) (kiln d:Nat) (l:List Mor) (i:Nat):List Mor:=((l.take i).flatMap fun m=>candL fs kiln d m (exts [] fs.length)).foldl addM []
theorem zTt {i:Nat} (h:l[i]?=some m):fndL fs kiln d l (i+1)=(candL fs kiln d m (exts [] fs.length)).foldl addM (fndL fs kiln d l i):=by
 unfold fndL;rw[List.take_add_one,h,List.flatMap_append,List.foldl_append];show List.foldl addM _ (List.flatMap _ [m])=_;rw[List.flatMap_singleton]
theorem zWv:fndL fs kiln d l l.length=nxtL fs kiln l d:=by
 unfold fndL nxtL stpL candL;rw[List.take_length]
theorem zN5 {n:Nat} {R:List MZ} (hR:∀x∈R,MOk x.2.2∧Thin n x.2.2) (hm:MOk m) (ht:Thin n m):cdM m n∈cods n R↔m∈R.map (·.2.2):=by
 unfold cods;rw[List.mem_map,List.mem_map]
 constructor
 ·rintro⟨x,hx,e⟩;exact⟨x,hx,jDl (hR x hx).1 hm (hR x hx).2 ht e⟩
 ·rintro⟨x,hx,e⟩;exact⟨x,hx,by rw[e]⟩
end
section
variable {d i kiln:Nat} {fs:List Flt} {l:List Mor}
theorem zLj {p:Mor->Prop} (l acc:List Mor) (h1:∀x∈acc,p x) (h2:∀x∈l,p x):∀x∈l.foldl addM acc,p x:=fun x hx=>((zGx l acc).1 hx).elim (h1 x) (h2 x)
theorem zPm {m:Mor} {L:List (List Nat)} (h3:fs.length<=3) (hf:∀f∈fs,FltOk f) (hm:MOk m) (ht:Thin fs.length m) (hL:∀a∈L,a.length=fs.length):∀y∈candL fs kiln d m L,MOk y∧Thin fs.length y:=by
 intro y hy;obtain⟨a,ha,h⟩:=List.mem_filterMap.1 hy
 split at h
 ·rename_i h0
  cases h
  have hok:=(wM (fs:=fs) (kiln:=kiln) (m:=m) (acts:=a) (sugar:=d) hf hm (by rw[hL a ha];exact Nat.le_refl _) h3).1;exact⟨hok,zIh h3 hok ht (hL a ha) (Prod.ext h0 J)⟩
 ·cases h
theorem zNw {n:Nat}:∀a∈exts [] n,a.length=n:=fun a ha=>by
 obtain⟨y,e,hl,-⟩:=(zFn _ _ _).1 ha;rw[List.nil_append] at e;rw[e,hl]
theorem zZr (h3:fs.length<=3) (hf:∀f∈fs,FltOk f) (hl:∀m∈l,MOk m∧Thin fs.length m):∀y∈fndL fs kiln d l i,MOk y∧Thin fs.length y:=by
 refine zLj _ _ (fun x hx=>nomatch hx) fun x hx=>?_;obtain⟨m,hm,h⟩:=List.mem_flatMap.1 hx;obtain⟨h1,h2⟩:=hl m (List.mem_of_mem_take hm);exact zPm h3 hf h1 h2 zNw x h
theorem zSc:(fndL fs kiln d l i).Nodup:=zCg _ _ List.nodup_nil
end
section
variable [I:Sys]
theorem F.ent101:Enters Tryz.prog 101:=jC Tryz.func101 rfl kr
theorem F.ent76:Enters Tryz.prog 76:=jC Tryz.func76 rfl kr
theorem F.ent77:Enters Tryz.prog 77:=jC Tryz.func77 rfl kr
theorem F.one109:One Tryz.prog 109:=⟨by unfold aggB;rw[Tryz.underlying109],by rw[Tryz.underlying109];simp⟩
theorem F.ti109:TI Tryz.prog 109 (.slice none 0 0) 1 24:=TI.of kr
theorem zIi {fA dA:Option Addr} {fc dc kiln:Nat} {fs:List Flt} {days:List Nat} (hc:ChW fs kiln days) (w:World) (hF:RdL Flt.cells 4 w fA fs) (hD:RdL ncell 1 w dA days):Calls Tryz.prog 73 #[.agg (CA fA fs.length fc kiln dA days.length dc).toArray] w fun e w'=>∃(A:Option Addr) (c:Nat) (LS:List LZ),LS.reverse.map lmor=(List.range (days.length+1)).map (fun i=>lvlL fs kiln (days.take i))∧e=.returned (.slice A LS.length c)∧Grew w w' (.row 109 1 A LS.length c (LS.reverse.map lcell)::LS.flatMap (lrow fs.length)):=by
 refine enter (N:=92) [(0,.agg (CA fA fs.length fc kiln dA days.length dc).toArray)] Tryz.func73 J Tryz.ntmps73 J J (csr (jM J J ?_));intro b1;refine lax J J (csr (jB J J F.agg25 F.ti25 (kR (X:=(Option Addr×Nat)×(Option Addr×Nat)) (vs:=[_]) (p:=fun _=>True) (val:=fun y=>.agg (mmc fs.length (y.1,y.2,start fs)).toArray) (rs:=fun y=>mmr fs.length (y.1,y.2,start fs)) J J F.ent101 (fun a w ha=>(zWy hc.f3 w (hF.later ha.below)).mono (fun e w' h=>by obtain⟨sA,sc,wA,wc,h1,h2⟩:=h;exact⟨((sA,sc),(wA,wc)),trivial,h1,h2⟩)) ?_)));rintro⟨⟨sA,sc⟩,⟨wA,wc⟩⟩ -;dsimp only[mmc,mmr,List.cons_append,List.nil_append];refine yH (vs:=[(0,.agg ([.slice sA fs.length sc,.slice wA fs.length wc]:List Value).toArray)]) [.slice sA fs.length sc,.slice wA fs.length wc] J J U109 F.ti112 J J J (Lit.agg (l1:=[.slice sA fs.length sc,.slice wA fs.length wc]) J (rfl)) ?_;intro b14;refine wX (n:=1) 2 J (by unfold maxLen;omega) (.head _) (jX (vs:=[(0,_)]) J J Tryz.underlying104 F.ti109 J J J ?_);intro b15;refine wX (n:=1) 1 J (by unfold maxLen;omega) (.head _) (lax J J (csr (zI J J F.fi25_0 F.ti22 (zQ J J F.one22 (jP J J Tryz.underlying22 (kR (X:=Option Addr×Nat×List Meta) (vs:=[_]) (p:=fun y=>y.2.2.reverse.map (·.2.2)=exts [] fs.length) (val:=fun y=>.slice y.1 y.2.2.length y.2.1) (rs:=fun y=>.row 23 1 y.1 y.2.2.length y.2.1 (y.2.2.reverse.map mcell)::y.2.2.map mrow) J J F.ent75 (fun a w ha=>(zT2 fs.length hc.f3 w).mono (fun e w' h=>by obtain⟨A',c',S',h1,h2,h3⟩:=h;exact⟨(A',c',S'),h1,h2,h3⟩)) ?_))))));rintro⟨A4,c4,S⟩ hS;dsimp only at hS ⊢;have hSl:S.length=4^fs.length:=by have h:=congrArg List.length hS;rw[wV] at h;simpa using h
 have hS64:=Nat.pow_le_pow_right (n:=4) (by decide) hc.f3;have hS0:0<4^fs.length:=Nat.pow_pos (by decide);refine zBg (List.Perm.cons _ List.perm_append_comm) ?_;simp only[List.cons_append,List.nil_append];refine lax J J (zD (zD (zM ?_)));have hd4:=hc.d4;have hf3:=hc.f3;refine yE A4 om ?_;intro g4 hg4;refine lax J J (zU (xH (G:=Nat×Option Addr×Nat×List LZ) (fun g=>g.1<=days.length∧g.2.2.2.reverse.map lmor=(List.range (g.1+1)).map (fun i=>lvlL fs kiln (days.take i))) (fun g=>days.length-g.1) (fun g=>[(1,pt b1),(3,.slice g.2.1 g.2.2.2.length g.2.2.1),(4,.slice A4 S.length c4),(5,.int .i64 (g.1:Int))]) (fun g=>.row 109 1 g.2.1 g.2.2.2.length g.2.2.1 (g.2.2.2.reverse.map lcell)::.blk b1 (.cells (CA fA fs.length fc kiln dA days.length dc).toArray 25 (0,0))::.row 23 1 A4 S.length c4 (S.reverse.map mcell)::(g.2.2.2.flatMap (lrow fs.length)++S.map mrow)) (0,some ⟨b15,0,none⟩,1,[(some ⟨b14,0,none⟩,1,[((sA,sc),(wA,wc),start fs)])]) ⟨Nat.zero_le _,rfl⟩ sbn (by simp only[lrow,List.flatMap_cons,List.flatMap_nil,List.append_nil,List.reverse_cons,List.reverse_nil,List.nil_append,List.cons_append,mmr,mmc,List.map_cons,List.map_nil,lcell,List.length_cons,List.length_nil,Nat.zero_add];repeat (first|exact Pck.nil _|exact Pck.refl _|(apply Pck.cons;focus ((repeat (first|exact Rem.here _|apply Rem.there));done))|refine Pck.skip _ ?_)) ?_));rintro⟨d,oA,oc,LS⟩ ⟨hd0,hLS⟩;dsimp only at hd0 hLS ⊢;have hLl:LS.length=d+1:=by have h:=congrArg List.length hLS;simpa using h
 refine zD (csr (zA J J (zI J J F.fi25_2 F.ti23 (zQ J J F.one23 (jP J J U23 (zG J J J jY ?_))))))
 refine lnx (zJ J (fun hc0=>?_) (fun hc0=>?_))
 ·have hd:d<days.length:=om;obtain⟨bd,bo,hdA,hbd,hcd⟩:=hD om;obtain⟨sg,hsg⟩:∃y,days[d]?=some y:=⟨_,List.getElem?_eq_getElem hd⟩;have hsg12:=hc.dd sg (List.mem_of_getElem? hsg);obtain⟨x,hx⟩:∃y,LS.reverse[d]?=some y:=⟨_,List.getElem?_eq_getElem (by simp;omega)⟩;have hxL:x∈LS:=List.mem_reverse.1 (List.mem_of_getElem? hx)
  have hxm:lmor x=lvlL fs kiln (days.take d):=by
   have h:=yF hLS hx;rw[List.getElem?_map,List.getElem?_range om] at h;injection h with h;exact h.symm
  have hxok:∀m∈x.2.2,MOk m.2.2∧Thin fs.length m.2.2:=fun m hm=>by
   have h:m.2.2∈lvlL fs kiln (days.take d):=hxm▸List.mem_map_of_mem (List.mem_reverse.2 hm);exact⟨(jEr.1 h).ok hc.f3 hc.ff _ _,(jEr.1 h).thin hc.f3 hc.ff _ _⟩
  have hxn:x.2.2.length<=1000:=by
   rw[<-zAd,hxm];exact zC6 (zC2 _) fun m hm=>(jEr.1 hm).ok hc.f3 hc.ff _ _
  have hten:=zNs hc.f3;refine zP (zE (zD (zU (csr (lax J J (csr (yE oA om ?_)))))));intro g3 hg3;refine zI J J F.fi25_0 F.ti22 (zQ J J F.one22 (jP J J Tryz.underlying22 (kR (X:=Nat) (vs:=[_,_]) (p:=fun _=>True) (val:=fun y=>.slice (some ⟨y,0,none⟩) (ten fs.length) (ten fs.length)) (rs:=fun y=>[.row 3 1 (some ⟨y,0,none⟩) (ten fs.length) (ten fs.length) (zis (tabK (ten fs.length) (cods fs.length []) 0))]) J J F.ent76 (fun a w ha=>(zYb (l:=[]) (A:=none) (c:=0) hc.f3 (fun _ h=>nomatch h) (by simp) w ⟨fun h=>absurd h (Nat.lt_irrefl _),fun _ h=>nomatch h⟩).mono (fun e w' h=>by obtain⟨b,h1,h2⟩:=h;exact⟨b,trivial,h1,h2⟩)) ?_)));rintro b30 -;dsimp only[List.cons_append,List.nil_append];refine lax J J (zD (csr (lax J J (zU (zAo 112 2 (xH (G:=Nat×Option Addr×Nat×List MZ) (fun g=>g.1<=x.2.2.length∧g.2.2.2.reverse.map (·.2.2)=fndL fs kiln sg (lmor x) g.1) (fun g=>x.2.2.length-g.1) (fun g=>[(1,pt b1),(3,.slice oA LS.length oc),(4,.slice A4 S.length c4),(5,.int .i64 (d:Int)),(6,.slice g.2.1 g.2.2.2.length g.2.2.1),(7,.slice (some ⟨b30,0,none⟩) (ten fs.length) (ten fs.length)),(8,.int .i64 (g.1:Int))]) (fun g=>.row 112 2 g.2.1 g.2.2.2.length g.2.2.1 (g.2.2.2.reverse.flatMap (mmc fs.length))::.row 3 1 (some ⟨b30,0,none⟩) (ten fs.length) (ten fs.length) (zis (tabK (ten fs.length) (cods fs.length g.2.2.2.reverse) g.2.2.2.length))::.row 109 1 oA LS.length oc (LS.reverse.map lcell)::.blk b1 (.cells (CA fA fs.length fc kiln dA days.length dc).toArray 25 (0,0))::.row 23 1 A4 S.length c4 (S.reverse.map mcell)::(g.2.2.2.flatMap (mmr fs.length)++(LS.flatMap (lrow fs.length)++S.map mrow))) (0,none,0,[]) ⟨Nat.zero_le _,rfl⟩ sbn pkk ?_))))));rintro⟨i,A6,c6,R⟩ ⟨hi0,hR⟩;dsimp only at hi0 hR ⊢;refine zD (csr (zA J J (zA J J (zA J J (kF (j:=d) J (show _=some (Value.slice (some ⟨g3,0,none⟩) LS.length oc) from by rw[<-hg3];rfl) J Tryz.underlying104 F.ti109 J om (kE (v:=.slice x.1 x.2.2.length x.2.1) J J F.one109 (fun a w ha=>xO ha (InR.mem (A:=oA)) hg3 (by rw[show 0+d*1=d from by omega];exact zA4 hx)) (jP J J Tryz.underlying109 (zG J J J jY ?_))))))))
  refine lnx (zJ J (fun hc1=>?_) (fun hc1=>?_))
  ·have hi:i<x.2.2.length:=om;obtain⟨m,hm⟩:∃y,x.2.2.reverse[i]?=some y:=⟨_,List.getElem?_eq_getElem (by simp;omega)⟩;have hmx:m∈x.2.2:=List.mem_reverse.1 (List.mem_of_getElem? hm);have hml:(lmor x)[i]?=some m.2.2:=by unfold lmor;rw[List.getElem?_map,hm];rfl
   obtain⟨hmok,hmth⟩:=hxok m hmx;obtain⟨⟨mA,mc⟩,⟨vA,vc⟩,mo⟩:=m;dsimp only at hml hmok hmth;refine zP (zE (zD (zU (csr (zE3 (fun a w ha=>zBq (ha.own _ ((show ∀r∈lrow fs.length x,r∈_ from (by intro r hr;repeat (first|exact List.mem_append_right _ (List.mem_append_left _ (List.mem_flatMap.2 ⟨x,hxL,hr⟩))|apply List.Mem.tail))) _ (List.mem_cons_self ..))) om) ?_)))));rintro⟨gx,hgx⟩;refine lax J J (zU (xH (G:=Nat×Option Addr×Nat×List MZ) (fun g=>g.1<=S.length∧g.2.2.2.reverse.map (·.2.2)=(candL fs kiln sg mo ((exts [] fs.length).take g.1)).foldl addM (fndL fs kiln sg (lmor x) i)) (fun g=>S.length-g.1) (fun g=>[(1,pt b1),(3,.slice oA LS.length oc),(4,.slice A4 S.length c4),(5,.int .i64 (d:Int)),(6,.slice g.2.1 g.2.2.2.length g.2.2.1),(7,.slice (some ⟨b30,0,none⟩) (ten fs.length) (ten fs.length)),(8,.int .i64 (i:Int)),(9,.int .i64 (g.1:Int))]) (fun g=>.row 112 2 g.2.1 g.2.2.2.length g.2.2.1 (g.2.2.2.reverse.flatMap (mmc fs.length))::.row 3 1 (some ⟨b30,0,none⟩) (ten fs.length) (ten fs.length) (zis (tabK (ten fs.length) (cods fs.length g.2.2.2.reverse) g.2.2.2.length))::.row 109 1 oA LS.length oc (LS.reverse.map lcell)::.blk b1 (.cells (CA fA fs.length fc kiln dA days.length dc).toArray 25 (0,0))::.row 23 1 A4 S.length c4 (S.reverse.map mcell)::(g.2.2.2.flatMap (mmr fs.length)++(LS.flatMap (lrow fs.length)++S.map mrow))) (0,A6,c6,R) ⟨Nat.zero_le _,by simp[candL,hR]⟩ sbn pkk ?_));rintro⟨k,A6,c6,R⟩ ⟨hk0,hR⟩;dsimp only at hk0 hR ⊢;refine zD (csr (zA J J (zA J J (jP J J U35 (zG J J J jY ?_)))))
   refine lnx (zJ J (fun hc2=>?_) (fun hc2=>?_))
   ·have hk:k<S.length:=om;obtain⟨s,hs⟩:∃y,S.reverse[k]?=some y:=⟨_,List.getElem?_eq_getElem (by simp;omega)⟩;have hsS:s∈S:=List.mem_reverse.1 (List.mem_of_getElem? hs);have hsl:(exts [] fs.length)[k]?=some s.2.2:=yF hS hs;have hsn:s.2.2.length=fs.length:=by rw[yS _ _ _ (List.mem_of_getElem? hsl),List.length_nil];omega
    have hRa:∀y∈R.reverse.map (·.2.2),MOk y∧Thin fs.length y:=by
     rw[hR];refine zLj _ _ (zZr hc.f3 hc.ff fun z hz=>?_) (zPm hc.f3 hc.ff hmok hmth fun a ha=>zNw a (List.mem_of_mem_take ha));rw[hxm] at hz;exact⟨(jEr.1 hz).ok hc.f3 hc.ff _ _,(jEr.1 hz).thin hc.f3 hc.ff _ _⟩
    have hRn:R.length<=1000:=by
     have h:=zC6 (l:=R.reverse.map (·.2.2)) (by rw[hR];exact zCg _ _ zSc) fun y hy=>(hRa y hy).1;simpa using h
    refine zP (zE (zD (zU (zD ?_))));rcases hD:dayE fs kiln mo s.2.2 sg with ⟨e,m1⟩
    obtain rfl|⟨er,rfl⟩:e=0∨∃er,e=er+1:=by
     cases e with
     | zero=>exact .inl rfl
     | succ er=>exact .inr ⟨er,rfl⟩
    ·refine xK (G:=Nat×(Option Addr×Nat)×(Option Addr×Nat)) (fun _=>True) (fun g=>[(10,.pointer (some ⟨g.1,0,none⟩)),(11,.int .i64 0),(1,pt b1),(3,.slice oA LS.length oc),(4,.slice A4 S.length c4),(5,.int .i64 (d:Int)),(6,.slice A6 R.length c6),(7,.slice (some ⟨b30,0,none⟩) (ten fs.length) (ten fs.length)),(8,.int .i64 (i:Int)),(9,.int .i64 (k:Int))]) (fun g=>.row 3 1 g.2.1.1 fs.length g.2.1.2 (ints (sts fs.length m1))::.row 4 1 g.2.2.1 fs.length g.2.2.2 (bools (wbs fs.length m1))::.blk g.1 (.cells #[.slice g.2.1.1 fs.length g.2.1.2,.slice g.2.2.1 fs.length g.2.2.2] 112 (0,0))::.row 112 2 A6 R.length c6 (R.reverse.flatMap (mmc fs.length))::.row 3 1 (some ⟨b30,0,none⟩) (ten fs.length) (ten fs.length) (zis (tabK (ten fs.length) (cods fs.length R.reverse) R.length))::.row 109 1 oA LS.length oc (LS.reverse.map lcell)::.blk b1 (.cells (CA fA fs.length fc kiln dA days.length dc).toArray 25 (0,0))::.row 23 1 A4 S.length c4 (S.reverse.map mcell)::(R.flatMap (mmr fs.length)++(LS.flatMap (lrow fs.length)++S.map mrow))) ?_ ?_
     ·refine jU [] F.follows 24 J [false,false,false,false,false,false,false,false,false,false,false,false,false,false,false,false,false,false,false,false,false,false,false,false] J (zC 0 J J J (kS J F.agg25 F.ti25) (zC 1 J J J (zT J F.fi25_2 F.ti23) (zC 2 J J J (jN J F.one23) (zC 3 J J J (zW J) (zC 4 J J J (kQ (j:=d) (show _=some (Value.slice (some ⟨bd,bo,none⟩) days.length dc) from by rw[<-hdA];rfl) J Tryz.underlying23 F.ti3 J hd) (zC 5 J J J (kL (v:=.int .i64 (sg:Int)) J F.one3 (fun a w ha=>ha.old (hcd d _ hsg 0 _ J) hbd)) (zC 6 J J J (zW J) (zC 7 J J J (zW J) (zC 8 J J J (kQ (j:=d) (show _=some (Value.slice (some ⟨g3,0,none⟩) LS.length oc) from by rw[<-hg3];rfl) J Tryz.underlying104 F.ti109 J om) (zC 9 J J J (kL (v:=.slice x.1 x.2.2.length x.2.1) J F.one109 (fun a w ha=>xO ha (InR.mem (A:=oA)) hg3 (by rw[show 0+d*1=d from by omega];exact zA4 hx))) (zC 10 J J J (zW J) (zC 11 J J J (kQ (j:=i) (show _=some (Value.slice (some ⟨gx,0,none⟩) x.2.2.length x.2.1) from by rw[<-hgx];rfl) J Tryz.underlying109 F.ti112 J hi) ?_))))))))))))
      refine zDq 12 J J J kr kr kr sbl (vB (l:=[.slice mA fs.length mc,.slice vA fs.length vc]) J F.agg112 F.ti112 J (fun a w ha j u hu=>by
       obtain⟨b9,o9,h1,_,h3⟩:=(zFr ha (x:=x) (n:=fs.length) (by intro r hr;repeat (first|exact List.mem_append_right _ (List.mem_append_left _ (List.mem_flatMap.2 ⟨x,hxL,hr⟩))|apply List.Mem.tail))).outer (by simp;omega);rw[hgx] at h1
       cases h1
       exact h3 i _ hm j u hu)) J ?_
      refine zC 13 J J J (zW J) (zC 14 J J J (zW J) (zC 15 J J J (kQ (j:=k) (show _=some (Value.slice (some ⟨g4,0,none⟩) S.length c4) from by rw[<-hg4];rfl) J Tryz.underlying35 F.ti23 J hk) (zC 16 J J J (kL (v:=.slice s.1 s.2.2.length s.2.1) J F.one23 (fun a w ha=>xO ha (InR.mem (A:=A4)) hg4 (by rw[show 0+k*1=k from by omega];exact zGs hs))) ?_)))
      refine qV 17 21 kr J J J J ?_ ?_
      ·refine kR (X:=(Option Addr×Nat)×(Option Addr×Nat)) (vs:=[_,_,_,_]) (p:=fun _=>True) (val:=fun y=>.tuple #[.agg (mmc fs.length (y.1,y.2,m1)).toArray,.int .i64 0]) (rs:=fun y=>mmr fs.length (y.1,y.2,m1)) J J F.ent77 (fun a w ha=>(zHd (nd:=days.length) (dA:=dA) (dc:=dc) hc.f3 hc.ff hmok hsn om w (hF.later ha.below) ((zFr ha (x:=x) (n:=fs.length) (by intro r hr;repeat (first|exact List.mem_append_right _ (List.mem_append_left _ (List.mem_flatMap.2 ⟨x,hxL,hr⟩))|apply List.Mem.tail))).inner _ (List.mem_reverse.2 hmx)) (zEy ha (by repeat (first|exact List.mem_append_right _ (List.mem_append_right _ (List.mem_map_of_mem hsS))|apply List.Mem.tail)))).mono (fun e w' h=>by
        rw[hD] at h;rcases h with ⟨_,sA,sc,wA,wc,h1,h2⟩|⟨h0,_⟩
        ·exact⟨((sA,sc),(wA,wc)),trivial,h1,h2⟩
        ·exact absurd J h0)) ?_
       rintro⟨⟨qA,qc⟩,⟨uA,uc⟩⟩ -;dsimp only[mmc,mmr,List.cons_append,List.nil_append];refine zB (anb (zC 18 J J J (zW J) (zC 19 J J J (kB J J) (zC 20 J J J (kB J J) (an1 21 J (zZ J F.ti112 ?_))))));intro b10;exact zB (anb (an1 22 J (zF J J F.ti112 J (zB (anb (zC 23 J J J (jW J) (adn (jV (b10,(qA,qc),(uA,uc)) trivial sbn pkk))))))))
      ·refine zZ J F.ti112 ?_;intro b10;refine zB (anb (an1 17 J ?_))
       refine kR (X:=(Option Addr×Nat)×(Option Addr×Nat)) (vs:=[_,_,_,_]) (p:=fun _=>True) (val:=fun y=>.tuple #[.agg (mmc fs.length (y.1,y.2,m1)).toArray,.int .i64 0]) (rs:=fun y=>mmr fs.length (y.1,y.2,m1)) J J F.ent77 (fun a w ha=>(zHd (nd:=days.length) (dA:=dA) (dc:=dc) hc.f3 hc.ff hmok hsn om w (hF.later ha.below) ((zFr ha (x:=x) (n:=fs.length) (by intro r hr;repeat (first|exact List.mem_append_right _ (List.mem_append_left _ (List.mem_flatMap.2 ⟨x,hxL,hr⟩))|apply List.Mem.tail))).inner _ (List.mem_reverse.2 hmx)) (zEy ha (by repeat (first|exact List.mem_append_right _ (List.mem_append_right _ (List.mem_map_of_mem hsS))|apply List.Mem.tail)))).mono (fun e w' h=>by
        rw[hD] at h;rcases h with ⟨_,sA,sc,wA,wc,h1,h2⟩|⟨h0,_⟩
        ·exact⟨((sA,sc),(wA,wc)),trivial,h1,h2⟩
        ·exact absurd J h0)) ?_
       rintro⟨⟨qA,qc⟩,⟨uA,uc⟩⟩ -;dsimp only[mmc,mmr,List.cons_append,List.nil_append];exact zB (anb (zC 18 J J J (zW J) (zC 19 J J J (kB J J) (zC 20 J J J (kB J J) (an1 22 J (zF J J F.ti112 J (zB (anb (zC 23 J J J (jW J) (adn (jV (b10,(qA,qc),(uA,uc)) trivial sbn pkk)))))))))))
     ·rintro⟨b10,⟨qA,qc⟩,⟨uA,uc⟩⟩ -;(try dsimp only);refine zE (zD ?_)
      have h1ok:MOk m1:=by
       have h:=(wM (kiln:=kiln) (acts:=s.2.2) (sugar:=sg) hc.ff hmok om hc.f3).1;rw[hD] at h;exact h
      have h1th:=zIh hc.f3 h1ok hmth hsn hD;have hlt:cdM m1 fs.length<ten fs.length:=zI0 h1ok _;have hst:=zJ1 (fs:=fs) (kiln:=kiln) (d:=sg) (m:=mo) hsl;rw[hD,if_pos J] at hst
      rcases zNf (cs:=cods fs.length R.reverse) hlt R.length (by simp[cods]) with ⟨hg,hnew⟩|⟨jj,hj1,hj2,hg⟩
      ·refine zM (zA J J (zG J J J kD (zA J J (zN J J (zA J J (zN J J (jB J J F.agg112 F.ti112 (zN J J (jG (v:=.int .i64 ((cdM m1 fs.length:Nat):Int)) (vs:=[_]) J J F.ent78 (fun a w ha=>zHo hc.f3 h1ok w (zNc ha (x:=((qA,qc),(uA,uc),m1)) (by intro r hr;simp only[mmr,List.mem_cons,List.not_mem_nil,or_false] at hr;rcases hr with rfl|rfl<;>simp))) (zN J J (kF (j:=cdM m1 fs.length) J J J Tryz.underlying23 F.ti3 J hlt (zN J J (kE (v:=.int .i64 (-1)) J J F.one3 (fun a w ha=>xO ha (InR.mem (A:=some ⟨b30,0,none⟩)) J (by rw[show 0+cdM m1 fs.length*1=cdM m1 fs.length from by omega];unfold zis;rw[List.getElem?_map,hg];rfl)) ?_)))))))))))));refine zN J J (zG J J J jY (jI J J J (lnx (qE J (csr (zA J J (jB J J F.agg112 F.ti112 (jG (v:=.int .i64 ((cdM m1 fs.length:Nat):Int)) (vs:=[_]) J J F.ent78 (fun a w ha=>zHo hc.f3 h1ok w (zNc ha (x:=((qA,qc),(uA,uc),m1)) (by intro r hr;simp only[mmr,List.mem_cons,List.not_mem_nil,or_false] at hr;rcases hr with rfl|rfl<;>simp))) (zA J J (jP J J Tryz.underlying109 (kF (j:=cdM m1 fs.length) J J J Tryz.underlying23 F.ti3 J hlt (yW (A:=some ⟨b30,0,none⟩) (zis (tabK (ten fs.length) (cods fs.length (((qA,qc),(uA,uc),m1)::R).reverse) (R.length+1))) (show _=some (Value.pointer (some ⟨b30,0+cdM m1 fs.length*1,none⟩)) from rfl) J F.ti3 J (by rw[zKo,zFb];omega) (by rw[show 0+cdM m1 fs.length*1=cdM m1 fs.length from by omega,zKz];have h:=zWn (n:=ten fs.length) (cs:=cods fs.length R.reverse) (c:=cdM m1 fs.length);simp only[cods,List.length_map,List.length_reverse] at h ⊢;rw[<-h,List.reverse_cons,List.map_append];rfl) (lnx (zM (zA J J (jB J J F.agg112 F.ti112 (yH (vs:=[(0,.agg ([.slice qA fs.length qc,.slice uA fs.length uc]:List Value).toArray)]) [.slice qA fs.length qc,.slice uA fs.length uc] J J Tryz.underlying109 F.ti112 J J J (Lit.agg (l1:=[.slice qA fs.length qc,.slice uA fs.length uc]) J (rfl)) ?_)))))))))))))))));intro b85;refine kH J J J Tryz.underlying109 F.ti112 J J J (by unfold maxLen;omega) om ?_;intro A86 c86;refine zH J J (zB (zK (zE (zM (zA J J (zG J J J (fun w=>jL w (zV _ om om)) (zH J J (zB ?_))))))));have hnm:m1∉R.reverse.map (·.2.2):=fun hm1=>hnew (by rw[List.take_of_length_le (by simp[cods])];exact (zN5 (fun y hy=>hRa _ (List.mem_map_of_mem hy)) h1ok h1th).2 hm1);refine qI (k+1,A86,c86,((qA,qc),(uA,uc),m1)::R) ⟨by (try dsimp only);omega,?_⟩ tdo (by dsimp only;rw[List.length_cons];repeat (first|exact Sub.nil _|refine Sub.cons J ?_)) (by dsimp only;rw[List.length_cons,zX6];simp only[List.flatMap_cons,mmr,mmc,List.cons_append,List.nil_append];repeat (first|exact Pck.nil _|exact Pck.refl _|(apply Pck.cons;focus ((repeat (first|exact Rem.here _|apply Rem.there));done))|refine Pck.skip _ ?_));dsimp only;rw[hst,List.foldl_append,<-hR,zAa];show _=addM _ m1;unfold addM;rw[if_neg hnm]
      ·refine zM (zA J J (zG J J J kD (zA J J (zN J J (zA J J (zN J J (jB J J F.agg112 F.ti112 (zN J J (jG (v:=.int .i64 ((cdM m1 fs.length:Nat):Int)) (vs:=[_]) J J F.ent78 (fun a w ha=>zHo hc.f3 h1ok w (zNc ha (x:=((qA,qc),(uA,uc),m1)) (by intro r hr;simp only[mmr,List.mem_cons,List.not_mem_nil,or_false] at hr;rcases hr with rfl|rfl<;>simp))) (zN J J (kF (j:=cdM m1 fs.length) J J J Tryz.underlying23 F.ti3 J hlt (zN J J (kE (v:=.int .i64 (jj:Int)) J J F.one3 (fun a w ha=>xO ha (InR.mem (A:=some ⟨b30,0,none⟩)) J (by rw[show 0+cdM m1 fs.length*1=cdM m1 fs.length from by omega];unfold zis;rw[List.getElem?_map,hg];rfl)) ?_)))))))))))));refine zN J J (zG J J J jY ?_)
       refine jI J J J (lnx (zJ J (fun hc3=>?_) (fun hc3=>?_)))
       ·omega
        done
       ·refine zP (zK (zE (zM (zA J J (zG J J J (fun w=>jL w (zV _ om om)) (zH J J (zB ?_)))))));have hm1:m1∈R.reverse.map (·.2.2):=(zN5 (fun y hy=>hRa _ (List.mem_map_of_mem hy)) h1ok h1th).1 (List.mem_of_getElem? hj2);refine qI (k+1,A6,c6,R) ⟨by (try dsimp only);omega,?_⟩ tdo sbn pkk;dsimp only;rw[hst,List.foldl_append,<-hR];show _=addM _ m1;unfold addM;rw[if_pos hm1]
    ·refine xK (G:=Nat) (fun _=>True) (fun g=>[(10,pt g),(11,.int .i64 ((er+1:Nat):Int)),(1,pt b1),(3,.slice oA LS.length oc),(4,.slice A4 S.length c4),(5,.int .i64 (d:Int)),(6,.slice A6 R.length c6),(7,.slice (some ⟨b30,0,none⟩) (ten fs.length) (ten fs.length)),(8,.int .i64 (i:Int)),(9,.int .i64 (k:Int))]) (fun g=>.blk g (.cells #[.slice none 0 0,.slice none 0 0] 112 (0,0))::.row 112 2 A6 R.length c6 (R.reverse.flatMap (mmc fs.length))::.row 3 1 (some ⟨b30,0,none⟩) (ten fs.length) (ten fs.length) (zis (tabK (ten fs.length) (cods fs.length R.reverse) R.length))::.row 109 1 oA LS.length oc (LS.reverse.map lcell)::.blk b1 (.cells (CA fA fs.length fc kiln dA days.length dc).toArray 25 (0,0))::.row 23 1 A4 S.length c4 (S.reverse.map mcell)::(R.flatMap (mmr fs.length)++(LS.flatMap (lrow fs.length)++S.map mrow))) ?_ ?_
     ·refine jU [] F.follows 24 J [false,false,false,false,false,false,false,false,false,false,false,false,false,false,false,false,false,false,false,false,false,false,false,false] J (zC 0 J J J (kS J F.agg25 F.ti25) (zC 1 J J J (zT J F.fi25_2 F.ti23) (zC 2 J J J (jN J F.one23) (zC 3 J J J (zW J) (zC 4 J J J (kQ (j:=d) (show _=some (Value.slice (some ⟨bd,bo,none⟩) days.length dc) from by rw[<-hdA];rfl) J Tryz.underlying23 F.ti3 J hd) (zC 5 J J J (kL (v:=.int .i64 (sg:Int)) J F.one3 (fun a w ha=>ha.old (hcd d _ hsg 0 _ J) hbd)) (zC 6 J J J (zW J) (zC 7 J J J (zW J) (zC 8 J J J (kQ (j:=d) (show _=some (Value.slice (some ⟨g3,0,none⟩) LS.length oc) from by rw[<-hg3];rfl) J Tryz.underlying104 F.ti109 J om) (zC 9 J J J (kL (v:=.slice x.1 x.2.2.length x.2.1) J F.one109 (fun a w ha=>xO ha (InR.mem (A:=oA)) hg3 (by rw[show 0+d*1=d from by omega];exact zA4 hx))) (zC 10 J J J (zW J) (zC 11 J J J (kQ (j:=i) (show _=some (Value.slice (some ⟨gx,0,none⟩) x.2.2.length x.2.1) from by rw[<-hgx];rfl) J Tryz.underlying109 F.ti112 J hi) ?_))))))))))))
      refine zDq 12 J J J kr kr kr sbl (vB (l:=[.slice mA fs.length mc,.slice vA fs.length vc]) J F.agg112 F.ti112 J (fun a w ha j u hu=>by
       obtain⟨b9,o9,h1,_,h3⟩:=(zFr ha (x:=x) (n:=fs.length) (by intro r hr;repeat (first|exact List.mem_append_right _ (List.mem_append_left _ (List.mem_flatMap.2 ⟨x,hxL,hr⟩))|apply List.Mem.tail))).outer (by simp;omega);rw[hgx] at h1
       cases h1
       exact h3 i _ hm j u hu)) J ?_
      refine zC 13 J J J (zW J) (zC 14 J J J (zW J) (zC 15 J J J (kQ (j:=k) (show _=some (Value.slice (some ⟨g4,0,none⟩) S.length c4) from by rw[<-hg4];rfl) J Tryz.underlying35 F.ti23 J hk) (zC 16 J J J (kL (v:=.slice s.1 s.2.2.length s.2.1) J F.one23 (fun a w ha=>xO ha (InR.mem (A:=A4)) hg4 (by rw[show 0+k*1=k from by omega];exact zGs hs))) ?_)))
      refine qV 17 21 kr J J J J ?_ ?_
      ·refine jG (v:=.tuple #[.agg ([.slice none 0 0,.slice none 0 0]:List Value).toArray,.int .i64 ((er+1:Nat):Int)]) (vs:=[_,_,_,_]) J J F.ent77 (fun a w ha=>(zHd (nd:=days.length) (dA:=dA) (dc:=dc) hc.f3 hc.ff hmok hsn om w (hF.later ha.below) ((zFr ha (x:=x) (n:=fs.length) (by intro r hr;repeat (first|exact List.mem_append_right _ (List.mem_append_left _ (List.mem_flatMap.2 ⟨x,hxL,hr⟩))|apply List.Mem.tail))).inner _ (List.mem_reverse.2 hmx)) (zEy ha (by repeat (first|exact List.mem_append_right _ (List.mem_append_right _ (List.mem_map_of_mem hsS))|apply List.Mem.tail)))).mono (fun e w' h=>by
        rw[hD] at h;rcases h with ⟨h0,_⟩|⟨_,h1,h2⟩
        ·exact absurd h0 (Nat.succ_ne_zero er)
        ·exact⟨h1,h2⟩)) ?_
       refine zB (anb (zC 18 J J J (zW J) (zC 19 J J J (kB J J) (zC 20 J J J (kB J J) (an1 21 J (zZ J F.ti112 ?_))))));intro b10;exact zB (anb (an1 22 J (zF J J F.ti112 J (zB (anb (zC 23 J J J (jW J) (adn (jV b10 trivial sbn pkk))))))))
      ·refine zZ J F.ti112 ?_;intro b10;refine zB (anb (an1 17 J ?_))
       refine jG (v:=.tuple #[.agg ([.slice none 0 0,.slice none 0 0]:List Value).toArray,.int .i64 ((er+1:Nat):Int)]) (vs:=[_,_,_,_]) J J F.ent77 (fun a w ha=>(zHd (nd:=days.length) (dA:=dA) (dc:=dc) hc.f3 hc.ff hmok hsn om w (hF.later ha.below) ((zFr ha (x:=x) (n:=fs.length) (by intro r hr;repeat (first|exact List.mem_append_right _ (List.mem_append_left _ (List.mem_flatMap.2 ⟨x,hxL,hr⟩))|apply List.Mem.tail))).inner _ (List.mem_reverse.2 hmx)) (zEy ha (by repeat (first|exact List.mem_append_right _ (List.mem_append_right _ (List.mem_map_of_mem hsS))|apply List.Mem.tail)))).mono (fun e w' h=>by
        rw[hD] at h;rcases h with ⟨h0,_⟩|⟨_,h1,h2⟩
        ·exact absurd h0 (Nat.succ_ne_zero er)
        ·exact⟨h1,h2⟩)) ?_
       exact zB (anb (zC 18 J J J (zW J) (zC 19 J J J (kB J J) (zC 20 J J J (kB J J) (an1 22 J (zF J J F.ti112 J (zB (anb (zC 23 J J J (jW J) (adn (jV b10 trivial sbn pkk)))))))))))
     ·rintro b10 -;(try dsimp only);refine zE (csr (zA J J (zG J J J kD (zA J J (zY J J J (zY J J J (zY J J J (zY J J J (zY J J J (zY J J J (jS J J J (lnx (kN J (zP (zK (zE (zM (zA J J (zG J J J (fun w=>jL w (zV _ om om)) (zH J J (zB ?_)))))))))))))))))))));have hst:=zJ1 (fs:=fs) (kiln:=kiln) (d:=sg) (m:=mo) hsl;rw[hD,if_neg (Nat.succ_ne_zero er),List.append_nil] at hst;refine qI (k+1,A6,c6,R) ⟨by (try dsimp only);omega,by dsimp only;rw[hst,hR]⟩ tdo sbn pkk
   ·obtain rfl:k=S.length:=om;rw[List.take_of_length_le (by rw[wV,hSl];exact Nat.le_refl _),<-zTt hml] at hR;refine jT (zL (zL (jF (zK (zE (zM (zA J J (zG J J J (fun w=>jL w (zV _ om om)) (zH J J (zB (qI (i+1,A6,c6,R) ⟨by (try dsimp only);omega,hR⟩ tdo sbn pkk)))))))))))
  ·obtain rfl:i=x.2.2.length:=om;rw[<-zAd x,zWv,hxm] at hR;refine jT (zL (zL (jF (zE (zM (zA J J (zA J J (jX (vs:=[(0,_)]) J J U104 F.ti109 J J J ?_))))))));intro b89;refine kH J J J Tryz.underlying104 F.ti109 J J J (by unfold maxLen;omega) om ?_;intro A90 c90;refine zH J J (zB (zK (zE (zM (zA J J (zG J J J (fun w=>jL w (zV _ om om)) (zH J J (zB (qI (d+1,A90,c90,(A6,c6,R)::LS) ⟨by (try dsimp only);omega,?_⟩ tdo (by dsimp only;rw[List.length_cons];repeat (first|exact Sub.nil _|refine Sub.cons J ?_)) (by dsimp only;rw[List.length_cons,zAa,List.flatMap_cons,List.append_assoc];simp only[lrow,lcell,List.cons_append];repeat (first|exact Pck.nil _|exact Pck.refl _|(apply Pck.cons;focus ((repeat (first|exact Rem.here _|apply Rem.there));done))|refine Pck.skip _ ?_)))))))))));dsimp only;rw[zAa,hLS,zKk (k:=d+1),show lmor (A6,c6,R)=_ from hR]
   congr 2
   rw[List.take_add_one,hsg];exact zVn.symm
 ·obtain rfl:d=days.length:=om;exact jT (zL (zL (jF (zE (csr (zA J J (lax J J (zS (zX J (fun a w ha=>jJ J J ha) (fun a w ha=>⟨oA,oc,LS,hLS,rfl,ha.grown (.cons_cons _ (.cons _ (.cons _ (List.sublist_append_left _ _))))⟩))))))))))

end
section
variable {A:Option Addr} {w:World}
theorem zNe {n hi:Int} (h:szd n 1 hi=0):1<=n∧n<=hi:=by
 unfold szd at h
 split at h
 ·omega
 ·split at h<;>omega
theorem zUd {f:FltZ} (h:chkF f=0):∃g:Flt,FltOk g∧g.toZ=f:=by
 obtain⟨p,g,n,wd⟩:=f;unfold chkF btw at h
 split at h
 ·rename_i h1;simp only[Bool.and_eq_true,decide_eq_true_eq] at h1;obtain⟨⟨⟨a1,a2⟩,a3,a4⟩,a5,a6⟩:=h1;refine⟨⟨p.toNat,g.toNat,n.toNat,wd⟩,⟨by dsimp only;omega,by dsimp only;omega,by dsimp only;omega,by dsimp only;omega⟩,?_⟩;unfold Flt.toZ;dsimp only;rw[Int.toNat_of_nonneg om,Int.toNat_of_nonneg om,Int.toNat_of_nonneg om]
 ·cases h
theorem zNj:∀(l:List FltZ),(∀f∈l,chkF f=0)->∃m:List Flt,(∀f∈m,FltOk f)∧m.map Flt.toZ=l
 | [],_=>⟨[],fun _ h=>(nomatch h),rfl⟩
 | f::l,h=>by
  obtain⟨g,hg,rfl⟩:=zUd (h f (List.mem_cons_self ..));obtain⟨m,hm,rfl⟩:=zNj l fun x hx=>h x (List.mem_cons_of_mem _ hx);refine⟨g::m,fun x hx=>?_,rfl⟩
  rcases List.mem_cons.1 hx with rfl|hx
  ·exact hg
  ·exact hm x hx
theorem zPy {hi:Nat}:∀(l:List Int),(∀n∈l,btw n 0 hi=true)->∃m:List Nat,(∀n∈m,n<=hi)∧toZs m=l
 | [],_=>⟨[],fun _ h=>(nomatch h),rfl⟩
 | n::l,h=>by
  have h0:=h n (List.mem_cons_self ..);unfold btw at h0;simp only[Bool.and_eq_true,decide_eq_true_eq] at h0;obtain⟨m,hm,rfl⟩:=zPy l fun x hx=>h x (List.mem_cons_of_mem _ hx)
  refine⟨n.toNat::m,fun x hx=>?_,?_⟩
  ·rcases List.mem_cons.1 hx with rfl|hx
   ·omega
   ·exact hm x hx
  ·show ((n.toNat:Nat):Int)::toZs m=_;rw[Int.toNat_of_nonneg h0.1]
theorem zLx {fz:List FltZ} {kz:Int} {dz:List Int} (h:chk fz kz dz=0):∃fs kiln days,ChV fs kiln days∧fs.map Flt.toZ=fz∧((kiln:Nat):Int)=kz∧toZs days=dz:=by
 unfold chk at h
 split at h
 ·rename_i h1;exact absurd h h1
 rename_i h1
 split at h
 ·cases h
 rename_i h2
 split at h
 ·cases h
 rename_i h3
 split at h
 ·rename_i h4;exact absurd h h4
 rename_i h4
 split at h
 ·cases h
 rename_i h5;obtain⟨a1,a2⟩:=zNe (Decidable.not_not.1 h1);obtain⟨b1,b2⟩:=zNe (Decidable.not_not.1 h4)
 obtain⟨fs,hf,rfl⟩:=zNj fz fun f hf=>by
  rcases Nat.eq_zero_or_pos (chkF f) with h|h
  ·exact h
  ·exact absurd (List.any_eq_true.2 ⟨f,hf,by simp;omega⟩) h2
 obtain⟨days,hd,rfl⟩:=zPy (hi:=12) dz fun n hn=>by
  cases hb:btw n 0 12 with
  | true=>rfl
  | false=>exact absurd (List.any_eq_true.2 ⟨n,hn,by rw[hb];rfl⟩) h5
 have hk:0<=kz∧kz<=3:=by
  cases hb:btw kz 0 3 with
  | false=>exact absurd hb h3
  | true =>
   unfold btw at hb;simpa using hb
 rw[List.length_map] at a1 a2;have e:(toZs days).length=days.length:=by unfold toZs;rw[List.length_map]
 rw[e] at b1 b2;exact⟨fs,kz.toNat,days,⟨by omega,by omega,hf,by omega,by omega,by omega,hd⟩,rfl,Int.toNat_of_nonneg hk.1,rfl⟩
theorem RdL.unmapped {α β:Type} {cells:β->List Value} {cl:α->List Value} {size:Nat} {l:List α} (f:α->β) (h:RdL cells size w A (l.map f)) (hc:∀x,cells (f x)=cl x):RdL cl size w A l:=fun hl=>by
 obtain⟨b,o,h1,h2,h3⟩:=h (by simpa using hl);refine⟨b,o,h1,h2,fun k x hk j u hu=>h3 k (f x) (by rw[List.getElem?_map,hk];rfl) j u (by rw[hc];exact hu)⟩
theorem zJy {fs:List Flt} (h:RdL FltZ.cells 4 w A (fs.map Flt.toZ)):RdL Flt.cells 4 w A fs:=RdL.unmapped Flt.toZ h fun _=>rfl
theorem zKe {days:List Nat} (h:RdL zcell 1 w A (toZs days)):RdL ncell 1 w A days:=RdL.unmapped (fun (n:Nat)=>(n:Int)) h fun _=>rfl
theorem vO (l:List Nat):(toZs l).length=l.length:=List.length_map ..
end
section
variable {days:List Nat} {fs:List Flt} {kiln n:Nat} {m:Mor}
theorem zUu:(bstA fs kiln days).is=true↔0<(lvlL fs kiln days).length:=by
 rw[jA4]
 constructor
 ·rintro⟨x,hx⟩;exact List.length_pos_of_mem (jEr.2 hx)
 ·intro h;obtain⟨x,hx⟩:=List.exists_mem_of_length_pos h;exact⟨x,jEr.1 hx⟩
def stgF (b:Int) (m:Mor):Int:=if b<(sumM m:Int) then (sumM m:Int) else b
def stg (l:List Mor):Int:=l.foldl stgF (-1)
theorem zWw {l:List Mor} {i:Nat} (h:l[i]?=some m):stg (l.take (i+1))=if stg (l.take i)<(sumM m:Int) then (sumM m:Int) else stg (l.take i):=by
 unfold stg;rw[List.take_add_one,h,List.foldl_append]
 rfl
theorem zRc:∀(l:List Mor) (b:Int),(l.foldl stgF b=b∨∃m∈l,l.foldl stgF b=(sumM m:Int))∧b<=l.foldl stgF b∧∀m∈l,(sumM m:Int)<=l.foldl stgF b
 | [],b=>⟨.inl rfl,Int.le_refl _,fun _ h=>nomatch h⟩
 | x::l,b=>by
  obtain⟨h1,h2,h3⟩:=zRc l (stgF b x)
  have hb:b<=stgF b x∧(sumM x:Int)<=stgF b x∧(stgF b x=b∨stgF b x=(sumM x:Int)):=by
   unfold stgF
   split<;>omega
  rw[List.foldl_cons]
  refine⟨?_,by omega,fun m hm=>?_⟩
  ·rcases h1 with h1|⟨m,hm,h1⟩
   ·rw[h1]
    rcases hb.2.2 with h|h
    ·exact .inl h
    ·exact .inr ⟨x,List.mem_cons_self ..,h⟩
   ·exact .inr ⟨m,List.mem_cons_of_mem _ hm,h1⟩
  ·rcases List.mem_cons.1 hm with rfl|hm
   ·omega
   ·exact h3 m hm
theorem zPz:MostP fs kiln days (if stg (lvlL fs kiln days)<0 then 0 else (stg (lvlL fs kiln days)).toNat) (if stg (lvlL fs kiln days)<0 then 11 else 0):=by
 obtain⟨h1,h2,h3⟩:=zRc (lvlL fs kiln days) (-1);unfold stg
 split
 ·rename_i h;refine .inr ⟨rfl,rfl,fun m hm=>?_⟩;have:=h3 m (jEr.2 hm);omega
 ·rename_i h
  rcases h1 with h1|⟨m,hm,h1⟩
  ·rw[h1] at h;exact absurd (by decide) h
  ·refine .inl ⟨rfl,⟨m,jEr.1 hm,by rw[h1];rfl⟩,fun x hx=>?_⟩;have:=h3 x (jEr.2 hx);omega
theorem MostP.uniq {e n' e':Nat} (h:MostP fs kiln days n e) (h':MostP fs kiln days n' e'):n=n'∧e=e':=by
 rcases h with ⟨h1,⟨m,hm,h2⟩,h3⟩|⟨h1,h2,h3⟩<;>rcases h' with ⟨h1',⟨m',hm',h2'⟩,h3'⟩|⟨h1',h2',h3'⟩
 ·have a:=h3 m' hm';have b:=h3' m hm;omega
 ·exact absurd hm (h3' m)
 ·exact absurd hm' (h3 m')
 ·omega
def FailsQ (fs:List Flt) (kiln:Nat) (days:List Nat) (n e:Nat):Prop:=∃d,d<=days.length∧(∀j,j<d->(bstA fs kiln (days.take (j+1))).is=true)∧(d<days.length->(bstA fs kiln (days.take (d+1))).is=false)∧n=(if d<days.length then d else 0)∧e=(if d<days.length then 0 else 11)
theorem vW (n:Nat) (m:Mor):(sts (n+1) m).sum=(sts n m).sum+m.s.getD n 0:=by rw[zOk];simp
theorem zKb (h:MOk m):∀n,(sts n m).sum<=4*n
 | 0=>by simp[sts]
 | n+1=>by
  have:=zKb h n;have h4:m.s.getD n 0<=4:=mok4 h n;rw[vW];omega
theorem zZ7 (h3:n<=3) (ht:Thin n m):(sts n m).sum=sumM m:=by
 have a:∀i,n<=i->m.s.getD i 0=0:=fun i hi=>(ht i hi).1;unfold sumM;have h:n=0∨n=1∨n=2∨n=3:=om
 rcases h with rfl|rfl|rfl|rfl
 ·rw[a 0 om,a 1 om,a 2 om];rfl
 ·rw[a 1 om,a 2 om,vW];simp[sts]
 ·rw[a 2 om,vW,vW];simp[sts]
 ·rw[vW,vW,vW];simp[sts]
def RawP {α:Type} (P:List Flt->Nat->List Nat->α->Prop) (err:Nat->α) (fz:List FltZ) (kz:Int) (dz:List Int) (x:α):Prop :=
 (chk fz kz dz≠0∧x=err (chk fz kz dz))∨∃fs kiln days,ChV fs kiln days∧fs.map Flt.toZ=fz∧((kiln:Nat):Int)=kz∧toZs days=dz∧P fs kiln days x
theorem zQ6:∀{l m:List Flt},l.map Flt.toZ=m.map Flt.toZ->l=m
 | [],[],_=>rfl
 | [],_::_,h=>nomatch h
 | _::_,[],h=>nomatch h
 | x::l,y::m,h=>by
  rw[List.map_cons,List.map_cons] at h;injection h with h1 h2;rw[zQ6 h2]
  congr 1
  obtain⟨a,b,c,d⟩:=x;obtain⟨a',b',c',d'⟩:=y;unfold Flt.toZ at h1;injection h1 with e1 e2 e3 e4;dsimp only at e1 e2 e3 e4;rw[Int.ofNat_inj.1 e1,Int.ofNat_inj.1 e2,Int.ofNat_inj.1 e3,e4]
theorem zN1:∀{l m:List Nat},toZs l=toZs m->l=m
 | [],[],_=>rfl
 | [],_::_,h=>nomatch h
 | _::_,[],h=>nomatch h
 | x::l,y::m,h=>by
  unfold toZs at h;rw[List.map_cons,List.map_cons] at h;injection h with h1 h2;rw[zN1 (l:=l) (m:=m) h2,Int.ofNat_inj.1 h1]
theorem RawP.uniq {α:Type} {P:List Flt->Nat->List Nat->α->Prop} {err:Nat->α} {fz:List FltZ} {kz:Int} {dz:List Int} {x y:α} (hP:∀fs kiln days,ChV fs kiln days->P fs kiln days x->P fs kiln days y->x=y) (h:RawP P err fz kz dz x) (h':RawP P err fz kz dz y):x=y:=by
 rcases h with ⟨h1,h2⟩|⟨fs,kiln,days,hc,h1,h2,h3,h4⟩<;>rcases h' with ⟨h1',h2'⟩|⟨fs',kiln',days',hc',h1',h2',h3',h4'⟩
 ·rw[h2,h2']
 ·subst h1' h2' h3';exact absurd (chk0 hc') h1
 ·subst h1 h2 h3;exact absurd (chk0 hc) h1'
 ·subst h1 h2 h3;obtain rfl:=zQ6 h1';obtain rfl:=zN1 h3';obtain rfl:=Int.ofNat_inj.1 h2';exact hP _ _ _ hc h4 h4'
end
section
variable [I:Sys]
theorem F.ent111:Enters Tryz.prog 111:=jC Tryz.func111 rfl kr
theorem F.ent73:Enters Tryz.prog 73:=jC Tryz.func73 rfl kr
theorem zOp {A:Option Addr} {c n:Nat} {l:List MZ} (h3:n<=3) (hok:∀x∈l,MOk x.2.2∧Thin n x.2.2) (hll:l.length<=1000) (w:World) (hM:RdMs n w A l):Calls Tryz.prog 111 #[.slice A l.length c] w fun e w'=>e=.returned (.int .i64 (stg (l.map (·.2.2))))∧Grew w w' []:=by
 refine enter (N:=37) [(0,.slice A l.length c)] Tryz.func111 J Tryz.ntmps111 J J (csr (lax J J (csr (lax J J (zD (csr (lax J J (zU (qR (G:=Nat) (fun i=>i<=l.length) (fun i=>l.length-i) (fun i=>[(0,.slice A l.length c),(3,.int .i64 (stg ((l.map (·.2.2)).take i))),(4,.int .i64 (i:Int))]) (fun i=>[]) 0 (Nat.zero_le _) sbn sbl ?_)))))))));intro i hi;(try dsimp only at hi ⊢);refine zD (csr (zA J J (zA J J (jP J J U109 (zG J J J jY ?_)))))
 refine lnx (zJ J (fun hc0=>?_) (fun hc0=>?_))
 ·have hi2:i<l.length:=om;obtain⟨b,o,hAe,hb,hcell⟩:=hM.outer om;obtain⟨x,hx⟩:∃x,l[i]?=some x:=⟨_,List.getElem?_eq_getElem hi2⟩;have hxm:=List.mem_of_getElem? hx;have hin:=hM.inner x hxm;obtain⟨hmo,hth⟩:=hok x hxm;obtain⟨⟨sA,sc⟩,⟨wA,wc⟩,m⟩:=x;dsimp only at hmo hth;have hst:=zWw (l:=l.map (·.2.2)) (i:=i) (m:=m) (by rw[List.getElem?_map,hx];rfl);refine zP (zE (zD (zU (csr (lax J J (zD (csr (lax J J (zU (qR (G:=Nat) (fun k=>k<=n) (fun k=>n-k) (fun k=>[(0,.slice A l.length c),(3,.int .i64 (stg ((l.map (·.2.2)).take i))),(4,.int .i64 (i:Int)),(5,.int .i64 (((sts k m).sum:Nat):Int)),(6,.int .i64 (k:Int))]) (fun k=>[]) 0 (Nat.zero_le _) sbn sbl ?_))))))))));intro k hk;(try dsimp only at hk ⊢);refine zD (csr (zA J J (zA J J (zA J J (kF (j:=i) J (show _=some (Value.slice (some ⟨b,o,none⟩) l.length c) from by rw[<-hAe];rfl) J Tryz.underlying109 F.ti112 J hi2 (vX J J F.fi112_0 F.ti23 (kE (v:=.slice sA n sc) J J F.one23 (fun a w ha=>ha.old (hcell i _ hx 0 _ J) hb) (jP J J Tryz.underlying23 (zG J J J jY ?_)))))))))
  refine lnx (zJ J (fun hc1=>?_) (fun hc1=>?_))
  ·have hk2:k<n:=om;obtain⟨bs,os,hsA,hbs,hcs⟩:=hin.s (by rw[zHc];omega);have hle:=zKb hmo k;have h4:m.s.getD k 0<=4:=mok4 hmo k;have hss:=vW k m;refine zP (zE (zD (zU (zM (zA J J (zA J J (zA J J (kF (j:=i) J (show _=some (Value.slice (some ⟨b,o,none⟩) l.length c) from by rw[<-hAe];rfl) J Tryz.underlying109 F.ti112 J hi2 (vX J J F.fi112_0 F.ti23 (kE (v:=.slice sA n sc) J J F.one23 (fun a w ha=>ha.old (hcell i _ hx 0 _ J) hb) (zA J J (kF (j:=k) J (show _=some (Value.slice (some ⟨bs,os,none⟩) n sc) from by rw[<-hsA];rfl) J Tryz.underlying23 F.ti3 J hk2 (kE (v:=.int .i64 ((m.s.getD k 0:Nat):Int)) J J F.one3 (fun a w ha=>ha.old (hcs k _ (zO1 hk2) 0 _ J) hbs) (zG (v:=.int .i64 (((sts (k+1) m).sum:Nat):Int)) J J J (fun w=>jL w (by rw[zV _ om om];omega)) (zH J J (zB (zK (zE (zM (zA J J (zG J J J (fun w=>jL w (zV _ om om)) (zH J J (zB (qC (k+1) om tdo sbn sbl))))))))))))))))))))))))
  ·obtain rfl:n=k:=om;rw[zZ7 h3 hth];refine jT (zL (zL (jF (zE (zM (zA J J (zA J J (zHk J J J ?_))))))));rw[<-hst];refine zH J J (zB (zK (zE (zM (zA J J (zG J J J (fun w=>jL w (zV _ om om)) (zH J J (zB (qC (i+1) om tdo sbn sbl)))))))))
 ·obtain rfl:l.length=i:=om;rw[List.take_of_length_le (by simp)];exact jT (zL (zL (jF (zE (csr (zA J J (lax J J (zS (zX J (fun a w ha=>jJ J J ha) (fun a w ha=>⟨rfl,ha.grown nsl⟩))))))))))

theorem zZt {fA dA:Option Addr} {fc dc kiln day:Nat} {fs:List Flt} {days:List Nat} (hc:ChW fs kiln days) (hday:day<=days.length) (w:World) (hF:RdL Flt.cells 4 w fA fs) (hD:RdL ncell 1 w dA days):Calls Tryz.prog 86 #[.agg (CA fA fs.length fc kiln dA days.length dc).toArray,.int .i64 (day:Int)] w fun e w'=>(∃n er:Nat,MostP fs kiln (days.take day) n er∧e=.returned (.tuple #[.int .i64 (n:Int),.int .i64 (er:Int)]))∧Grew w w' []:=by
 refine enter (N:=16) [(0,.agg (CA fA fs.length fc kiln dA days.length dc).toArray),(1,.int .i64 (day:Int))] Tryz.func86 J Tryz.ntmps86 J J (csr (jM J J ?_));intro b2;refine zH J J (lax J J (csr (jB J J F.agg25 F.ti25 (kR (X:=Option Addr×Nat×List LZ) (vs:=[_]) (p:=fun y=>y.2.2.reverse.map lmor=(List.range (days.length+1)).map (fun i=>lvlL fs kiln (days.take i))) (val:=fun y=>.slice y.1 y.2.2.length y.2.1) (rs:=fun y=>.row 109 1 y.1 y.2.2.length y.2.1 (y.2.2.reverse.map lcell)::y.2.2.flatMap (lrow fs.length)) J J F.ent73 (fun a w ha=>(zIi hc w (hF.later ha.below) (hD.later ha.below)).mono (fun e w' h=>by obtain⟨A',c',L',h1,h2,h3⟩:=h;exact⟨(A',c',L'),h1,h2,h3⟩)) ?_))));rintro⟨oA,oc,LS⟩ hLS;dsimp only at hLS ⊢;have hLl:LS.length=days.length+1:=by have h:=congrArg List.length hLS;simpa using h
 refine zBg (List.Perm.cons _ List.perm_append_comm) ?_;simp only[List.cons_append,List.nil_append];refine yE oA om ?_;intro g3 hg3;obtain⟨x,hx⟩:∃y,LS.reverse[day]?=some y:=⟨_,List.getElem?_eq_getElem (by simp;omega)⟩;have hxL:x∈LS:=List.mem_reverse.1 (List.mem_of_getElem? hx)
 have hxm:lmor x=lvlL fs kiln (days.take (day)):=by
  have h:=yF hLS hx;rw[List.getElem?_map,List.getElem?_range om] at h;injection h with h;exact h.symm
 have hxok:∀m∈x.2.2,MOk m.2.2∧Thin fs.length m.2.2:=fun m hm=>by
  have h:m.2.2∈lvlL fs kiln (days.take (day)):=hxm▸List.mem_map_of_mem (List.mem_reverse.2 hm);exact⟨(jEr.1 h).ok hc.f3 hc.ff _ _,(jEr.1 h).thin hc.f3 hc.ff _ _⟩
 have hxn:x.2.2.length<=1000:=by
  rw[<-zAd,hxm];exact zC6 (zC2 _) fun m hm=>(jEr.1 hm).ok hc.f3 hc.ff _ _
 refine zA J J (kF (j:=day) J (show _=some (Value.slice (some ⟨g3,0,none⟩) LS.length oc) from by rw[<-hg3];rfl) J Tryz.underlying104 F.ti109 om om (kE (v:=.slice x.1 x.2.2.length x.2.1) J J F.one109 (fun a w ha=>xO ha (InR.mem (A:=oA)) hg3 (by rw[show 0+(day)*1=(day) from by omega];exact zA4 hx)) ?_))
 refine jG (v:=.int .i64 (stg (lvlL fs kiln (days.take day)))) (vs:=[_]) J J F.ent111 (fun a w ha=>?_) ?_
 ·have h:=zOp (n:=fs.length) (c:=x.2.1) hc.f3 (fun y hy=>hxok y (List.mem_reverse.1 hy)) (by rw[List.length_reverse];omega) w (zFr ha (x:=x) (by intro r hr;repeat (first|exact List.mem_append_left _ (List.mem_flatMap.2 ⟨x,hxL,hr⟩)|exact List.mem_flatMap.2 ⟨x,hxL,hr⟩|apply List.Mem.tail)));rw[List.length_reverse,show x.2.2.reverse.map (·.2.2)=_ from hxm] at h;exact h
 refine lax J J (zD (csr (zA J J (zG J J J jY ?_))))
 refine lnx (zJ J (fun hc0=>?_) (fun hc0=>?_))
 ·exact csr (zH J J (lax J J (zS (zO (zX J (fun a w ha=>qM J J J ha) (fun a w ha=>⟨⟨0,11,by have h:=zPz (fs:=fs) (kiln:=kiln) (days:=days.take day);rwa[if_pos hc0,if_pos hc0] at h,rfl⟩,ha.grown nsl⟩))))))
 ·exact zP (zE (csr (zA J J (zH J J (lax J J (zS (zX J (fun a w ha=>qM J J J ha) (fun a w ha=>⟨⟨(stg (lvlL fs kiln (days.take day))).toNat,0,by have h:=zPz (fs:=fs) (kiln:=kiln) (days:=days.take day);rwa[if_neg hc0,if_neg hc0] at h,by rw[Int.toNat_of_nonneg om];rfl⟩,ha.grown nsl⟩))))))))

variable {dA fA:Option Addr} {days:List Nat} {dc fc kiln:Nat} {fs:List Flt}
theorem F.ent34:Enters Tryz.prog 34:=jC Tryz.func34 rfl kr
theorem F.ent86:Enters Tryz.prog 86:=jC Tryz.func86 rfl kr
theorem jEt (hc:ChV fs kiln days) (w:World) (hF:RdL Flt.cells 4 w fA fs) (hD:RdL ncell 1 w dA days):Calls Tryz.prog 38 #[.agg (CA fA fs.length fc kiln dA days.length dc).toArray] w fun e w'=>(∃n er:Nat,FailsQ fs kiln days n er∧e=.returned (.tuple #[.int .i64 (n:Int),.int .i64 (er:Int)]))∧Grew w w' []:=by
 refine enter (N:=29) [(0,.agg (CA fA fs.length fc kiln dA days.length dc).toArray)] Tryz.func38 J Tryz.ntmps38 J J (csr (jM J J ?_));intro b1;refine zH J J (lax J J (zD (csr (jB J J F.agg25 F.ti25 ?_))))
 refine jG (v:=.int .i64 0) (vs:=[_]) J J F.ent34 (fun a w ha=>by
  have h:=zOd (fA:=fA) (dA:=dA) (fc:=fc) (dc:=dc) (fs:=fs.map Flt.toZ) (kiln:=(kiln:Int)) (days:=toZs days) (by have:=hc.f3;simp;omega) (by have:=hc.d4;simp[toZs];omega) w (RdL.mapped Flt.toZ (hF.later ha.below) (fun _=>rfl)) (RdL.mapped (fun (n:Nat)=>(n:Int)) (hD.later ha.below) (fun _=>rfl));rw[chk0 hc] at h
  simpa[toZs] using h) ?_
 refine lax J J (csr (zA J J (zG J J J kX ?_)))
 refine lnx (zJ J (fun hc0=>?_) (fun hc0=>?_))
 ·exact absurd J hc0
  done
 ·refine zP (zE (csr (jB J J F.agg25 F.ti25 (kR (X:=Option Addr×Nat×List LZ) (vs:=[_]) (p:=fun y=>y.2.2.reverse.map lmor=(List.range (days.length+1)).map (fun i=>lvlL fs kiln (days.take i))) (val:=fun y=>.slice y.1 y.2.2.length y.2.1) (rs:=fun y=>.row 109 1 y.1 y.2.2.length y.2.1 (y.2.2.reverse.map lcell)::y.2.2.flatMap (lrow fs.length)) J J F.ent73 (fun a w ha=>(zIi hc.w w (hF.later ha.below) (hD.later ha.below)).mono (fun e w' h=>by obtain⟨A',c',L',h1,h2,h3⟩:=h;exact⟨(A',c',L'),h1,h2,h3⟩)) ?_))));rintro⟨oA,oc,LS⟩ hLS;dsimp only at hLS ⊢;have hLl:LS.length=days.length+1:=by have h:=congrArg List.length hLS;simpa using h
  refine zBg (List.Perm.cons _ List.perm_append_comm) ?_;simp only[List.cons_append,List.nil_append];refine yE oA om ?_;intro g3 hg3;have hd4:=hc.d4;refine lax J J (zD (csr (lax J J (zU (qR (G:=Nat) (fun d=>d<=days.length∧∀j,j<d->(bstA fs kiln (days.take (j+1))).is=true) (fun d=>days.length-d) (fun d=>[(1,pt b1),(5,.slice oA LS.length oc),(6,.int .i64 (d:Int))]) (fun d=>.row 109 1 oA LS.length oc (LS.reverse.map lcell)::.blk b1 (.cells (CA fA fs.length fc kiln dA days.length dc).toArray 25 (0,0))::LS.flatMap (lrow fs.length)) 0 ⟨Nat.zero_le _,fun j hj=>absurd hj (Nat.not_lt_zero _)⟩ sbn sbl ?_)))));rintro d ⟨hd0,hall⟩;dsimp only;refine zD (csr (zA J J (zI J J F.fi25_2 F.ti23 (zQ J J F.one23 (jP J J U23 (zG J J J jY ?_))))))
  refine lnx (zJ J (fun hc1=>?_) (fun hc1=>?_))
  ·have hd:d<days.length:=om;obtain⟨x,hx⟩:∃y,LS.reverse[d+1]?=some y:=⟨_,List.getElem?_eq_getElem (by simp;omega)⟩;have hxL:x∈LS:=List.mem_reverse.1 (List.mem_of_getElem? hx)
   have hxm:lmor x=lvlL fs kiln (days.take (d+1)):=by
    have h:=yF hLS hx;rw[List.getElem?_map,List.getElem?_range om] at h;injection h with h;exact h.symm
   have hxok:∀m∈x.2.2,MOk m.2.2∧Thin fs.length m.2.2:=fun m hm=>by
    have h:m.2.2∈lvlL fs kiln (days.take (d+1)):=hxm▸List.mem_map_of_mem (List.mem_reverse.2 hm);exact⟨(jEr.1 h).ok hc.f3 hc.ff _ _,(jEr.1 h).thin hc.f3 hc.ff _ _⟩
   have hxn:x.2.2.length<=1000:=by
    rw[<-zAd,hxm];exact zC6 (zC2 _) fun m hm=>(jEr.1 hm).ok hc.f3 hc.ff _ _
   refine zP (zE (zD (zU (csr (zA J J (zA J J (zG J J J (fun w=>jL w (zV _ om om)) (kF (j:=d+1) J (show _=some (Value.slice (some ⟨g3,0,none⟩) LS.length oc) from by rw[<-hg3];rfl) J Tryz.underlying104 F.ti109 om om (kE (v:=.slice x.1 x.2.2.length x.2.1) J J F.one109 (fun a w ha=>xO ha (InR.mem (A:=oA)) hg3 (by rw[show 0+(d+1)*1=(d+1) from by omega];exact zA4 hx)) (jP J J Tryz.underlying109 (zG J J J kD ?_)))))))))))
   refine lnx (zJ J (fun hc2=>?_) (fun hc2=>?_))
   ·refine csr (zA J J (zH J J (lax J J (zS (jO (zO (zO (jO (zO ?_)))))))))
    exact zX J (fun a w ha=>qM J J J ha) (fun a w ha=>⟨⟨d,0,⟨d,hd0,hall,fun _=>by
     cases hb:(bstA fs kiln (days.take (d+1))).is with
     | false=>rfl
     | true =>
      have h:=zUu.1 hb;rw[<-hxm,zAd] at h
      omega,(if_pos hd).symm,(if_pos hd).symm⟩,rfl⟩,ha.grown nsl⟩)
   ·refine zP (zK (zE (zM (zA J J (zG J J J (fun w=>jL w (zV _ om om)) (zH J J (zB (qC (d+1) ⟨by omega,fun j hj=>?_⟩ tdo sbn sbl))))))))
    rcases Nat.lt_or_ge j d with h|h
    ·exact hall j h
    ·obtain rfl:d=j:=om;rw[zUu,<-hxm,zAd];omega
  ·obtain rfl:d=days.length:=om;exact jT (zL (zL (jF (zE (csr (zH J J (lax J J (zS (zX J (fun a w ha=>qM J J J ha) (fun a w ha=>⟨⟨0,11,⟨days.length,Nat.le_refl _,hall,fun h=>absurd h (Nat.lt_irrefl _),(if_neg (Nat.lt_irrefl _)).symm,(if_neg (Nat.lt_irrefl _)).symm⟩,rfl⟩,ha.grown nsl⟩))))))))))

theorem jDc (hc:ChW fs kiln days) (w:World) (hF:RdL Flt.cells 4 w fA fs) (hD:RdL ncell 1 w dA days):Calls Tryz.prog 88 #[.agg (CA fA fs.length fc kiln dA days.length dc).toArray] w fun e w'=>e=.returned (.bool (bstA fs kiln days).is)∧Grew w w' []:=by
 refine enter (N:=12) [(0,.agg (CA fA fs.length fc kiln dA days.length dc).toArray)] Tryz.func88 J Tryz.ntmps88 J J (csr (jM J J ?_));intro b1;refine lax J J (zD (jU [] F.follows 10 J [false,false,false,false,false,false,false,false,false,false] J (zC 0 J J J (kS J F.agg25 F.ti25) (zC 2 J J J (zT J F.fi25_2 F.ti23) (zC 3 J J J (jN J F.one23) (zC 4 J J J (vM J U23) (an1 1 J (kR (X:=Option Addr×Nat×List LZ) (vs:=[_]) (p:=fun y=>y.2.2.reverse.map lmor=(List.range (days.length+1)).map (fun i=>lvlL fs kiln (days.take i))) (val:=fun y=>.slice y.1 y.2.2.length y.2.1) (rs:=fun y=>.row 109 1 y.1 y.2.2.length y.2.1 (y.2.2.reverse.map lcell)::y.2.2.flatMap (lrow fs.length)) J J F.ent73 (fun a w ha=>(zIi hc w (hF.later ha.below) (hD.later ha.below)).mono (fun e w' h=>by obtain⟨A',c',L',h1,h2,h3⟩:=h;exact⟨(A',c',L'),h1,h2,h3⟩)) ?_))))))));rintro⟨oA,oc,LS⟩ hLS;dsimp only at hLS ⊢;have hLl:LS.length=days.length+1:=by have h:=congrArg List.length hLS;simpa using h
 refine zBg (List.Perm.cons _ List.perm_append_comm) ?_;simp only[List.cons_append,List.nil_append];refine yE oA om ?_;intro g3 hg3;obtain⟨x,hx⟩:∃y,LS.reverse[days.length]?=some y:=⟨_,List.getElem?_eq_getElem (by simp;omega)⟩;have hxL:x∈LS:=List.mem_reverse.1 (List.mem_of_getElem? hx)
 have hxm:lmor x=lvlL fs kiln (days.take (days.length)):=by
  have h:=yF hLS hx;rw[List.getElem?_map,List.getElem?_range om] at h;injection h with h;exact h.symm
 have hxok:∀m∈x.2.2,MOk m.2.2∧Thin fs.length m.2.2:=fun m hm=>by
  have h:m.2.2∈lvlL fs kiln (days.take (days.length)):=hxm▸List.mem_map_of_mem (List.mem_reverse.2 hm);exact⟨(jEr.1 h).ok hc.f3 hc.ff _ _,(jEr.1 h).thin hc.f3 hc.ff _ _⟩
 have hxn:x.2.2.length<=1000:=by
  rw[<-zAd,hxm];exact zC6 (zC2 _) fun m hm=>(jEr.1 hm).ok hc.f3 hc.ff _ _
 rw[List.take_length] at hxm;refine zB (anb (an1 5 J (kF (j:=days.length) J (show _=some (Value.slice (some ⟨g3,0,none⟩) LS.length oc) from by rw[<-hg3];rfl) J Tryz.underlying104 F.ti109 om om (zB (anb (an1 6 J (kE (v:=.slice x.1 x.2.2.length x.2.1) J J F.one109 (fun a w ha=>xO ha (InR.mem (A:=oA)) hg3 (by rw[show 0+(days.length)*1=(days.length) from by omega];exact zA4 hx)) (zB (anb (zC 7 J J J (vM J Tryz.underlying109) (zC 8 J J J (qP J J vN) (zC 9 J J J (jW J) (adn (zE (zS ?_)))))))))))))))
 exact zX J (fun a w ha=>jJ J J ha) (fun a w ha=>⟨by
  refine congrArg (fun b=>Ending.returned (.bool b)) ?_;rw[Bool.eq_iff_iff,zUu,<-hxm,zAd,decide_eq_true_iff]
  omega,ha.grown nsl⟩)

end
section
def askE (c:Nat) (known:Bool):Nat:=if c≠0 then c else if known then 0 else 3
theorem zE4 {c:Nat} {k:Bool} (h:c≠0):askE c k=c:=if_pos h
theorem zDa {d n:Nat} (h:d<n):btw (d:Int) 0 ((n:Int)-1)=true:=by unfold btw;simp;omega
end
section
variable [I:Sys]
variable {d dc fc kiln:Nat} {dA fA:Option Addr} {days:List Nat} {dz:List Int} {fs:List Flt} {fz:List FltZ} {kz:Int}
theorem F.ent71:Enters Tryz.prog 71:=jC Tryz.func71 rfl kr
theorem F.ent88:Enters Tryz.prog 88:=jC Tryz.func88 rfl kr
theorem zY1 {d:Int} (hfl:fz.length<1000000) (hdl:dz.length<1000000) (w:World) (hF:RdL FltZ.cells 4 w fA fz) (hD:RdL zcell 1 w dA dz):Calls Tryz.prog 90 #[.agg #[.slice fA fz.length fc,.int .i64 kz,.slice dA dz.length dc],.int .i64 d] w fun e w'=>e=.returned (.int .i64 ((askE (chk fz kz dz) (btw d 0 ((dz.length:Int)-1)):Nat):Int))∧Grew w w' []:=by
 refine enter (N:=18) [(0,.agg #[.slice fA fz.length fc,.int .i64 kz,.slice dA dz.length dc]),(1,.int .i64 d)] Tryz.func90 J Tryz.ntmps90 J J (csr (jM J J ?_));intro b2;refine lax J J (zD (csr (jB J J F.agg25 F.ti25 (jG (v:=.int .i64 ((chk fz kz dz:Nat):Int)) (vs:=[_]) J J F.ent33 (fun a w ha=>zBb hfl hdl w (hF.later ha.below) (hD.later ha.below)) (lax J J (csr (zA J J (zG J J J kX ?_))))))))
 refine lnx (zJ J (fun hc0=>?_) (fun hc0=>?_))
 ·exact csr (zA J J (lax J J (zS (zO (zX J (fun a w ha=>jJ J J ha) (fun a w ha=>⟨by rw[zE4 om],ha.grown nsl⟩))))))
 ·have hk:chk fz kz dz=0:=om;rw[hk];refine zP (zE (zD (csr (zA J J (zI J J F.fi25_2 F.ti23 (zQ J J F.one23 (jP J J Tryz.underlying23 (zG (v:=.int .i64 ((dz.length:Int)-1)) J J J (fun w=>qN w (by rw[zV _ om om])) (jG (v:=.bool (btw d 0 ((dz.length:Int)-1))) (vs:=[_,_,_]) J J F.ent68 (fun a w ha=>yO d 0 ((dz.length:Int)-1) w) ?_)))))))))
  refine kW J J (lnx (kI J (fun hc1=>?_) (fun hc1=>?_)))
  ·exact csr (lax J J (zS (zO (zX J (fun a w ha=>jJ J J ha) (fun a w ha=>⟨by rw[show btw d 0 ((dz.length:Int)-1)=false from by simpa using hc1];rfl,ha.grown nsl⟩)))))
  ·exact zP (zE (csr (lax J J (zS (zX J (fun a w ha=>jJ J J ha) (fun a w ha=>⟨by rw[show btw d 0 ((dz.length:Int)-1)=true from by simpa using hc1];rfl,ha.grown nsl⟩))))))

theorem zE8 (hfl:fz.length<1000000) (hdl:dz.length<1000000) {kn:Bool} (w:World) (hF:RdL FltZ.cells 4 w fA fz) (hD:RdL zcell 1 w dA dz):Calls Tryz.prog 71 #[.agg #[.slice fA fz.length fc,.int .i64 kz,.slice dA dz.length dc],.bool kn] w fun e w'=>e=.returned (.int .i64 ((askE (chk fz kz dz) kn:Nat):Int))∧Grew w w' []:=by
 refine enter (N:=13) [(0,.agg #[.slice fA fz.length fc,.int .i64 kz,.slice dA dz.length dc]),(1,.bool kn)] Tryz.func71 J Tryz.ntmps71 J J (csr (jM J J ?_));intro b2;refine lax J J (zD (csr (jB J J F.agg25 F.ti25 (jG (v:=.int .i64 ((chk fz kz dz:Nat):Int)) (vs:=[_]) J J F.ent34 (fun a w ha=>zOd hfl hdl w (hF.later ha.below) (hD.later ha.below)) (lax J J (csr (zA J J (zG J J J kX ?_))))))))
 refine lnx (zJ J (fun hc0=>?_) (fun hc0=>?_))
 ·exact csr (zA J J (lax J J (zS (zO (zX J (fun a w ha=>jJ J J ha) (fun a w ha=>⟨by rw[zE4 om],ha.grown nsl⟩))))))
 ·have hk:chk fz kz dz=0:=om;rw[hk]
  refine zP (zE (zD (csr (zA J J (kW J J (lnx (kI J (fun hc1=>?_) (fun hc1=>?_))))))))
  ·exact csr (lax J J (zS (zO (zX J (fun a w ha=>jJ J J ha) (fun a w ha=>⟨by rw[show kn=false from by simpa using hc1];rfl,ha.grown nsl⟩)))))
  ·exact zP (zE (csr (lax J J (zS (zX J (fun a w ha=>jJ J J ha) (fun a w ha=>⟨by rw[show kn=true from by simpa using hc1];rfl,ha.grown nsl⟩))))))

theorem jCc (hfl:fz.length<1000000) (hdl:dz.length<1000000) {d:Int} (hk:(askE (chk fz kz dz) (btw d 0 ((dz.length:Int)-1)))≠0) (w:World) (hF:RdL FltZ.cells 4 w fA fz) (hD:RdL zcell 1 w dA dz):Calls Tryz.prog 46 #[.agg #[.slice fA fz.length fc,.int .i64 kz,.slice dA dz.length dc],.int .i64 d] w fun e w'=>e=.returned (.tuple #[.int .i64 0,.int .i64 (((askE (chk fz kz dz) (btw d 0 ((dz.length:Int)-1))):Nat):Int)])∧Grew w w' []:=by
 refine enter (N:=25) [(0,.agg #[.slice fA fz.length fc,.int .i64 kz,.slice dA dz.length dc]),(1,.int .i64 d)] Tryz.func46 J Tryz.ntmps46 J J (csr (jM J J ?_));intro b2;refine zH J J (lax J J (zD (csr (jB J J F.agg25 F.ti25 (zA J J (jG (v:=.int .i64 (((askE (chk fz kz dz) (btw d 0 ((dz.length:Int)-1))):Nat):Int)) (vs:=[_,_]) J J F.ent90 (fun a w ha=>zY1 hfl hdl w (hF.later ha.below) (hD.later ha.below)) (lax J J (csr (zA J J (zG J J J kX ?_))))))))))
 refine lnx (zJ J (fun hc0=>?_) (fun hc0=>?_))
 ·exact csr (zA J J (zH J J (lax J J (zS (zO (zX J (fun a w ha=>qM J J J ha) (fun a w ha=>⟨rfl,ha.grown nsl⟩)))))))
 ·exfalso;omega
  done

theorem jAx (hfl:fz.length<1000000) (hdl:dz.length<1000000) {d:Int} (hk:(askE (chk fz kz dz) (btw d 0 ((dz.length:Int)-1)))≠0) (w:World) (hF:RdL FltZ.cells 4 w fA fz) (hD:RdL zcell 1 w dA dz):Calls Tryz.prog 48 #[.agg #[.slice fA fz.length fc,.int .i64 kz,.slice dA dz.length dc],.int .i64 d] w fun e w'=>e=.returned (.tuple #[.int .i64 0,.int .i64 (((askE (chk fz kz dz) (btw d 0 ((dz.length:Int)-1))):Nat):Int)])∧Grew w w' []:=by
 refine enter (N:=31) [(0,.agg #[.slice fA fz.length fc,.int .i64 kz,.slice dA dz.length dc]),(1,.int .i64 d)] Tryz.func48 J Tryz.ntmps48 J J (csr (jM J J ?_));intro b2;refine zH J J (lax J J (zD (csr (jB J J F.agg25 F.ti25 (zA J J (jG (v:=.int .i64 (((askE (chk fz kz dz) (btw d 0 ((dz.length:Int)-1))):Nat):Int)) (vs:=[_,_]) J J F.ent90 (fun a w ha=>zY1 hfl hdl w (hF.later ha.below) (hD.later ha.below)) (lax J J (csr (zA J J (zG J J J kX ?_))))))))))
 refine lnx (zJ J (fun hc0=>?_) (fun hc0=>?_))
 ·exact csr (zA J J (zH J J (lax J J (zS (zO (zX J (fun a w ha=>qM J J J ha) (fun a w ha=>⟨rfl,ha.grown nsl⟩)))))))
 ·exfalso;omega
  done

theorem zY6 (hfl:fz.length<1000000) (hdl:dz.length<1000000) {d:Int} (hk:(askE (chk fz kz dz) (btw d 0 ((dz.length:Int)-1)))≠0) (w:World) (hF:RdL FltZ.cells 4 w fA fz) (hD:RdL zcell 1 w dA dz):Calls Tryz.prog 47 #[.agg #[.slice fA fz.length fc,.int .i64 kz,.slice dA dz.length dc],.int .i64 d] w fun e w'=>e=.returned (.tuple #[.int .i64 0,.int .i64 (((askE (chk fz kz dz) (btw d 0 ((dz.length:Int)-1))):Nat):Int)])∧Grew w w' []:=by
 refine enter (N:=23) [(0,.agg #[.slice fA fz.length fc,.int .i64 kz,.slice dA dz.length dc]),(1,.int .i64 d)] Tryz.func47 J Tryz.ntmps47 J J (csr (jM J J ?_));intro b2;refine zH J J (lax J J (zD (zD (jU [] F.follows 9 J [false,false,false,false,false,false,false,false,false] J (zC 0 J J J (kS J F.agg25 F.ti25) (zC 1 J J J (zW J) (zC 2 J J J (zT J F.fi25_2 F.ti23) (zC 3 J J J (jN J F.one23) (zC 4 J J J (vM J Tryz.underlying23) (an1 5 J (zG (v:=.int .i64 ((dz.length:Int)-1)) J J J (fun w=>qN w (by rw[zV _ om om])) (zB (anb (an1 6 J (jG (v:=.bool (btw d (0) ((dz.length:Int)-1))) (vs:=[_,_,_]) J J F.ent72 (fun a w ha=>wB (d) (0) ((dz.length:Int)-1) w) (zB (anb (an1 7 J (jG (v:=.int .i64 ((askE (chk fz kz dz) (btw d 0 ((dz.length:Int)-1)):Nat):Int)) (vs:=[_,_]) J J F.ent71 (fun a w ha=>zE8 hfl hdl w (hF.later ha.below) (hD.later ha.below)) (zB (anb (zC 8 J J J (jW J) (adn (zE (csr (zA J J (zG J J J kX ?_)))))))))))))))))))))))))))
 refine lnx (zJ J (fun hc0=>?_) (fun hc0=>?_))
 ·exact csr (zA J J (zH J J (lax J J (zS (zO (zX J (fun a w ha=>qM J J J ha) (fun a w ha=>⟨rfl,ha.grown nsl⟩)))))))
 ·exfalso;omega
  done

theorem zW5 (hfl:fz.length<1000000) (hdl:dz.length<1000000) {d:Int} (hk:(askE (chk fz kz dz) (btw d 0 ((dz.length:Int)-1)))≠0) (w:World) (hF:RdL FltZ.cells 4 w fA fz) (hD:RdL zcell 1 w dA dz):Calls Tryz.prog 49 #[.agg #[.slice fA fz.length fc,.int .i64 kz,.slice dA dz.length dc],.int .i64 d] w fun e w'=>e=.returned (.tuple #[.int .i64 0,.int .i64 (((askE (chk fz kz dz) (btw d 0 ((dz.length:Int)-1))):Nat):Int)])∧Grew w w' []:=by
 refine enter (N:=29) [(0,.agg #[.slice fA fz.length fc,.int .i64 kz,.slice dA dz.length dc]),(1,.int .i64 d)] Tryz.func49 J Tryz.ntmps49 J J (csr (jM J J ?_));intro b2;refine zH J J (lax J J (zD (zD (jU [] F.follows 9 J [false,false,false,false,false,false,false,false,false] J (zC 0 J J J (kS J F.agg25 F.ti25) (zC 1 J J J (zW J) (zC 2 J J J (zT J F.fi25_2 F.ti23) (zC 3 J J J (jN J F.one23) (zC 4 J J J (vM J Tryz.underlying23) (an1 5 J (zG (v:=.int .i64 ((dz.length:Int)-1)) J J J (fun w=>qN w (by rw[zV _ om om])) (zB (anb (an1 6 J (jG (v:=.bool (btw d (0) ((dz.length:Int)-1))) (vs:=[_,_,_]) J J F.ent72 (fun a w ha=>wB (d) (0) ((dz.length:Int)-1) w) (zB (anb (an1 7 J (jG (v:=.int .i64 ((askE (chk fz kz dz) (btw d 0 ((dz.length:Int)-1)):Nat):Int)) (vs:=[_,_]) J J F.ent71 (fun a w ha=>zE8 hfl hdl w (hF.later ha.below) (hD.later ha.below)) (zB (anb (zC 8 J J J (jW J) (adn (zE (csr (zA J J (zG J J J kX ?_)))))))))))))))))))))))))))
 refine lnx (zJ J (fun hc0=>?_) (fun hc0=>?_))
 ·exact csr (zA J J (zH J J (lax J J (zS (zO (zX J (fun a w ha=>qM J J J ha) (fun a w ha=>⟨rfl,ha.grown nsl⟩)))))))
 ·exfalso;omega
  done

theorem zZx (hc:ChV fs kiln days) (hd:d<days.length) (w:World) (hF:RdL Flt.cells 4 w fA fs) (hD:RdL ncell 1 w dA days):Calls Tryz.prog 47 #[.agg (CA fA fs.length fc kiln dA days.length dc).toArray,.int .i64 (d:Int)] w fun e w'=>(∃n er:Nat,MostP fs kiln (days.take d) n er∧e=.returned (.tuple #[.int .i64 (n:Int),.int .i64 (er:Int)]))∧Grew w w' []:=by
 refine enter (N:=23) [(0,.agg (CA fA fs.length fc kiln dA days.length dc).toArray),(1,.int .i64 (d:Int))] Tryz.func47 J Tryz.ntmps47 J J (csr (jM J J ?_));intro b2;refine zH J J (lax J J (zD (zD (jU [] F.follows 9 J [false,false,false,false,false,false,false,false,false] J (zC 0 J J J (kS J F.agg25 F.ti25) (zC 1 J J J (zW J) (zC 2 J J J (zT J F.fi25_2 F.ti23) (zC 3 J J J (jN J F.one23) (zC 4 J J J (vM J U23) (an1 5 J ?_))))))))));have hd4:=hc.d4;refine zG (v:=.int .i64 ((days.length:Int)-1)) J J J (fun w=>qN w (by rw[zV _ om om])) (zB (anb (an1 6 J (jG (v:=.bool (btw (d:Int) (0) ((days.length:Int)-1))) (vs:=[_,_,_]) J J F.ent72 (fun a w ha=>wB ((d:Int)) (0) ((days.length:Int)-1) w) ?_))));rw[zDa hd];refine zB (anb (an1 7 J ?_))
 refine jG (v:=.int .i64 0) (vs:=[_,_]) J J F.ent71 (fun a w ha=>by
  have h:=zE8 (kn:=true) (fA:=fA) (dA:=dA) (fc:=fc) (dc:=dc) (fz:=fs.map Flt.toZ) (kz:=(kiln:Int)) (dz:=toZs days) (by have:=hc.f3;simp;omega) (by have:=hc.d4;simp[toZs];omega) w (RdL.mapped Flt.toZ (hF.later ha.below) (fun _=>rfl)) (RdL.mapped (fun (n:Nat)=>(n:Int)) (hD.later ha.below) (fun _=>rfl));rw[chk0 hc] at h
  simpa[toZs,askE] using h) ?_
 refine zB (anb (zC 8 J J J (jW J) (adn (zE (csr (zA J J (zG J J J kX ?_)))))))
 refine lnx (zJ J (fun hc0=>?_) (fun hc0=>?_))
 ·exact absurd J hc0
  done
 ·refine zP (zE (csr (jB J J F.agg25 F.ti25 (zA J J (kR (X:=Nat×Nat) (vs:=[_,_]) (p:=fun y=>MostP fs kiln (days.take d) y.1 y.2) (val:=fun y=>.tuple #[.int .i64 (y.1:Int),.int .i64 (y.2:Int)]) (rs:=fun _=>[]) J J F.ent86 (fun a w ha=>(zZt hc.w (Nat.le_of_lt hd) w (hF.later ha.below) (hD.later ha.below)).mono (fun e w' h=>by obtain⟨⟨n,er,h1,h2⟩,h3⟩:=h;exact⟨(n,er),h1,h2,h3⟩)) ?_)))));rintro⟨n,er⟩ hP;dsimp only[List.nil_append] at hP ⊢;exact jE J J J (jE J J J (zH J J (lax J J (zS (zX J (fun a w ha=>qM J J J ha) (fun a w ha=>⟨⟨n,er,hP,rfl⟩,ha.grown nsl⟩))))))

theorem zWc (hc:ChV fs kiln days) (hd:d<days.length) (w:World) (hF:RdL Flt.cells 4 w fA fs) (hD:RdL ncell 1 w dA days):Calls Tryz.prog 49 #[.agg (CA fA fs.length fc kiln dA days.length dc).toArray,.int .i64 (d:Int)] w fun e w'=>e=.returned (.tuple #[.int .i64 ((optN (sprN fs kiln days d 12):Nat):Int),.int .i64 ((optE (sprN fs kiln days d 12):Nat):Int)])∧Grew w w' []:=by
 refine enter (N:=29) [(0,.agg (CA fA fs.length fc kiln dA days.length dc).toArray),(1,.int .i64 (d:Int))] Tryz.func49 J Tryz.ntmps49 J J (csr (jM J J ?_));intro b2;refine zH J J (lax J J (zD (zD (jU [] F.follows 9 J [false,false,false,false,false,false,false,false,false] J (zC 0 J J J (kS J F.agg25 F.ti25) (zC 1 J J J (zW J) (zC 2 J J J (zT J F.fi25_2 F.ti23) (zC 3 J J J (jN J F.one23) (zC 4 J J J (vM J U23) (an1 5 J ?_))))))))));have hd4:=hc.d4;refine zG (v:=.int .i64 ((days.length:Int)-1)) J J J (fun w=>qN w (by rw[zV _ om om])) (zB (anb (an1 6 J (jG (v:=.bool (btw (d:Int) (0) ((days.length:Int)-1))) (vs:=[_,_,_]) J J F.ent72 (fun a w ha=>wB ((d:Int)) (0) ((days.length:Int)-1) w) ?_))));rw[zDa hd];refine zB (anb (an1 7 J ?_))
 refine jG (v:=.int .i64 0) (vs:=[_,_]) J J F.ent71 (fun a w ha=>by
  have h:=zE8 (kn:=true) (fA:=fA) (dA:=dA) (fc:=fc) (dc:=dc) (fz:=fs.map Flt.toZ) (kz:=(kiln:Int)) (dz:=toZs days) (by have:=hc.f3;simp;omega) (by have:=hc.d4;simp[toZs];omega) w (RdL.mapped Flt.toZ (hF.later ha.below) (fun _=>rfl)) (RdL.mapped (fun (n:Nat)=>(n:Int)) (hD.later ha.below) (fun _=>rfl));rw[chk0 hc] at h
  simpa[toZs,askE] using h) ?_
 refine zB (anb (zC 8 J J J (jW J) (adn (zE (csr (zA J J (zG J J J kX ?_)))))))
 refine lnx (zJ J (fun hc0=>?_) (fun hc0=>?_))
 ·exact absurd J hc0
  done
 ·refine zP (zE (zD (csr (lax J J (zU ?_)))));have hd4:=hc.d4;refine xH (G:=Nat) (fun g=>g<=13∧sprF fs kiln days d 13=sprF fs kiln days d g) (fun g=>g) (fun g=>[(1,.int .i64 (d:Int)),(2,pt b2),(7,.int .i64 ((g:Int)-1))]) (fun g=>[.blk b2 (.cells (CA fA fs.length fc kiln dA days.length dc).toArray 25 (0,0))]) 13 ⟨Nat.le_refl _,rfl⟩ sbn pkk ?_;rintro k ⟨hk,hsp⟩;dsimp only at hk hsp ⊢;refine zD (csr (zA J J (zG J J J zLd ?_)))
  refine lnx (zJ J (fun hc1=>?_) (fun hc1=>?_))
  ·obtain⟨m,rfl⟩:∃m,k=m+1:=⟨k-1,by omega⟩;have em:(((m+1:Nat):Int)-1)=(m:Int):=om;rw[em];have hm12:m<=12:=om;refine zP (zE (zD (zU (csr (jB J J F.agg25 F.ti25 (zA J J (zA J J (kR (X:=Option Addr×Nat) (vs:=[_,_,_]) (p:=fun _=>True) (val:=fun y=>.agg #[.slice fA fs.length fc,.int .i64 (kiln:Int),.slice y.1 days.length y.2]) (rs:=fun y=>[.row 3 1 y.1 days.length y.2 (ints (days.set d m))]) J J F.ent91 (fun a w ha=>(jBs (n:=m) om hd w (hD.later ha.below)).mono (fun e w' h=>by obtain⟨A',c',h1,h2⟩:=h;exact⟨(A',c'),trivial,h1,h2⟩)) ?_))))))));rintro⟨A3,c3⟩ -;dsimp only[List.cons_append,List.nil_append]
   refine jG (v:=.bool (bstA fs kiln (days.set d m)).is) (vs:=[_]) J J F.ent88 (fun a w ha=>?_) ?_
   ·have h:=jDc (dA:=A3) (dc:=c3) (fc:=fc) (hc.set (d:=d) hm12).w w (hF.later ha.below) (zIf (A:=A3) ha (by rw[List.length_set]));rw[List.length_set] at h;exact h
   refine lnx (kI J (fun hc2=>?_) (fun hc2=>?_))
   ·exact csr (zA J J (zH J J (lax J J (zS (jO (zO (zO (jO (zO (zX J (fun a w ha=>qM J J J ha) (fun a w ha=>⟨by rw[show sprN fs kiln days d 12=some m from hsp.trans (zO7 hc2)];rfl,ha.grown nsl⟩)))))))))))
   ·refine zP (zK (zE (zM (zA J J (zG J J J (fun w=>qN w (zV _ om om)) (zH J J (zB (qI m ⟨by omega,hsp.trans (zRk (by simpa using hc2))⟩ tdo sbn pkk))))))))
  ·obtain rfl:k=0:=om;exact jT (zL (zL (jF (zE (csr (zH J J (lax J J (zS (zX J (fun a w ha=>qM J J J ha) (fun a w ha=>⟨by rw[show sprN fs kiln days d 12=none from hsp];rfl,ha.grown nsl⟩))))))))))

end
section
variable {o size:Nat} {α:Type}
structure CZ where
 fA:Option Addr
 fc:Nat
 fz:List FltZ
 kz:Int
 dA:Option Addr
 dc:Nat
 dz:List Int
def CZ.cells (x:CZ):List Value:=[.slice x.fA x.fz.length x.fc,.int .i64 x.kz,.slice x.dA x.dz.length x.dc]
def CZ.rows (x:CZ):List Res:=[.row 27 4 x.fA x.fz.length x.fc (x.fz.flatMap FltZ.cells),.row 3 1 x.dA x.dz.length x.dc (x.dz.flatMap zcell)]
structure CZ.Rd (w:World) (x:CZ):Prop where
 f:RdL FltZ.cells 4 w x.fA x.fz
 d:RdL zcell 1 w x.dA x.dz
def W64 (n:Int):Prop:=-9223372036854775808<=n∧n<=9223372036854775807
structure FltZ.wf (f:FltZ):Prop where
 power:W64 f.power
 gain:W64 f.gain
 now:W64 f.now
structure CZ.Ok (x:CZ):Prop where
 fw:∀f∈x.fz,f.wf
 f0:x.fA=none->x.fz=[]∧x.fc=0
 d0:x.dA=none->x.dz=[]∧x.dc=0
 fl:x.fz.length<=20
 dl:x.dz.length<=20
theorem CZ.Rd.later [I:Sys] {w w':World} {x:CZ} (h:x.Rd w) (hb:Below w.heap.size w w'):x.Rd w':=⟨h.f.later hb,h.d.later hb⟩
theorem zUm (x:FltZ):x.cells.length=4:=rfl
theorem jC8 (x:FltZ):∀u∈x.cells,u.oneCell'=true:=by
 intro u hu;simp[FltZ.cells] at hu;rcases hu with rfl|rfl|rfl|rfl<;>rfl
theorem jEi (x:Int):∀u∈zcell x,u.oneCell'=true:=by
 intro u hu;simp[zcell] at hu;rw[hu]
 rfl
theorem zZp (fs:List Flt):(fs.map Flt.toZ).flatMap FltZ.cells=fs.flatMap Flt.cells:=by rw[List.flatMap_map];rfl
theorem jBy (l:List Nat):(toZs l).flatMap zcell=ints l:=by
 unfold toZs ints;rw[List.flatMap_map,List.map_eq_flatMap]
 rfl
theorem zQp {l vs:List α} {N:Nat} (h:o+vs.length<=N) (hN:N<=l.length):(l.take o++vs++l.drop (o+vs.length)).take N=(l.take N).take o++vs++(l.take N).drop (o+vs.length):=by
 have hl:(l.take o++vs).length=o+vs.length:=by rw[List.length_append,List.length_take];omega
 rw[List.take_append,List.take_of_length_le (by rw[hl];exact h),hl,List.take_take,Nat.min_eq_left om,List.drop_take]
theorem zLr {cells:α->List Value} (hs:∀x,(cells x).length=size) (f:α):∀(l:List α) (j:Nat),j<l.length->(l.flatMap cells).take (j*size)++cells f++(l.flatMap cells).drop (j*size+(cells f).length)=(l.set j f).flatMap cells
 | [],j,h=>absurd h (Nat.not_lt_zero _)
 | x::l,0,_=>by
  rw[List.set_cons_zero,List.flatMap_cons,List.flatMap_cons,Nat.zero_mul,List.take_zero,List.nil_append,Nat.zero_add,hs,List.drop_append,List.drop_of_length_le (by rw[hs];exact Nat.le_refl _),hs,Nat.sub_self,List.drop_zero,List.nil_append]
 | x::l,j+1,h=>by
  rw[List.set_cons_succ,List.flatMap_cons,List.flatMap_cons,<-zLr hs f l j (by simpa using h),Nat.succ_mul,List.take_append,List.take_of_length_le (by rw[hs];omega),hs,List.drop_append,List.drop_of_length_le (by rw[hs,hs];omega),hs,List.nil_append,hs,Nat.add_sub_cancel,show j*size+size+size-size=j*size+size from by omega];simp only[List.append_assoc]
section
variable [I:Sys] {C:Ctx} {fr:List (Nat×Value)} {hp hp':List Res} {a:Act} {w:World} {ops:Array Oper} {Q:Exit->Act->World->Prop} {rest:List Oper} {d:Nat} {ty:TypeId} {pos:String} {after:Array Edge}
theorem zLa {x y:Operand} {t e:TypeId} {A:Option Addr} {g n c m k9:Nat} {xs vs:List Value} (xs':List Value) {v z:Value} (hx:ev fr x=some (.pointer (some ⟨g,o,none⟩))) (hy:ev fr y=some v) (hi:TI C.P t z k9 m) [hc:Cells v vs] (hn:vs.length=k9)
  (hA:A=some ⟨g,0,none⟩) (ho:o+vs.length<=xs.length) (hxs:xs.take o++vs++xs.drop (o+vs.length)=xs') [hr:InR A e size n c xs hp] [hu:UpR A e size n c xs (.row e size A n c xs') hp hp']
  (k:Lst C ops Q rest fr hp'):Lst C ops Q (⟨none,.store t x y,ty,pos,after,none⟩::rest) fr hp:=by
 obtain⟨i,hi,_,hsz,_⟩:=hi;refine zDn (fun _ _ _=>zBe ..) (fun a w ha=>?_) k;have hown:=ha.own _ hr.mem;obtain⟨hlen,hcase⟩:=hown
 rcases hcase with ⟨h1,_⟩|⟨g',cap,cur,hv,hB,hheap,hle,hmax,hcs,htake⟩
 ·injection h1 with e1;rw[hA] at e1
  cases e1
 ·injection hv with e1 e2 e3;rw[hA] at e1;injection e1 with e1;injection e1 with e1;subst e1;subst e3;have h9:n*size<=c*size:=Nat.mul_le_mul_right _ hle;have hcl:n*size<=cur.toList.length:=by simp only[Array.length_toList];omega
  have hxl:o+vs.length<=n*size:=by rw[<-htake,List.length_take] at ho;omega
  have hs:Splice cur.toList o vs (cur.toList.take o++vs++cur.toList.drop (o+vs.length)):=⟨rfl,by omega⟩;obtain⟨w',h1,h2,h3⟩:=zCz hs (by simpa using hheap) hc.one C.P
  have hcr:(cur.toList.take o++vs++cur.toList.drop (o+vs.length)).length=cur.toList.length:=by
   simp only[List.length_append,List.length_take,List.length_drop];omega
  have hxl2:xs'.length=xs.length:=by
   rw[<-hxs];simp only[List.length_append,List.length_take,List.length_drop];omega
  refine⟨w',?_,ha.turn hu.upd (by rw[hA];exact h3) ⟨by rw[hxl2];exact hlen,.inr ⟨g,c,(cur.toList.take o++vs++cur.toList.drop (o+vs.length)).toArray,by rw[hA],hB,h2,hle,hmax,by rw[List.size_toArray,hcr];simpa using hcs,?_⟩⟩ (fun k hk=>.inl hk)⟩
  ·simp[execOp,ha.eval hx,ha.eval hy,Instr.storeAt,Instr.sureAddr,storeVar,sizeOf,typeInfo,hi,hc.eq,hsz,hn,h1]
  ·rw[<-hxs,<-htake];exact zQp hxl hcl
theorem jCi (ha:At C fr hp a w) {x:CZ} (h:∀r∈x.rows,r∈hp):x.Rd w :=
 ⟨kV ha (cells:=FltZ.cells) (size:=4) (e:=27) (c:=x.fc) (n:=x.fz.length) (l:=x.fz) (fun _=>rfl) (h _ (List.mem_cons_self ..)) J,
  kV ha (cells:=zcell) (size:=1) (e:=3) (c:=x.dc) (n:=x.dz.length) (l:=x.dz) (fun _=>rfl) (h _ (List.mem_cons_of_mem _ (List.mem_cons_self ..))) J⟩
end
end
section
variable {f:FltZ} {n:Int}
theorem w64wf (h:W64 n):(Go.Lit.int .i64 n).wf=true:=by
 unfold W64 at h;simp[Go.Lit.wf,IntKind.min,IntKind.max,IntKind.signed,IntKind.bits];omega
theorem zOw (h:W64 n) (d:Nat):Tryz.prog.keyLits (d+1) 3 [.int .i64 n]=some [.int .i64 n]:=by
 unfold Program.keyLits;rw[Tryz.underlying3];simp[w64wf h]
def FltZ.lits (f:FltZ):List Go.Lit:=[.int .i64 f.power,.int .i64 f.gain,.int .i64 f.now,.bool f.washed]
theorem co27:Tryz.prog.cellsOf 27=4:=by kernel_rfl
theorem kt27:Tryz.prog.keyType 27=true:=by kernel_rfl
theorem jBv (h:f.wf) (d:Nat):Tryz.prog.keyLits (d+1+1) 27 f.cells=some f.lits:=by
 obtain⟨h1,h2,h3⟩:=h
 conv=>lhs;unfold Program.keyLits
 rw[Tryz.underlying27];simp[co27,co3,co4,FltZ.cells,FltZ.lits,zOw h1,zOw h2,zOw h3,zRv]
theorem jBh (h:f.wf):∃x,keyOf Tryz.prog 27 (.agg f.cells.toArray)=some x:=by
 unfold keyOf;rw[Tryz.underlying27];simp only[kt27,Bool.true_and];have hf:(Value.agg f.cells.toArray).formed Tryz.prog 27=true:=by simp[Value.formed,Tryz.underlying27,co27,FltZ.cells]
 rw[if_pos hf,tszC];have:(Value.agg f.cells.toArray).cells.toList=f.cells:=rfl;rw[this,jBv h];exact⟨_,rfl⟩
theorem fltLaw:WideMaps.KeyLaw Tryz.prog 27:=deep_law (m:=4) (by omega) (by kernel_rfl) (by kernel_rfl) (by rw[Tryz.underlying27])
theorem zP9 (h:f.wf) (x y:Operand) (w:World):(do eqGuard .neq 27 x y (.agg f.cells.toArray) (.agg f.cells.toArray);binOp .neq 27 (.agg f.cells.toArray) (.agg f.cells.toArray):Sem Value).run Tryz.prog w=.ok (.bool false) w:=by
 obtain⟨k1,hk1⟩:=jBh h;obtain⟨r,h1,h2⟩:=zDl (P:=Tryz.prog) (m:=4) om (k:=27) kr (by rw[Tryz.underlying27]) kr fltLaw hk1 hk1 x y w
 cases r with
 | false=>exact h1
 | true=>exact absurd rfl (h2.1 rfl)
theorem zNy {f:Flt} (h:FltOk f):f.toZ.wf:=by
 obtain⟨h1,h2,h3,h4⟩:=h;unfold Flt.toZ;exact⟨by unfold W64;dsimp only;omega,by unfold W64;dsimp only;omega,by unfold W64;dsimp only;omega⟩
instance TB.flt (a b c:Int) (d:Bool) (u:Value):TB (.agg #[.int .i64 a,.int .i64 b,.int .i64 c,.bool d]) u:=TB.agg (by
 intro x hx;simp at hx
 rcases hx with rfl|rfl|rfl|rfl
 ·exact .int _ _
 ·exact .int _ _
 ·exact .int _ _
 ·exact .bool _) u
theorem zM8 (l:List Int):l.flatMap zcell=l.map (Value.int .i64):=by
 rw[List.map_eq_flatMap]
 rfl
theorem jEm (l:List Int) (j:Nat) (v:Int):(l.flatMap zcell).set j (.int .i64 v)=(l.set j v).flatMap zcell:=by
 rw[zM8,zM8,List.map_set]
theorem zQl (l:List Int):(l.flatMap zcell).length=l.length:=by rw[zM8,List.length_map]
theorem zPw (l:List FltZ):(l.flatMap FltZ.cells).length=l.length*4:=by
 induction l with
 | nil=>rfl
 | cons x l ih=>rw[List.flatMap_cons,List.length_append,ih,List.length_cons,zUm];omega
def CZ.Fine (x:CZ):Prop:=∃fs kiln days,ChV fs kiln days∧x.fz=fs.map Flt.toZ∧x.kz=((kiln:Nat):Int)∧x.dz=toZs days
end
section
variable [I:Sys]
variable {dA fA:Option Addr} {dc fc:Nat} {dz:List Int} {fz:List FltZ} {kz:Int}
theorem jDk {A:Option Addr} {c:Nat} {l:List Int} (h0:A=none->l=[]∧c=0) (hl:l.length<=1000) (w:World) (hA:RdL zcell 1 w A l):Calls Tryz.prog 55 #[.slice A l.length c] w fun e w'=>∃A' c',e=.returned (.slice A' l.length c')∧Grew w w' [.row 3 1 A' l.length c' (l.flatMap zcell)]:=by
 refine enter (N:=6) [(0,.slice A l.length c)] Tryz.func55 J Tryz.ntmps55 J J (csr (lax J J (csr (zAy J U23 F.ti3 ?_))));intro b3;refine wT 1 (.head _) (zA J J (zBs (cells:=zcell) J J J Tryz.underlying23 F.ti3 J J (fun _=>rfl) jEi (fun a w ha=>hA.later ha.below) h0 J (by unfold maxLen;omega) om ?_));intro A1 c1;refine lax J J (zS ?_);simp only[Nat.zero_add,List.nil_append];exact zX J (fun a w ha=>jJ J J ha) (fun a w ha=>⟨A1,c1,rfl,ha.grown sbl⟩)

theorem jDb (f0:fA=none->fz=[]∧fc=0) (d0:dA=none->dz=[]∧dc=0) (hfl:fz.length<=1000) (hdl:dz.length<=1000) (w:World) (hF:RdL FltZ.cells 4 w fA fz) (hD:RdL zcell 1 w dA dz):Calls Tryz.prog 14 #[.agg #[.slice fA fz.length fc,.int .i64 kz,.slice dA dz.length dc]] w fun e w'=>∃A c D dc',e=.returned (.agg #[.slice A fz.length c,.int .i64 kz,.slice D dz.length dc'])∧Grew w w' [.row 27 4 A fz.length c (fz.flatMap FltZ.cells),.row 3 1 D dz.length dc' (dz.flatMap zcell)]:=by
 refine enter (N:=13) [(0,.agg #[.slice fA fz.length fc,.int .i64 kz,.slice dA dz.length dc])] Tryz.func14 J Tryz.ntmps14 J J (csr (jM J J ?_));intro b1;refine zZ J F.ti25 ?_;intro b2;refine lnx (zD (jU [.b b2] F.follows 11 J [false,false,false,false,false,false,false,false,false,false,false] J (zC 1 J J J (zT J F.fi25_0 F.ti22) (zC 2 J J J (jN J F.one22) (zC 4 J J J (zT J F.fi25_1 F.ti3) (zC 5 J J J (jN J F.one3) (zC 6 J J J (zT J F.fi25_2 F.ti23) (zC 7 J J J (jN J F.one23) (an1 0 J (zAy J U22 F.ti27 ?_))))))))));intro b3;refine wT 4 (.head _) (zB (anb (an1 3 J (zBs (cells:=FltZ.cells) J J J Tryz.underlying22 F.ti27 J J (fun _=>rfl) jC8 (fun a w ha=>hF.later ha.below) f0 J (by unfold maxLen;omega) om ?_))));intro A2 c2;simp only[Nat.zero_add,List.nil_append];refine zB (anb (an1 8 J (kR (X:=Option Addr×Nat) (vs:=[_]) (p:=fun _=>True) (val:=fun y=>.slice y.1 dz.length y.2) (rs:=fun y=>[.row 3 1 y.1 dz.length y.2 (dz.flatMap zcell)]) J J F.ent55 (fun a w ha=>(jDk d0 hdl w (hD.later ha.below)).mono (fun e w' h=>by obtain⟨A',c',h1,h2⟩:=h;exact⟨(A',c'),trivial,h1,h2⟩)) ?_)));rintro⟨A3,c3⟩ -;dsimp only[List.cons_append,List.nil_append];exact zB (anb (zC 9 J J J (xU (vs:=[(0,_),(1,_),(2,_)]) (l':=[_,_,_]) J F.ti25 F.pl25 (.cons J J (.cons J J (.cons J J (.nil _)))) J) (an1 10 J (zF J J F.ti25 J (zB (anb (adn (zE (zS (zX J (fun a w ha=>by exact qS (ha:=ha) J J F.agg25 F.ti25 J) (fun a w ha=>⟨A2,c2,A3,c3,rfl,(ha.pck pkk).grown (List.Sublist.refl _)⟩)))))))))))

theorem zTy {fA' dA':Option Addr} {fc' dc':Nat} (hw:∀f∈fz,f.wf) (hfl:fz.length<=1000) (hdl:dz.length<=1000) (w:World) (hF:RdL FltZ.cells 4 w fA fz) (hD:RdL zcell 1 w dA dz) (hF':RdL FltZ.cells 4 w fA' fz) (hD':RdL zcell 1 w dA' dz):Calls Tryz.prog 18 #[.agg #[.slice fA fz.length fc,.int .i64 kz,.slice dA dz.length dc],.agg #[.slice fA' fz.length fc',.int .i64 kz,.slice dA' dz.length dc']] w fun e w'=>e=.returned (.bool true)∧Grew w w' []:=by
 refine enter (N:=46) [(0,.agg #[.slice fA fz.length fc,.int .i64 kz,.slice dA dz.length dc]),(1,.agg #[.slice fA' fz.length fc',.int .i64 kz,.slice dA' dz.length dc'])] Tryz.func18 J Tryz.ntmps18 J J (csr (jM J J ?_));intro b2;refine jM J J ?_;intro b3;refine lax J J (zD (csr (zI J J F.fi25_0 F.ti22 (zQ J J F.one22 (jP J J Tryz.underlying22 (zI J J F.fi25_0 F.ti22 (zQ J J F.one22 (jP J J Tryz.underlying22 (zG (v:=.bool false) J J J (fun w=>by rw[kX,decide_eq_false (fun h=>h J)]) (zA J J (zN J J (zI J J F.fi25_1 F.ti3 (zN J J (zQ J J F.one3 (zN J J (zI J J F.fi25_1 F.ti3 (zN J J (zQ J J F.one3 (zN J J (zG (v:=.bool false) J J J (fun w=>by rw[kX,decide_eq_false (fun h=>h J)]) (jS J J J (zA J J (zN J J (zI J J F.fi25_2 F.ti23 (zN J J (zQ J J F.one23 (zN J J (zI J J F.fi25_2 F.ti23 (zN J J (zQ J J F.one23 (zN J J ?_)))))))))))))))))))))))))))))))
 refine jG (v:=.bool true) (vs:=[_,_]) J J F.ent45 (fun a w ha=>by
  have h:=zOx (ca:=dc) (cb:=dc') (l:=dz) (m:=dz) om om w (hD.later ha.below) (hD'.later ha.below);rw[decide_eq_true J] at h
  exact h) ?_
 refine zN J J (kW J J (jS J J J (lnx (kN J (zP (zE (zD (csr (lax J J (zU (qR (G:=Nat) (fun k=>k<=fz.length) (fun k=>fz.length-k) (fun k=>[(2,pt b2),(3,pt b3),(5,.int .i64 (k:Int))]) (fun k=>[.blk b3 (.cells #[.slice fA' fz.length fc',.int .i64 kz,.slice dA' dz.length dc'] 25 (0,0)),.blk b2 (.cells #[.slice fA fz.length fc,.int .i64 kz,.slice dA dz.length dc] 25 (0,0))]) 0 (Nat.zero_le _) sbn sbl ?_)))))))))));intro k hk;(try dsimp only at hk ⊢);refine zD (csr (zA J J (zI J J F.fi25_0 F.ti22 (zQ J J F.one22 (jP J J U22 (zG J J J jY ?_))))))
 refine lnx (zJ J (fun hc1=>?_) (fun hc1=>?_))
 ·have hk2:k<fz.length:=om;obtain⟨bf,bo,hfA,hbf,hcf⟩:=hF om;obtain⟨bg,go,hgA,hbg,hcg⟩:=hF' om;obtain⟨f,hx⟩:∃x,fz[k]?=some x:=⟨_,List.getElem?_eq_getElem hk2⟩;have hwf:=hw f (List.mem_of_getElem? hx);obtain⟨pw,gn,nw,wd⟩:=f;refine zP (zE (zD (zU (zD (jU [] F.follows 11 J [false,false,false,false,false,false,false,false,false,false,false] J (zC 0 J J J (zT J F.fi25_0 F.ti22) (zC 1 J J J (jN J F.one22) (zC 2 J J J (zW J) (zC 3 J J J (kQ (j:=k) (show _=some (Value.slice (some ⟨bf,bo,none⟩) fz.length fc) from by rw[<-hfA];rfl) J Tryz.underlying22 F.ti27 J hk2) (zC 4 J J J (vB (l:=[.int .i64 pw,.int .i64 gn,.int .i64 nw,.bool wd]) J F.agg27 F.ti27 J (fun a w ha j u hu=>ha.old (hcf k _ hx j u hu) hbf)) (zC 5 J J J (zT J F.fi25_0 F.ti22) (zC 6 J J J (jN J F.one22) (zC 7 J J J (zW J) (zC 8 J J J (kQ (j:=k) (show _=some (Value.slice (some ⟨bg,go,none⟩) fz.length fc') from by rw[<-hgA];rfl) J Tryz.underlying22 F.ti27 J hk2) (zC 9 J J J (vB (l:=[.int .i64 pw,.int .i64 gn,.int .i64 nw,.bool wd]) J F.agg27 F.ti27 J (fun a w ha j u hu=>ha.old (hcg k _ hx j u hu) hbg)) (zC 10 J J J (zLf (v:=.bool false) J J (zP9 hwf _ _)) (adn (zE (kN J (zP (zK (zE (zM (zA J J (zG J J J (fun w=>jL w (zV _ om om)) (zH J J (zB (qC (k+1) om tdo sbn sbl))))))))))))))))))))))))))))
 ·exact jT (zL (zL (jF (zE (csr (lax J J (zS (zX J (fun a w ha=>jJ J J ha) (fun a w ha=>⟨rfl,ha.grown nsl⟩)))))))))

theorem jCn (w:World):Calls Tryz.prog 10 #[.agg #[.slice fA fz.length fc,.int .i64 kz,.slice dA dz.length dc]] w fun e w'=>e=.returned (.bool (decide (20<fz.length)||decide (20<dz.length)||(decide (fz.length=3)&&decide (2<dz.length))))∧Grew w w' []:=by
 refine enter (N:=25) [(0,.agg #[.slice fA fz.length fc,.int .i64 kz,.slice dA dz.length dc])] Tryz.func10 J Tryz.ntmps10 J J (csr (jM J J ?_));intro b1
 refine lax J J (csr (wG 22 24 (.bool (decide (20<fz.length)||decide (20<dz.length)||(decide (fz.length=3)&&decide (2<dz.length)))) ?_ ?_))
 ·refine zI J J F.fi25_0 F.ti22 (zQ J J F.one22 (jP J J U22 (zG J J J vN ?_)))
  refine zA J J (yB (t:=7) J (fun hg7=>?_) (fun hg7=>?_))
  ·exact zY J J J (zY J J J (zY J J J (zY J J J (jI J J J (zA J J (zY J J J (zY J J J (zY J J J (zY J J J (zY J J J (kO J J J (kO J J J (kO J J J (kO J J J (zY J J J (jI J J J (zB (xF (.cons (by simp_all[look]<;>first|omega|(rw[Bool.eq_iff_iff];simp;omega)) sbn) sbl))))))))))))))))))
  ·refine zN J J (zI J J F.fi25_2 F.ti23 (zN J J (zQ J J F.one23 (zN J J (jP J J U23 (zN J J (zG J J J vN ?_)))))))
   refine jS J J J (zA J J (yB (t:=13) J (fun hg13=>?_) (fun hg13=>?_)))
   ·exact zY J J J (zY J J J (zY J J J (zY J J J (zY J J J (kO J J J (kO J J J (kO J J J (kO J J J (zY J J J (jI J J J (zB (xF (.cons (by simp_all[look]<;>first|omega|(rw[Bool.eq_iff_iff];simp;omega)) sbn) sbl))))))))))))
   ·refine zN J J (zI J J F.fi25_0 F.ti22 (zN J J (zQ J J F.one22 (zN J J (jP J J U22 (zN J J (zG J J J kD ?_)))))))
    refine zN J J (zA J J (yB (t:=18) J (fun hg18=>?_) (fun hg18=>?_)))
    ·exact zN J J (zI J J F.fi25_2 F.ti23 (zN J J (zQ J J F.one23 (zN J J (jP J J Tryz.underlying23 (zN J J (zG J J J vN (zN J J (jI J J J (jS J J J (zB (xF (.cons (by simp_all[look]<;>first|omega|(rw[Bool.eq_iff_iff];simp;omega)) sbn) sbl))))))))))))
    ·exact zY J J J (zY J J J (zY J J J (zY J J J (zN J J (jS J J J (jS J J J (zB (xF (.cons (by simp_all[look]<;>first|omega|(rw[Bool.eq_iff_iff];simp;omega)) sbn) sbl))))))))
 exact lax J J (zS (zX J (fun a w ha=>jJ J J ha) (fun a w ha=>⟨rfl,ha.grown nsl⟩)))

end
section
variable [I:Sys]
theorem zVk {C:Ctx} {fr:List (Nat×Value)} {T:List Res} {a:Act} {w:World} (hC:C.P=Tryz.prog) {hb tk st nc:Nat} {nA:Option Addr} {nums:List Int} (hB:C.w0.heap.size=C.B) (hN:RdL icell 1 C.w0 nA nums) (htk:tk<=700000) (hst:st<18446744073709551616) {fA dA:Option Addr} {fc dc0:Nat} {fz:List FltZ} {kz sg pw gn nw:Int} {wd:Bool} {dz:List Int} (hf:FltZ.wf ⟨pw,gn,nw,wd⟩) (ha:At C fr (.blk hb (hatO nA nums.length nc (tk) (st))::T) a w):Calls C.P 12 #[.agg #[.slice fA fz.length fc,.int .i64 kz,.slice dA dz.length dc0],.agg #[.int .i64 pw,.int .i64 gn,.int .i64 nw,.bool wd],.int .i64 sg,pt hb] w fun e w'=>(∃(tk' st' b:Nat) (own other:CZ),tk'<=tk+110∧st'<18446744073709551616∧own.Fine∧own.Ok∧other.Ok∧other.fz.length=own.fz.length∧other.dz.length=own.dz.length∧e=.returned (.slice (some ⟨b,0,none⟩) 4 4)∧At C fr (.row 25 3 (some ⟨b,0,none⟩) 4 4 ([(⟨fA,fc,fz,kz,dA,dc0,dz⟩:CZ),own,own,other].flatMap CZ.cells)::(own.rows++other.rows++.blk hb (hatO nA nums.length nc tk' st')::T)) a w'):=by
 obtain⟨P,B,w0,N0,ds⟩:=C;obtain rfl:P=Tryz.prog:=hC;(try dsimp only at hB);(try dsimp only at hN);refine yG (N:=42) [(0,.agg #[.slice fA fz.length fc,.int .i64 kz,.slice dA dz.length dc0]),(1,.agg #[.int .i64 pw,.int .i64 gn,.int .i64 nw,.bool wd]),(2,.int .i64 sg),(3,pt hb)] ha Tryz.func12 J Tryz.ntmps12 J J (csr (jM J J ?_));intro b4;refine jM J J ?_;intro b5;refine lax J J (csr (zA J J (zAw (X:=Nat×Nat×Nat×List Flt×List Nat×Option Addr×Option Addr×Nat×Nat) (vs:=[_]) hb (fun y=>hatO nA nums.length nc y.1 y.2.1) (fun y=>[.row 27 4 y.2.2.2.2.2.1 y.2.2.2.1.length y.2.2.2.2.2.2.2.1 (y.2.2.2.1.flatMap Flt.cells),.row 3 1 y.2.2.2.2.2.2.1 y.2.2.2.2.1.length y.2.2.2.2.2.2.2.2 (ints y.2.2.2.2.1)]) (fun y=>y.1<=tk+101∧y.2.1<18446744073709551616∧ChV y.2.2.2.1 y.2.2.1 y.2.2.2.2.1) (fun y=>.agg #[.slice y.2.2.2.2.2.1 y.2.2.2.1.length y.2.2.2.2.2.2.2.1,.int .i64 (y.2.2.1:Int),.slice y.2.2.2.2.2.2.1 y.2.2.2.2.1.length y.2.2.2.2.2.2.2.2]) J J F.ent53 (fun a w ha=>(jBz (C:=⟨Tryz.prog,B,w0,_,_⟩) J hB hN (tk:=tk) om hst ha).mono (fun e w' h=>by obtain⟨t',s',k',f',d',A',D',c',dc',h1,h2,h3,h4,h5⟩:=h;exact⟨(t',s',k',f',d',A',D',c',dc'),⟨h1,h2,h3⟩,h4,h5⟩)) ?_)));rintro⟨tk1,s1,kiln,fs,days,A,D,c,dc⟩ ⟨htk1,hs1,hc⟩;dsimp only[List.cons_append,List.nil_append] at htk1 hs1 hc ⊢;refine zZ J F.ti25 ?_;intro b9;refine zF J J F.ti25 J (lnx (csr (jB J J F.agg25 F.ti25 (kR (X:=Option Addr×Nat×Option Addr×Nat) (vs:=[_]) (p:=fun _=>True) (val:=fun g=>.agg #[.slice g.1 fs.length g.2.1,.int .i64 (kiln:Int),.slice g.2.2.1 days.length g.2.2.2]) (rs:=fun g=>[.row 27 4 g.1 fs.length g.2.1 (fs.flatMap Flt.cells),.row 3 1 g.2.2.1 days.length g.2.2.2 (ints days)]) J J F.ent14 (fun a w ha=>(zU8 hc.f1 (by have:=hc.f3;omega) hc.d1 (by have:=hc.d4;omega) w (zWu (A:=A) ha J) (zIf (A:=D) ha J)).mono (fun e w' h=>by obtain⟨A',c',D',dc',h1,h2⟩:=h;exact⟨(A',c',D',dc'),trivial,h1,h2⟩)) ?_))));rintro⟨A2,c2,D2,dc2⟩ -;dsimp only[List.cons_append,List.nil_append];have hf1:=hc.f1;have hf3:=hc.f3;have hd1:=hc.d1;have hd4:=hc.d4;rw[<-zZp fs,<-jBy days];refine zZ J F.ti25 ?_;intro b10;refine zF J J F.ti25 J (lnx (zD (csr (zA J J (zBi J J J hB hN hs1 om om om ?_)))));rintro s2 sb hs2
 refine lnx (xK (G:=Nat×Nat×List FltZ×List Int) (fun g=>g.1<=tk1+2∧g.2.1<18446744073709551616∧g.2.2.1.length=fs.length∧g.2.2.2.length=days.length∧∀y∈g.2.2.1,y.wf) (fun g=>[(3,pt hb),(4,pt b4),(9,pt b9),(10,pt b10)]) (fun g=>.blk hb (hatO nA nums.length nc (g.1) (g.2.1))::.blk b4 (.cells #[.slice fA fz.length fc,.int .i64 kz,.slice dA dz.length dc0] 25 (0,0))::.blk b9 (.cells #[.slice A fs.length c,.int .i64 (kiln:Int),.slice D days.length dc] 25 (0,0))::.blk b10 (.cells #[.slice A2 fs.length c2,.int .i64 (kiln:Int),.slice D2 days.length dc2] 25 (0,0))::.row 27 4 A fs.length c ((fs.map Flt.toZ).flatMap FltZ.cells)::.row 3 1 D days.length dc ((toZs days).flatMap zcell)::.row 27 4 A2 fs.length c2 (g.2.2.1.flatMap FltZ.cells)::.row 3 1 D2 days.length dc2 (g.2.2.2.flatMap zcell)::T) ?_ ?_)
 ·refine kI J (fun hc0=>?_) (fun hc0=>?_)
  ·have hfw:∀y∈fs.map Flt.toZ,y.wf:=fun y hy=>by
    obtain⟨z,hz,rfl⟩:=List.mem_map.1 hy;exact zNy (hc.ff z hz)
   refine jU [.b hb,.r A2] F.follows 11 J [false,false,false,false,false,false,false,false,false,false,false] J (zC 0 J J J (zT J F.fi25_0 F.ti22) (zC 1 J J J (jN J F.one22) (zC 2 J J J (zW J) (zC 3 J J J (zT J F.fi25_0 F.ti22) (zC 4 J J J (jN J F.one22) (zC 5 J J J (vM J U22) (zC 6 J J J (qP (v:=.int .i64 ((fs.length:Int)-1)) J J (fun w=>qN w (zV _ om om))) (zC 8 J J J (kS J F.agg27 F.ti27) (an1 7 J (vL J J J hB hN hs2 om om ?_))))))))));rintro s3 x1 hs3 hx1;refine zB (anb (an1 9 J ?_));have hl1:x1<fs.length:=om;refine yE A2 hf1 ?_;intro g2 hg2;exact kF (j:=x1) J (show _=some (Value.slice (some ⟨g2,0,none⟩) fs.length c2) from by rw[<-hg2];rfl) J Tryz.underlying22 F.ti27 J hl1 (zB (anb (an1 10 J (zLa (A:=A2) (vs:=[.int .i64 pw,.int .i64 gn,.int .i64 nw,.bool wd]) (((fs.map Flt.toZ).set x1 (⟨pw,gn,nw,wd⟩:FltZ)).flatMap FltZ.cells) (show _=some (Value.pointer (some ⟨g2,0+x1*4,none⟩)) from rfl) J F.ti27 J hg2 (by rw[zPw,List.length_map];show 0+x1*4+4<=_;omega) (by rw[show 0+x1*4=x1*4 from by omega];exact zLr zUm (⟨pw,gn,nw,wd⟩:FltZ) _ _ (by rw[List.length_map];exact hl1)) (zB (anb (adn (jV (tk1+1+1,s3,(fs.map Flt.toZ).set x1 (⟨pw,gn,nw,wd⟩:FltZ),toZs days) ⟨by (try dsimp only);omega,hs3,by rw[List.length_set,List.length_map],vO _,fun y hy=>(List.mem_or_eq_of_mem_set hy).elim (hfw y) fun e=>e▸hf⟩ sbn pkk))))))))
  ·have hfw:∀y∈fs.map Flt.toZ,y.wf:=fun y hy=>by
    obtain⟨z,hz,rfl⟩:=List.mem_map.1 hy;exact zNy (hc.ff z hz)
   refine jU [.b hb,.r D2] F.follows 11 J [false,false,false,false,false,false,false,false,false,false,false] J (zC 0 J J J (zT J F.fi25_2 F.ti23) (zC 1 J J J (jN J F.one23) (zC 2 J J J (zW J) (zC 3 J J J (zT J F.fi25_2 F.ti23) (zC 4 J J J (jN J F.one23) (zC 5 J J J (vM J U23) (zC 6 J J J (qP (v:=.int .i64 ((days.length:Int)-1)) J J (fun w=>qN w (zV _ om om))) (zC 8 J J J (zW J) (an1 7 J (vL J J J hB hN hs2 om om ?_))))))))));rintro s3 x1 hs3 hx1;refine zB (anb (an1 9 J ?_));have hl1:x1<days.length:=om;refine yE D2 hd1 ?_;intro g2 hg2;exact kF (j:=x1) J (show _=some (Value.slice (some ⟨g2,0,none⟩) days.length dc2) from by rw[<-hg2];rfl) J Tryz.underlying23 F.ti3 J hl1 (zB (anb (an1 10 J (yW (A:=D2) (((toZs days).set x1 sg).flatMap zcell) (show _=some (Value.pointer (some ⟨g2,0+x1*1,none⟩)) from rfl) J F.ti3 hg2 (by rw[zQl,vO];omega) (by rw[show 0+x1*1=x1 from by omega,jEm]) (zB (anb (adn (jV (tk1+1+1,s3,fs.map Flt.toZ,(toZs days).set x1 sg) ⟨by (try dsimp only);omega,hs3,List.length_map ..,by rw[List.length_set,vO],hfw⟩ sbn pkk))))))))
 ·rintro⟨tk2,st2,fz2,dz2⟩ ⟨htk2,hst2,hl2,hd2,hw2⟩;dsimp only at htk2 hst2 hl2 hd2 hw2 ⊢;refine zE (csr (yE A hf1 ?_));intro gA hgA;refine yE D hd1 ?_;intro gD hgD;refine yE A2 hf1 ?_;intro gA2 hgA2;refine yE D2 hd1 ?_;intro gD2 hgD2;refine jB J J F.agg25 F.ti25 (jB J J F.agg25 F.ti25 (jB J J F.agg25 F.ti25 (jB J J F.agg25 F.ti25 (yH (vs:=[(0,.agg ([.slice fA fz.length fc,.int .i64 kz,.slice dA dz.length dc0]:List Value).toArray),(1,.agg ([.slice A fs.length c,.int .i64 (kiln:Int),.slice D days.length dc]:List Value).toArray),(2,.agg ([.slice A fs.length c,.int .i64 (kiln:Int),.slice D days.length dc]:List Value).toArray),(3,.agg ([.slice A2 fs.length c2,.int .i64 (kiln:Int),.slice D2 days.length dc2]:List Value).toArray)]) [.slice fA fz.length fc,.int .i64 kz,.slice dA dz.length dc0,.slice A fs.length c,.int .i64 (kiln:Int),.slice D days.length dc,.slice A fs.length c,.int .i64 (kiln:Int),.slice D days.length dc,.slice A2 fs.length c2,.int .i64 (kiln:Int),.slice D2 days.length dc2] J J U30 F.ti25 J J J (Lit.agg (l1:=[.slice fA fz.length fc,.int .i64 kz,.slice dA dz.length dc0]) J (Lit.agg (l1:=[.slice A fs.length c,.int .i64 (kiln:Int),.slice D days.length dc]) J (Lit.agg (l1:=[.slice A fs.length c,.int .i64 (kiln:Int),.slice D days.length dc]) J (Lit.agg (l1:=[.slice A2 fs.length c2,.int .i64 (kiln:Int),.slice D2 days.length dc2]) J (rfl))))) ?_))));intro b41;refine wX (n:=4) 3 J (by unfold maxLen;omega) (.head _) ?_
  refine lax J J (zS (zX J (fun a w ha=>jJ J J ha) (fun _ _ ha'=>⟨tk2,st2,b41,(⟨A,c,fs.map Flt.toZ,(kiln:Int),D,dc,toZs days⟩:CZ),(⟨A2,c2,fz2,(kiln:Int),D2,dc2,dz2⟩:CZ),by omega,hst2,⟨fs,kiln,days,hc,rfl,rfl,rfl⟩,⟨fun y hy=>?_,fun h=>?_,fun h=>?_,?_,?_⟩,⟨hw2,fun h=>?_,fun h=>?_,?_,?_⟩,?_,?_,rfl,?_⟩)))
  ·obtain⟨z,hz,rfl⟩:=List.mem_map.1 hy;exact zNy (hc.ff z hz)
  ·rw[hgA] at h;cases h
  ·rw[hgD] at h;cases h
  ·rw[List.length_map];omega
  ·rw[vO];omega
  ·rw[hgA2] at h;cases h
  ·rw[hgD2] at h;cases h
  ·rw[hl2];omega
  ·rw[hd2];omega
  ·rw[List.length_map];exact hl2
  ·rw[vO];exact hd2
  ·simp only[CZ.rows,CZ.cells,List.flatMap_cons,List.flatMap_nil,List.append_nil,List.cons_append,List.nil_append,List.length_map,vO,hl2,hd2];exact ha.back (ha'.pck pkk)

variable {P:List Flt->Nat->List Nat->Nat×Nat->Prop} {args:Array Value} {d:Int} {f:FuncId} {w:World} {x y:Nat×Nat}
abbrev E0 (c:Nat):Nat×Nat:=(0,c)
def MostR (d:Int) (fs:List Flt) (kiln:Nat) (days:List Nat) (y:Nat×Nat):Prop:=(btw d 0 ((days.length:Int)-1)=false∧y=(0,3))∨∃dn:Nat,((dn:Nat):Int)=d∧dn<days.length∧MostP fs kiln (days.take dn) y.1 y.2
def SpareR (d:Int) (fs:List Flt) (kiln:Nat) (days:List Nat) (y:Nat×Nat):Prop:=(btw d 0 ((days.length:Int)-1)=false∧y=(0,3))∨∃dn:Nat,((dn:Nat):Int)=d∧dn<days.length∧y=(optN (sprN fs kiln days dn 12),optE (sprN fs kiln days dn 12))
theorem zXs {α β:Type} {x y:α×β} (h:x.1=y.1∧x.2=y.2):x=y:=Prod.ext h.1 h.2
theorem MostR.uniq {fz:List FltZ} {kz:Int} {dz:List Int} (h:RawP (MostR d) E0 fz kz dz x) (h':RawP (MostR d) E0 fz kz dz y):x=y:=RawP.uniq (fun fs kiln days _ a b=>by
 rcases a with ⟨a1,a2⟩|⟨d1,a1,a2,a3⟩<;>rcases b with ⟨b1,b2⟩|⟨d2,b1,b2,b3⟩
 ·rw[a2,b2]
 ·subst b1;rw[zDa b2] at a1
  cases a1
 ·subst a1;rw[zDa a2] at b1
  cases b1
 ·subst a1;obtain rfl:=Int.ofNat_inj.1 b1
  exact zXs (MostP.uniq a3 b3)) h h'
theorem SpareR.uniq {fz:List FltZ} {kz:Int} {dz:List Int} (h:RawP (SpareR d) E0 fz kz dz x) (h':RawP (SpareR d) E0 fz kz dz y):x=y:=RawP.uniq (fun fs kiln days _ a b=>by
 rcases a with ⟨a1,a2⟩|⟨d1,a1,a2,a3⟩<;>rcases b with ⟨b1,b2⟩|⟨d2,b1,b2,b3⟩
 ·rw[a2,b2]
 ·subst b1;rw[zDa b2] at a1
  cases a1
 ·subst a1;rw[zDa a2] at b1
  cases b1
 ·subst a1;obtain rfl:=Int.ofNat_inj.1 b1
  rw[a3,b3]) h h'
section
variable {fA dA:Option Addr} {fc dc:Nat} {fz:List FltZ} {kz:Int} {dz:List Int}
abbrev cz3 (fA dA:Option Addr) (fc dc:Nat) (fz:List FltZ) (kz:Int) (dz:List Int):Value:=.agg #[.slice fA fz.length fc,.int .i64 kz,.slice dA dz.length dc]
abbrev tu2 (y:Nat×Nat):Value:=.tuple #[.int .i64 (y.1:Int),.int .i64 (y.2:Int)]
def Ans (P:List Flt->Nat->List Nat->Nat×Nat->Prop) (fz:List FltZ) (kz:Int) (dz:List Int) (w:World) (e:Ending) (w':World):Prop:=∃y:Nat×Nat,RawP P E0 fz kz dz y∧e=.returned (tu2 y)∧Grew w w' []
theorem zJ5 {fs:List Flt} {kiln:Nat} {days:List Nat} (hc:ChV fs kiln days) (h:Calls Tryz.prog f args w fun e w'=>(∃n er:Nat,P fs kiln days (n,er)∧e=.returned (.tuple #[.int .i64 (n:Int),.int .i64 (er:Int)]))∧Grew w w' []):Calls Tryz.prog f args w fun e w'=>Ans P (fs.map Flt.toZ) kiln (toZs days) w e w' :=
 h.mono fun _ _ ⟨⟨n,er,h1,h2⟩,h3⟩=>⟨(n,er),.inr ⟨fs,kiln,days,hc,rfl,rfl,rfl,h1⟩,h2,h3⟩
theorem zT9 {n:Nat}:btw d 0 ((n:Int)-1)=false∨∃dn:Nat,((dn:Nat):Int)=d∧dn<n:=by
 cases h:btw d 0 ((n:Int)-1) with
 | false=>exact .inl rfl
 | true =>
  unfold btw at h;simp only[Bool.and_eq_true,decide_eq_true_eq] at h;exact .inr ⟨d.toNat,by omega,by omega⟩
theorem zG6 (hk:askE (chk fz kz dz) (btw d 0 ((dz.length:Int)-1))≠0) (hP:∀fs kiln days,ChV fs kiln days->dz.length=days.length->btw d 0 ((days.length:Int)-1)=false->P fs kiln days (0,3))
  (h:Calls Tryz.prog f args w fun e w'=>e=.returned (.tuple #[.int .i64 0,.int .i64 ((askE (chk fz kz dz) (btw d 0 ((dz.length:Int)-1)):Nat):Int)])∧Grew w w' []):Calls Tryz.prog f args w fun e w'=>Ans P fz kz dz w e w' :=
 h.mono fun _ _ ⟨h1,h2⟩=>by
  by_cases hc:chk fz kz dz=0
  ·have hb:btw d 0 ((dz.length:Int)-1)=false:=by
    cases hb:btw d 0 ((dz.length:Int)-1) with
    | false=>rfl
    | true=>rw[hc,hb] at hk;exact absurd rfl hk
   rw[hc,hb] at h1;obtain⟨fs,kiln,days,hv,e1,e2,e3⟩:=zLx hc;have hl:dz.length=days.length:=by rw[<-e3,vO]
   exact⟨(0,3),.inr ⟨fs,kiln,days,hv,e1,e2,e3,hP _ _ _ hv hl (hl▸hb)⟩,h1,h2⟩
  ·rw[zE4 hc] at h1;exact⟨(0,chk fz kz dz),.inl ⟨hc,rfl⟩,h1,h2⟩
theorem zJo (h:¬askE (chk fz kz dz) (btw d 0 ((dz.length:Int)-1))≠0):∃fs kiln days,∃dn:Nat,ChV fs kiln days∧fs.map Flt.toZ=fz∧((kiln:Nat):Int)=kz∧toZs days=dz∧((dn:Nat):Int)=d∧dn<days.length:=by
 have hk:chk fz kz dz=0:=by
  by_cases hk:chk fz kz dz=0
  ·exact hk
  ·rw[zE4 hk] at h;exact absurd hk h
 obtain⟨fs,kiln,days,hc,h1,h2,h3⟩:=zLx hk
 rcases zT9 (d:=d) (n:=dz.length) with hb|⟨dn,hb,hl⟩
 ·rw[hk,hb] at h;exact absurd (by decide) h
 ·exact⟨fs,kiln,days,dn,hc,h1,h2,h3,hb,by rw[<-h3,vO] at hl;exact hl⟩
theorem jDe [R:ReaC] (hfl:fz.length<1000000) (hdl:dz.length<1000000) (hcap:dz.length<=dc) (w:World) (hR:RdC w) (hL:0<fz.length->∀fs:List Flt,Lendy w fA fs) (hF:RdL FltZ.cells 4 w fA fz) (hD:RdL zcell 1 w dA dz):Calls Tryz.prog 46 #[cz3 fA dA fc dc fz kz dz,.int .i64 d] w fun e w'=>Ans (MostR d) fz kz dz w e w':=by
 by_cases hk:askE (chk fz kz dz) (btw d 0 ((dz.length:Int)-1))≠0
 ·exact zG6 hk (fun _ _ _ _ _ h=>.inl ⟨h,rfl⟩) (jCc hfl hdl hk w hF hD)
 ·obtain⟨fs,kiln,days,dn,hc,rfl,rfl,rfl,rfl,hd⟩:=zJo hk;refine zJ5 hc ?_;unfold cz3;rw[vO] at hcap;rw[List.length_map,vO];exact (jDm hc hcap hd w hR (hL (by rw[List.length_map];exact hc.f1) fs) (zJy hF) (zKe hD)).mono fun e w' ⟨⟨n,er,h1,h2⟩,h3⟩=>⟨⟨n,er,.inr ⟨dn,rfl,hd,h1⟩,h2⟩,h3⟩
theorem zZm (hfl:fz.length<1000000) (hdl:dz.length<1000000) (w:World) (hF:RdL FltZ.cells 4 w fA fz) (hD:RdL zcell 1 w dA dz):Calls Tryz.prog 47 #[cz3 fA dA fc dc fz kz dz,.int .i64 d] w fun e w'=>Ans (MostR d) fz kz dz w e w':=by
 by_cases hk:askE (chk fz kz dz) (btw d 0 ((dz.length:Int)-1))≠0
 ·exact zG6 hk (fun _ _ _ _ _ h=>.inl ⟨h,rfl⟩) (zY6 hfl hdl hk w hF hD)
 ·obtain⟨fs,kiln,days,dn,hc,rfl,rfl,rfl,rfl,hd⟩:=zJo hk;refine zJ5 hc ?_;unfold cz3;rw[List.length_map,vO];exact (zZx hc hd w (zJy hF) (zKe hD)).mono fun e w' ⟨⟨n,er,h1,h2⟩,h3⟩=>⟨⟨n,er,.inr ⟨dn,rfl,hd,h1⟩,h2⟩,h3⟩
theorem zY3 (hfl:fz.length<1000000) (hdl:dz.length<1000000) (w:World) (hF:RdL FltZ.cells 4 w fA fz) (hD:RdL zcell 1 w dA dz):Calls Tryz.prog 48 #[cz3 fA dA fc dc fz kz dz,.int .i64 d] w fun e w'=>Ans (SpareR d) fz kz dz w e w':=by
 by_cases hk:askE (chk fz kz dz) (btw d 0 ((dz.length:Int)-1))≠0
 ·exact zG6 hk (fun _ _ _ _ _ h=>.inl ⟨h,rfl⟩) (jAx hfl hdl hk w hF hD)
 ·obtain⟨fs,kiln,days,dn,hc,rfl,rfl,rfl,rfl,hd⟩:=zJo hk;refine zJ5 hc ?_;unfold cz3;rw[List.length_map,vO];exact (jBf hc hd w (zJy hF) (zKe hD)).mono fun e w' h=>⟨⟨_,_,.inr ⟨dn,rfl,hd,rfl⟩,h.1⟩,h.2⟩
theorem zXe (hfl:fz.length<1000000) (hdl:dz.length<1000000) (w:World) (hF:RdL FltZ.cells 4 w fA fz) (hD:RdL zcell 1 w dA dz):Calls Tryz.prog 49 #[cz3 fA dA fc dc fz kz dz,.int .i64 d] w fun e w'=>Ans (SpareR d) fz kz dz w e w':=by
 by_cases hk:askE (chk fz kz dz) (btw d 0 ((dz.length:Int)-1))≠0
 ·exact zG6 hk (fun _ _ _ _ _ h=>.inl ⟨h,rfl⟩) (zW5 hfl hdl hk w hF hD)
 ·obtain⟨fs,kiln,days,dn,hc,rfl,rfl,rfl,rfl,hd⟩:=zJo hk;refine zJ5 hc ?_;unfold cz3;rw[List.length_map,vO];exact (zWc hc hd w (zJy hF) (zKe hD)).mono fun e w' h=>⟨⟨_,_,.inr ⟨dn,rfl,hd,rfl⟩,h.1⟩,h.2⟩
end
end
section
variable {T:List Res} {w0:World} {x:CZ}
theorem zZz {n m:Nat} (h:(decide (20<n)||decide (20<m)||(decide (n=3)&&decide (2<m)))=false):n<=20∧m<=20:=by
 simp at h;omega
def Seen (w0:World) (T:List Res) (x:CZ):Prop:=∀{N:Nat} {ds:List Deferred} {fr:List (Nat×Value)} {hp:List Res} {a:Act} {w:World},(∀r∈T,r∈hp)->At ⟨Tryz.prog,w0.heap.size,w0,N,ds⟩ fr hp a w->x.Rd w
theorem Seen.old [I:Sys] (h:x.Rd w0):Seen w0 T x:=fun _ ha=>h.later ha.below
theorem Seen.own [I:Sys] (h:∀r∈x.rows,r∈T):Seen w0 T x:=fun hT ha=>jCi ha fun r hr=>hT r (h r hr)
theorem zRd {x0 x1 x2:CZ} {P:CZ->Prop} (h0:P x0) (h1:P x1) (h2:P x2) {k:Nat} {x:CZ} (h:([x0,x1,x1,x2]:List CZ)[k]?=some x):P x:=by
 have hm:=List.mem_of_getElem? h;simp only[List.mem_cons,List.not_mem_nil,or_false] at hm
 rcases hm with rfl|rfl|rfl|rfl
 ·exact h0
 ·exact h1
 ·exact h1
 ·exact h2
theorem z_at {l:List Int} {k:Nat} {x:Int} (h:l[k]?=some x):(l.flatMap zcell)[k]?=some (.int .i64 x):=by rw[zM8,List.getElem?_map,h];rfl
end
section
variable [I:Sys]
theorem F.ent10:Enters Tryz.prog 10:=jC Tryz.func10 rfl kr
theorem F.ent12:Enters Tryz.prog 12:=jC Tryz.func12 rfl kr
theorem F.ent18:Enters Tryz.prog 18:=jC Tryz.func18 rfl kr
theorem F.ent47:Enters Tryz.prog 47:=jC Tryz.func47 rfl kr
theorem F.ent49:Enters Tryz.prog 49:=jC Tryz.func49 rfl kr
theorem zQz [R:ReaC] {fA dA nA:Option Addr} {fc dc0 nc:Nat} {fz:List FltZ} {kz sg dy pw gn nw:Int} {wd:Bool} {dz nums:List Int} (f0:fA=none->fz=[]∧fc=0) (d0:dA=none->dz=[]∧dc0=0) (hw:∀y∈fz,y.wf) (hf:FltZ.wf ⟨pw,gn,nw,wd⟩) (w:World) (hF:RdL FltZ.cells 4 w fA fz) (hD:RdL zcell 1 w dA dz) (hN:RdL icell 1 w nA nums) (hR:RdC w):Calls Tryz.prog 9 #[.agg #[.slice fA fz.length fc,.int .i64 kz,.slice dA dz.length dc0],.agg #[.int .i64 pw,.int .i64 gn,.int .i64 nw,.bool wd],.int .i64 sg,.int .i64 dy,.slice nA nums.length nc] w fun e w'=>e=.returned (.bool true)∧Grew w w' []:=by
 refine enter (N:=122) [(0,.agg #[.slice fA fz.length fc,.int .i64 kz,.slice dA dz.length dc0]),(1,.agg #[.int .i64 pw,.int .i64 gn,.int .i64 nw,.bool wd]),(2,.int .i64 sg),(3,.int .i64 dy),(4,.slice nA nums.length nc)] Tryz.func9 J Tryz.ntmps9 J J (csr (jM J J ?_));intro b5;refine jM J J ?_;intro b6;refine lax J J (zD (csr (jB J J F.agg25 F.ti25 (jG (v:=.bool (decide (20<fz.length)||decide (20<dz.length)||(decide (fz.length=3)&&decide (2<dz.length)))) (vs:=[_]) J J F.ent10 (fun a w ha=>jCn w) ?_))))
 refine lnx (kI J (fun hc0=>?_) (fun hc0=>?_))
 ·exact csr (jG (v:=.bool true) (vs:=[]) J J F.ent11 (fun a w ha=>zMg w (hR.later ha.below)) (lax J J (zS (zO (zX J (fun a w ha=>jJ J J ha) (fun a w ha=>⟨rfl,ha.grown nsl⟩))))))
 ·refine zP (zE (csr (zA J J (kR (X:=Nat) (vs:=[_]) (p:=fun _=>True) (val:=fun b=>pt b) (rs:=fun b=>[.blk b (hatO nA nums.length nc 0 11400714819323198485)]) J J F.ent13 (fun a w ha=>(zYp nA nums.length nc w).mono (fun e w' h=>by obtain⟨b,h1,h2⟩:=h;exact⟨b,trivial,h1,h2⟩)) ?_))));intro hb _;dsimp only[List.cons_append,List.nil_append];refine lax J J (csr (jB J J F.agg25 F.ti25 (jB J J F.agg27 F.ti27 (zA J J (zA J J (zAw (X:=Nat×Nat×Nat×CZ×CZ) (vs:=[_,_,_,_]) hb (fun y=>hatO nA nums.length nc y.1 y.2.1) (fun y=>.row 25 3 (some ⟨y.2.2.1,0,none⟩) 4 4 ([(⟨fA,fc,fz,kz,dA,dc0,dz⟩:CZ),y.2.2.2.1,y.2.2.2.1,y.2.2.2.2].flatMap CZ.cells)::(y.2.2.2.1.rows++y.2.2.2.2.rows)) (fun y=>y.1<=0+110∧y.2.1<18446744073709551616∧y.2.2.2.1.Fine∧y.2.2.2.1.Ok∧y.2.2.2.2.Ok∧y.2.2.2.2.fz.length=y.2.2.2.1.fz.length∧y.2.2.2.2.dz.length=y.2.2.2.1.dz.length) (fun y=>.slice (some ⟨y.2.2.1,0,none⟩) 4 4) J J F.ent12 (fun a w ha=>(zVk J J hN (tk:=0) om om hf ha).mono (fun e w' h=>by obtain⟨t',s',b',o',q',h1,h2,h3,h4,h5,h6,h7,h8,h9⟩:=h;exact⟨(t',s',b',o',q'),⟨h1,h2,h3,h4,h5,h6,h7⟩,h8,h9⟩)) ?_))))));rintro⟨tk1,st1,bs,own,other⟩ ⟨htk1,hst1,hfine,hok1,hok2,hl2,hd2⟩;dsimp only[CZ.rows,List.cons_append,List.nil_append] at htk1 hst1 hfine hok1 hok2 hl2 hd2 ⊢;refine lax J J (csr (zA J J (zA J J (vL J J J J hN hst1 om om ?_))));rintro s2 x1 hs2 hx1;refine zA J J (vL J J J J hN hs2 om om ?_);rintro s3 x2 hs3 hx2;refine zA J J (jX (vs:=[(0,_),(1,_),(2,_),(3,_)]) J J U23 F.ti3 J J J ?_);intro b40;refine wX (n:=4) 1 J (by unfold maxLen;omega) (.head _) (lax J J (zD (csr (lax J J (zU ?_)))));obtain⟨hv1,hv2⟩:=zZz hc0;refine xH (G:=Nat) (fun k=>k<=4) (fun k=>4-k) (fun k=>[(12,.slice (some ⟨bs,0,none⟩) 4 4),(13,.slice (some ⟨b40,0,none⟩) 4 4),(14,.int .i64 (k:Int))]) (fun _=>[.row 3 1 (some ⟨b40,0,none⟩) 4 4 (([dy,(x1:Int),(x2:Int),dy]:List Int).flatMap zcell),.row 25 3 (some ⟨bs,0,none⟩) 4 4 (([(⟨fA,fc,fz,kz,dA,dc0,dz⟩:CZ),own,own,other]:List CZ).flatMap CZ.cells),.row 27 4 own.fA own.fz.length own.fc (own.fz.flatMap FltZ.cells),.row 3 1 own.dA own.dz.length own.dc (own.dz.flatMap zcell),.row 27 4 other.fA other.fz.length other.fc (other.fz.flatMap FltZ.cells),.row 3 1 other.dA other.dz.length other.dc (other.dz.flatMap zcell)]) 0 (Nat.zero_le _) sbn pkk ?_;intro k hk0;(try dsimp only at hk0 ⊢);refine zD (csr (zA J J (zA J J (jP J J U30 (zG J J J jY ?_)))))
  refine lnx (zJ J (fun hc1=>?_) (fun hc1=>?_))
  ·have hk4:k<4:=om;obtain⟨x,hx⟩:∃x,([(⟨fA,fc,fz,kz,dA,dc0,dz⟩:CZ),own,own,other]:List CZ)[k]?=some x:=⟨_,List.getElem?_eq_getElem hk4⟩;have hxok:x.Ok:=zRd ⟨hw,f0,d0,hv1,hv2⟩ hok1 hok2 hx;have hxr:Seen w [.row 3 1 (some ⟨b40,0,none⟩) 4 4 (([dy,(x1:Int),(x2:Int),dy]:List Int).flatMap zcell),.row 25 3 (some ⟨bs,0,none⟩) 4 4 (([(⟨fA,fc,fz,kz,dA,dc0,dz⟩:CZ),own,own,other]:List CZ).flatMap CZ.cells),.row 27 4 own.fA own.fz.length own.fc (own.fz.flatMap FltZ.cells),.row 3 1 own.dA own.dz.length own.dc (own.dz.flatMap zcell),.row 27 4 other.fA other.fz.length other.fc (other.fz.flatMap FltZ.cells),.row 3 1 other.dA other.dz.length other.dc (other.dz.flatMap zcell)] x:=zRd (P:=Seen w _) (Seen.old ⟨hF,hD⟩) (Seen.own (by intro r hr;simp only[CZ.rows,List.mem_cons,List.not_mem_nil,or_false] at hr ⊢;rcases hr with rfl|rfl<;>simp)) (Seen.own (by intro r hr;simp only[CZ.rows,List.mem_cons,List.not_mem_nil,or_false] at hr ⊢;rcases hr with rfl|rfl<;>simp)) hx;obtain⟨xA,xc,xf,xk,xD,xd,xz⟩:=x;obtain⟨xw,xf0,xd0,xfl,xdl⟩:=hxok;dsimp only at xw xf0 xd0 xfl xdl;obtain⟨dd,hdd⟩:∃x,([dy,(x1:Int),(x2:Int),dy]:List Int)[k]?=some x:=⟨_,List.getElem?_eq_getElem hk4⟩;refine zP (zE (zD (zU (csr (zA J J (zA J J (kF (j:=k) J J J U30 F.ti25 J hk4 ?_)))))))
   refine qW (l:=[.slice xA xf.length xc,.int .i64 xk,.slice xD xz.length xd]) J J F.agg25 F.ti25 J (fun a w ha j u hu=>by
    obtain⟨b9,o9,h1,_,h3⟩:=kV ha (cells:=CZ.cells) (size:=3) (e:=25) (c:=4) (n:=4) (l:=([(⟨fA,fc,fz,kz,dA,dc0,dz⟩:CZ),own,own,other]:List CZ)) (fun _=>rfl) (InR.mem (A:=some ⟨bs,0,none⟩)) J (by simp)
    cases h1
    exact h3 k _ hx j u hu) ?_
   refine kR (X:=Option Addr×Nat×Option Addr×Nat) (vs:=[_]) (p:=fun _=>True) (val:=fun g=>.agg #[.slice g.1 xf.length g.2.1,.int .i64 xk,.slice g.2.2.1 xz.length g.2.2.2]) (rs:=fun g=>[.row 27 4 g.1 xf.length g.2.1 (xf.flatMap FltZ.cells),.row 3 1 g.2.2.1 xz.length g.2.2.2 (xz.flatMap zcell)]) J J F.ent14 (fun a w ha=>(jDb (fz:=xf) (dz:=xz) xf0 xd0 om om w (hxr (fun r hr=>by repeat (first|exact hr|apply List.mem_cons_of_mem)) ha).f (hxr (fun r hr=>by repeat (first|exact hr|apply List.mem_cons_of_mem)) ha).d).mono (fun e w' h=>by obtain⟨A',c',D',dc',h1,h2⟩:=h;exact⟨(A',c',D',dc'),trivial,h1,h2⟩)) ?_;rintro⟨A1,c1,D1,dc1⟩ -;dsimp only[List.cons_append,List.nil_append];refine zZ J F.ti25 ?_;intro b15;refine zF J J F.ti25 J (lnx (zD (jU [] F.follows 11 J [false,false,false,false,false,false,false,false,false,false,false] J (zC 0 J J J (kS J F.agg25 F.ti25) (zC 1 J J J (zW J) (zC 2 J J J (zW J) (zC 3 J J J (kQ (j:=k) J J Tryz.underlying23 F.ti3 J hk4) (zC 4 J J J (kL (v:=.int .i64 dd) J F.one3 (fun a w ha=>xO ha (InR.mem (A:=some ⟨b40,0,none⟩)) J (by rw[show 0+k*1=k from by omega];exact z_at hdd))) (an1 5 J (kR (X:=Nat×Nat) (vs:=[_,_]) (p:=fun y=>RawP (MostR dd) E0 xf xk xz y) (val:=fun y=>.tuple #[.int .i64 (y.1:Int),.int .i64 (y.2:Int)]) (rs:=fun _=>[]) J J F.ent46 (fun a w ha=>(jDe (fz:=xf) (dz:=xz) om om (jAq (A:=D1) ha) w (hR.later ha.below) (fun h fs=>zYm (A:=A1) ha h) (kV ha (cells:=FltZ.cells) (size:=4) (e:=27) (c:=c1) (n:=xf.length) (l:=xf) (fun _=>rfl) (InR.mem (A:=A1)) J) (kV ha (cells:=zcell) (size:=1) (e:=3) (c:=dc1) (n:=xz.length) (l:=xz) (fun _=>rfl) (InR.mem (A:=D1)) J)).mono (fun e w' h=>by obtain⟨y,h1,h2,h3⟩:=h;exact⟨y,h1,h2,h3⟩)) ?_))))))))));rintro⟨n1,e1⟩ hp10;dsimp only[List.nil_append] at hp10 ⊢;refine zB (anb (zC 6 J J J (zW J) (zC 7 J J J (kB J J) (zC 8 J J J (kB J J) (zC 9 J J J (jW J) (zC 10 J J J (jW J) (adn (zE (zD (jU [] F.follows 14 J [false,false,false,false,false,false,false,false,false,false,false,false,false,false] J (zC 0 J J J (zW J) (zC 1 J J J (zW J) (zC 2 J J J (kQ (j:=k) J J U30 F.ti25 J hk4) ?_)))))))))))))
   refine zDq 3 J J J kr kr kr sbl (vB (l:=[.slice xA xf.length xc,.int .i64 xk,.slice xD xz.length xd]) J F.agg25 F.ti25 J (fun a w ha j u hu=>by
    obtain⟨b9,o9,h1,_,h3⟩:=kV ha (cells:=CZ.cells) (size:=3) (e:=25) (c:=4) (n:=4) (l:=([(⟨fA,fc,fz,kz,dA,dc0,dz⟩:CZ),own,own,other]:List CZ)) (fun _=>rfl) (InR.mem (A:=some ⟨bs,0,none⟩)) J (by simp)
    cases h1
    exact h3 k _ hx j u hu)) J ?_
   refine zC 4 J J J (zW J) (zC 5 J J J (zW J) (zC 6 J J J (kQ (j:=k) J J Tryz.underlying23 F.ti3 J hk4) (zC 7 J J J (kL (v:=.int .i64 dd) J F.one3 (fun a w ha=>xO ha (InR.mem (A:=some ⟨b40,0,none⟩)) J (by rw[show 0+k*1=k from by omega];exact z_at hdd))) (an1 8 J (kR (X:=Nat×Nat) (vs:=[_,_]) (p:=fun y=>RawP (MostR dd) E0 xf xk xz y) (val:=fun y=>.tuple #[.int .i64 (y.1:Int),.int .i64 (y.2:Int)]) (rs:=fun _=>[]) J J F.ent47 (fun a w ha=>(zZm (fz:=xf) (dz:=xz) om om w (hxr (fun r hr=>by repeat (first|exact hr|apply List.mem_cons_of_mem)) ha).f (hxr (fun r hr=>by repeat (first|exact hr|apply List.mem_cons_of_mem)) ha).d).mono (fun e w' h=>by obtain⟨y,h1,h2,h3⟩:=h;exact⟨y,h1,h2,h3⟩)) ?_)))));rintro⟨n2,e2⟩ hp11;dsimp only[List.nil_append] at hp11 ⊢;obtain⟨rfl,rfl⟩:=Prod.ext_iff.1 (MostR.uniq hp10 hp11);dsimp only;refine zB (anb (zC 9 J J J (zW J) (zC 10 J J J (kB J J) (zC 11 J J J (kB J J) (zC 12 J J J (jW J) (zC 13 J J J (jW J) (adn (zE (zD (jU [] F.follows 11 J [false,false,false,false,false,false,false,false,false,false,false] J (zC 0 J J J (kS J F.agg25 F.ti25) (zC 1 J J J (zW J) (zC 2 J J J (zW J) (zC 3 J J J (kQ (j:=k) J J Tryz.underlying23 F.ti3 J hk4) (zC 4 J J J (kL (v:=.int .i64 dd) J F.one3 (fun a w ha=>xO ha (InR.mem (A:=some ⟨b40,0,none⟩)) J (by rw[show 0+k*1=k from by omega];exact z_at hdd))) (an1 5 J (kR (X:=Nat×Nat) (vs:=[_,_]) (p:=fun y=>RawP (SpareR dd) E0 xf xk xz y) (val:=fun y=>.tuple #[.int .i64 (y.1:Int),.int .i64 (y.2:Int)]) (rs:=fun _=>[]) J J F.ent48 (fun a w ha=>(zY3 (fz:=xf) (dz:=xz) om om w (kV ha (cells:=FltZ.cells) (size:=4) (e:=27) (c:=c1) (n:=xf.length) (l:=xf) (fun _=>rfl) (InR.mem (A:=A1)) J) (kV ha (cells:=zcell) (size:=1) (e:=3) (c:=dc1) (n:=xz.length) (l:=xz) (fun _=>rfl) (InR.mem (A:=D1)) J)).mono (fun e w' h=>by obtain⟨y,h1,h2,h3⟩:=h;exact⟨y,h1,h2,h3⟩)) ?_)))))))))))))))));rintro⟨n3,e3⟩ hp12;dsimp only[List.nil_append] at hp12 ⊢;refine zB (anb (zC 6 J J J (zW J) (zC 7 J J J (kB J J) (zC 8 J J J (kB J J) (zC 9 J J J (jW J) (zC 10 J J J (jW J) (adn (zE (zD (jU [] F.follows 14 J [false,false,false,false,false,false,false,false,false,false,false,false,false,false] J (zC 0 J J J (zW J) (zC 1 J J J (zW J) (zC 2 J J J (kQ (j:=k) J J U30 F.ti25 J hk4) ?_)))))))))))))
   refine zDq 3 J J J kr kr kr sbl (vB (l:=[.slice xA xf.length xc,.int .i64 xk,.slice xD xz.length xd]) J F.agg25 F.ti25 J (fun a w ha j u hu=>by
    obtain⟨b9,o9,h1,_,h3⟩:=kV ha (cells:=CZ.cells) (size:=3) (e:=25) (c:=4) (n:=4) (l:=([(⟨fA,fc,fz,kz,dA,dc0,dz⟩:CZ),own,own,other]:List CZ)) (fun _=>rfl) (InR.mem (A:=some ⟨bs,0,none⟩)) J (by simp)
    cases h1
    exact h3 k _ hx j u hu)) J ?_
   refine zC 4 J J J (zW J) (zC 5 J J J (zW J) (zC 6 J J J (kQ (j:=k) J J Tryz.underlying23 F.ti3 J hk4) (zC 7 J J J (kL (v:=.int .i64 dd) J F.one3 (fun a w ha=>xO ha (InR.mem (A:=some ⟨b40,0,none⟩)) J (by rw[show 0+k*1=k from by omega];exact z_at hdd))) (an1 8 J (kR (X:=Nat×Nat) (vs:=[_,_]) (p:=fun y=>RawP (SpareR dd) E0 xf xk xz y) (val:=fun y=>.tuple #[.int .i64 (y.1:Int),.int .i64 (y.2:Int)]) (rs:=fun _=>[]) J J F.ent49 (fun a w ha=>(zXe (fz:=xf) (dz:=xz) om om w (hxr (fun r hr=>by repeat (first|exact hr|apply List.mem_cons_of_mem)) ha).f (hxr (fun r hr=>by repeat (first|exact hr|apply List.mem_cons_of_mem)) ha).d).mono (fun e w' h=>by obtain⟨y,h1,h2,h3⟩:=h;exact⟨y,h1,h2,h3⟩)) ?_)))));rintro⟨n4,e4⟩ hp13;dsimp only[List.nil_append] at hp13 ⊢;obtain⟨rfl,rfl⟩:=Prod.ext_iff.1 (SpareR.uniq hp12 hp13);dsimp only;refine zB (anb (zC 9 J J J (zW J) (zC 10 J J J (kB J J) (zC 11 J J J (kB J J) (zC 12 J J J (jW J) (zC 13 J J J (jW J) (adn (zE (zD (jU [] F.follows 27 J [false,false,false,false,false,false,false,false,false,false,false,false,false,false,false,false,false,false,false,false,false,false,false,false,false,false,false] J (zC 0 J J J (zW J) (zC 1 J J J (zW J) (zC 2 J J J (qP (v:=.bool false) J J (fun w=>by rw[kX,decide_eq_false (fun h=>h J)])) (zC 3 J J J (zW J) (kZ 4 J J J J J kr kr kr sbl (zW J) J (kZ 5 J J J J J kr kr kr sbl (zW J) J (kZ 6 J J J J J kr kr kr sbl (qP (v:=.bool false) J J (fun w=>by rw[kX,decide_eq_false (fun h=>h J)])) J (zC 7 J J J (wJ J J) (zC 8 J J J (zW J) (kZ 9 J J J J J kr kr kr sbl (zW J) J (kZ 10 J J J J J kr kr kr sbl (zW J) J (kZ 11 J J J J J kr kr kr sbl (qP (v:=.bool false) J J (fun w=>by rw[kX,decide_eq_false (fun h=>h J)])) J (zC 12 J J J (wJ J J) (zC 13 J J J (zW J) (kZ 14 J J J J J kr kr kr sbl (zW J) J ?_)))))))))))))))))))))))));refine kZ 15 J J J J J kr kr kr sbl (zW J) J (kZ 16 J J J J J kr kr kr sbl (qP (v:=.bool false) J J (fun w=>by rw[kX,decide_eq_false (fun h=>h J)])) J (zC 17 J J J (wJ J J) (zC 18 J J J (zW J) (kZ 19 J J J J J kr kr kr sbl (kS J F.agg25 F.ti25) J (kZ 20 J J J J J kr kr kr sbl (zW J) J (kZ 21 J J J J J kr kr kr sbl (zW J) J (kZ 22 J J J J J kr kr kr sbl (kQ (j:=k) J J Tryz.underlying30 F.ti25 J hk4) J ?_)))))))
   refine kZ 23 J J J J J kr kr kr sbl (vB (l:=[.slice xA xf.length xc,.int .i64 xk,.slice xD xz.length xd]) J F.agg25 F.ti25 J (fun a w ha j u hu=>by
    obtain⟨b9,o9,h1,_,h3⟩:=kV ha (cells:=CZ.cells) (size:=3) (e:=25) (c:=4) (n:=4) (l:=([(⟨fA,fc,fz,kz,dA,dc0,dz⟩:CZ),own,own,other]:List CZ)) (fun _=>rfl) (InR.mem (A:=some ⟨bs,0,none⟩)) J (by simp)
    cases h1
    exact h3 k _ hx j u hu)) J ?_
   refine an1 24 J (zN J J (jG (v:=.bool true) (vs:=[_,_]) J J F.ent18 (fun a w ha=>zTy (fz:=xf) (dz:=xz) xw om om w (kV ha (cells:=FltZ.cells) (size:=4) (e:=27) (c:=c1) (n:=xf.length) (l:=xf) (fun _=>rfl) (InR.mem (A:=A1)) J) (kV ha (cells:=zcell) (size:=1) (e:=3) (c:=dc1) (n:=xz.length) (l:=xz) (fun _=>rfl) (InR.mem (A:=D1)) J) (hxr (fun r hr=>by repeat (first|exact hr|apply List.mem_cons_of_mem)) ha).f (hxr (fun r hr=>by repeat (first|exact hr|apply List.mem_cons_of_mem)) ha).d) (zB (anb (kZ 25 J J J J J kr kr kr sbl (zG7 J) J (zC 26 J J J (wJ J J) (adn (zE (kN J (zP (zK (zE (zM (zA J J (zG J J J (fun w=>jL w (zV _ om om)) (zH J J (zB (qI (k+1) om tdo sbn pkk))))))))))))))))))
  ·exact jT (zL (zL (jF (zE (csr (jG (v:=.bool true) (vs:=[]) J J F.ent11 (fun a w ha=>zMg w (hR.later ha.below)) (lax J J (zS (zX J (fun a w ha=>jJ J J ha) (fun a w ha=>⟨rfl,ha.grown nsl⟩))))))))))

end
section
open Go.Conc
variable {low:Nat} {msg:Nat->Value} {tW:TypeId}
def seenZ (W:World):World:={seenW W with output:=gout [0]}
theorem zVh (W:World):Hid (Viewed W) (fun _=>False) W (seenZ W):=by
 have h:=zVo W;exact⟨h.1,h.2,h.3,h.4,h.5,h.6,h.7,h.8,h.9,h.10⟩
theorem zS3 {W:World} {p:Addr} {u:Value} (h:W.cell? p=some u):(seenZ W).cell? p=some u:=zSt h
section
variable {P:Program} {W:World} {f:FuncId} {args:Array Value} {Post:Value->World->Prop}
theorem zQx {F:Nat->Prop} {w w' v':World} (hk:Kept F (fun _=>False) w w') (hv:Hid F (fun _=>False) w' v') (hb:Bas W (Viewed W) (fun i=>i=0) (fun _=>F) w) (hv0:Below (seenZ W).heap.size (seenZ W) v'):Below W.heap.size W w':=by
 refine⟨hk.os.trans hb.os,hk.tape.trans hb.tape,hk.output.trans hb.output,Nat.le_trans hb.size hk.size,fun b hlt=>?_⟩
 by_cases hF:F b
 ·rw[hk.block b (Nat.lt_of_lt_of_le hlt hb.size) (.inl hF)];exact (hb.held b (hb.new b hlt hF)).2.1
 ·rw[<-hv.same b hF (fun x=>x),hv0.block b (by simpa[seenZ,seenW] using hlt)];show (seenW W).heap[b]?=_;rw[zBl]
  cases h:W.heap[b]? with
  | none=>rfl
  | some o =>
   cases o with
   | view p t=>exact absurd ((hb.held b ⟨p,t,h⟩).2.2 0 rfl) hF
   | _=>rfl
def sig0:Cst:=⟨0,0,0,[],0,false,false,false,0,0,.rest,[],[],fun _=>none,[]⟩
theorem zTe:sig0.blank:=⟨fun _=>rfl,rfl,rfl,rfl,rfl,rfl,rfl,rfl,rfl⟩
theorem jAr (low:Nat):Cok low sig0:=by
 refine⟨List.nodup_nil,rfl,fun j=>?_,fun j p h=>(by cases h),fun b hb=>(by cases hb),fun h=>(by cases h),fun h=>(by cases h),fun h=>(by cases h),by decide,rfl,.nil,zTe⟩
 constructor
 ·intro h;cases h
 ·rintro⟨p,h⟩;cases h
theorem zZ5 {σ:Cst} (hok:Cok low σ) (h:σ.gh 0=some [0]):Alone (Cp low tW msg) σ∧σ.lent=[]∧∀c,¬(Cst.ts σ).Ca c:=by
 rw[zA9] at h;have hp:=hok.phase
 cases hm:σ.mn<;>rw[hm] at h<;>simp[Mn.enc] at h
 unfold Cst.phase at hp;rw[hm] at hp;obtain⟨h1,h2,h3,h4,h5,h6,h7,h8,h9⟩:=hp
 refine⟨?_,h9,fun c hc=>?_⟩
 ·refine⟨fun j hj=>zA7 hj h1,?_⟩;show (Cst.ts σ).D 0=0;simp[Cst.ts,hm,Mn.deaf]
 ·rcases hc with ⟨h,_⟩|⟨h,_⟩<;>omega
theorem zKy (hK:low=W.heap.size) (noInit:P.inits.idxOf? f=none)
  (h : @Calls P (zSys P (Cp low tW msg)) f args (seenZ W) fun e v'=>∃x,e=.returned x∧Below (seenZ W).heap.size (seenZ W) v'∧∀W',Below W.heap.size W W'->Post x W') :
  ∃N last o w' t',runNT P (N+1) (solo (G (Frame.enter P f args .normal) []) W) #[]=(.ended o w',t')∧runN P N (solo (G (Frame.enter P f args .normal) []) W)=.next last∧step P last=.ended o w'∧Go.Conc.Good P Post last o w' t':=by
 refine jC4 (K:=Cp low tW msg) (σ:=sig0) (γ:=[0]) jBa hK (zVh W) J (jAr low) J (fun j hj=>zA5 hj J) (fun b hb=>(by cases hb)) J J (@Gs.mono P (zSys P (Cp low tW msg)) _ _ _ _ (h []) fun g v' hs=>?_);obtain⟨e,fr,v₀,⟨x,rfl,hb,hp⟩,hr,rfl,hfn,hm,hd,hkd,fn,hf,ht,hres⟩:=hs;have hb':Below (seenZ W).heap.size (seenZ W) v':=hb.trans (hr.mono hb.size);refine⟨rfl,⟨[0],hb'.output,fun σ hok hg=>zZ5 hok hg⟩,fun F w hv hbas=>?_⟩;obtain⟨w',h1,h2,h3,h4,h5⟩:=ht.ok (hres v' (Rl.refl v')) hv;have hno:P.inits.idxOf? fr.fn=none:=by rw[hfn];exact noInit
 refine⟨x,w',seen P fr.fn ((results fn fr.tmps).events P v' #[]),?_,?_,hp w' (zQx h4 h3 hbas hb')⟩
 ·rw[<-h2];simp[G,stepG,unwind,doReturn,hm,hd,hkd,hf,h1,hno,GStep.after]
 ·rw[<-hv.size];exact fun e he=>h5 e (Go.Conc.mem_seen he)
end
theorem zBm {H:Type} {enc:TypeId×Value->H} {a:Assume} {C:Checked} {os:Os} {f:FuncId} {fn:Func} {s:ChangeSpec} {conds:List PathCond} {apart fresh handsOn again:Bool} (tW:TypeId) (msg:Nat->Value)
  (own:ownKnob C.prog.godebug=none) (started:os.Started) (noInit:C.prog.inits.idxOf? f=none) (hfn:C.prog.funcs[f]?=some fn)
  (witness:∃(w:World) (tape:Tape) (i:Input),w.os=os∧(w.forCall tape i).Shaped C.prog∧i.vars=[]∧Input.okWide C.prog (w.forCall tape i) .any w.heap.size f i ∧
   s.pre6 enc C.prog fn conds apart (w.forCall tape i).memory i.args∧a.holds C.prog (lone (Frame.enter C.prog f i.args .normal) [] (w.forCall tape i)))
  (contract:∀(W:World) (base:Nat) (args:Array Value) (ds gs:List (DataW H)) (before:List MemPlace),
   (∀(j:Nat) t v,fn.params[j]?=some t->args[j]?=some v->Value.okWide C.prog W .any base t v) ->
   DataW.Whole enc C.prog fn.params.toList s.vars apart W args.toList ds gs before ->
   conds.all (PathCond.test C.prog ⟨fn.params.toList,ds,s.plain.varTypes C.prog,gs⟩)=true ->
   (DataW.weightsEach C.prog (fn.params.toList++s.plain.varTypes C.prog) (ds++gs)).all (·<=reachBytes)=true ->
   a.holds C.prog (lone (Frame.enter C.prog f args .normal) [] W) ->
   @Calls C.prog (zSys C.prog (Cp W.heap.size tW msg)) f args (seenZ W) fun e v'=>∃x,e=.returned x∧Below (seenZ W).heap.size (seenZ W) v'∧∀W',Below W.heap.size W W'->s.post enc C.prog fn apart fresh handsOn again W args x W') :
  ReturnsInLeavingWide a C os f .any (s.pre6 enc C.prog fn conds apart) (s.post enc C.prog fn apart fresh handsOn again):=by
 refine returnsInLeavingWide_of_good own started witness ?_;intro w tape i _ _ _ hok hpre hholds;obtain⟨_,_,_,fn',hfn',_,_,_,_,hval⟩:=hok;have e:fn'=fn:=Option.some.inj (hfn'.symm.trans hfn);subst e;obtain⟨⟨ds,gs,before,hw,hc⟩,hz⟩:=hpre;have hw':=DataW.Whole.of_heap (w':=w.forCall tape i) (by rfl) hw;have hcalls:=contract (w.forCall tape i) w.heap.size i.args ds gs before hval hw' hc (hz.weights hw) hholds;obtain⟨M,last,o,w',t',h1,h2,h3,h4⟩:=zKy J noInit hcalls;exact⟨M,last,o,w',t',h1,h2,h3,h4.mono fun v hp=>ChangeSpec.post_blind hp⟩
end
end Go.Proofs.YteppiphdbondeaaGreat.N
