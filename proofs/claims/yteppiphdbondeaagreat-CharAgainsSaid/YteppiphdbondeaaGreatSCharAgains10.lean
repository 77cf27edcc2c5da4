/- Parts of the walk of the law CharAgains: YL, YN, Y11, Y12, YP, YQ, YR, YS, Y13, Y16, Y17, YT, Y18, Y19. -/
import Derived.Test.YteppiphdbondeaaGreatSCharAgains09
import Derived.Test.YteppiphdbondeaaGreatProg
import Derived.Test.YteppiphdbondeaaGreatSCharAgains08
import Derived.ArgAppend
import Derived.Deep.Upon
namespace Go.Proofs.YteppiphdbondeaaGreat.N
set_option linter.unusedSectionVars false
open Go.RowKit
section
variable {o size:Nat} {α:Type}
structure CZ where
 fA:Option Addr
 fc:Nat
 fz:List FltZ
 kz:Int
 dA:Option Addr
 dc:Nat
 dz:List Int
def CZ.cells (x:CZ):List Value:=[.slice x.fA x.fz.length x.fc,.int .i64 x.kz,.slice x.dA x.dz.length x.dc]
def CZ.rows (x:CZ):List Res:=[.row 27 4 x.fA x.fz.length x.fc (x.fz.flatMap FltZ.cells),.row 3 1 x.dA x.dz.length x.dc (x.dz.flatMap zcell)]
structure CZ.Rd (w:World) (x:CZ):Prop where
 f:RdL FltZ.cells 4 w x.fA x.fz
 d:RdL zcell 1 w x.dA x.dz
def W64 (n:Int):Prop:=-9223372036854775808<=n∧n<=9223372036854775807
structure FltZ.wf (f:FltZ):Prop where
 power:W64 f.power
 gain:W64 f.gain
 now:W64 f.now
structure CZ.Ok (x:CZ):Prop where
 fw:∀f∈x.fz,f.wf
 f0:x.fA=none->x.fz=[]∧x.fc=0
 d0:x.dA=none->x.dz=[]∧x.dc=0
 fl:x.fz.length<=20
 dl:x.dz.length<=20
theorem CZ.Rd.later [I:Sys] {w w':World} {x:CZ} (h:x.Rd w) (hb:Below w.heap.size w w'):x.Rd w':=⟨h.f.later hb,h.d.later hb⟩
theorem zVx (x:FltZ):x.cells.length=4:=rfl
theorem jDk (x:FltZ):∀u∈x.cells,u.oneCell'=true:=by
 intro u hu;simp[FltZ.cells] at hu;rcases hu with rfl|rfl|rfl|rfl<;>rfl
theorem jFr (x:Int):∀u∈zcell x,u.oneCell'=true:=by
 intro u hu;simp[zcell] at hu;rw[hu]
 rfl
theorem jBb (fs:List Flt):(fs.map Flt.toZ).flatMap FltZ.cells=fs.flatMap Flt.cells:=by rw[List.flatMap_map];rfl
theorem jDy (l:List Nat):(toZs l).flatMap zcell=ints l:=by
 unfold toZs ints;rw[List.flatMap_map,List.map_eq_flatMap]
 rfl
theorem zQ6 {l vs:List α} {N:Nat} (h:o+vs.length<=N) (hN:N<=l.length):(l.take o++vs++l.drop (o+vs.length)).take N=(l.take N).take o++vs++(l.take N).drop (o+vs.length):=by
 have hl:(l.take o++vs).length=o+vs.length:=by rw[List.length_append,List.length_take];omega
 rw[List.take_append,List.take_of_length_le (by rw[hl];exact h),hl,List.take_take,Nat.min_eq_left om,List.drop_take]
theorem zMd {cells:α->List Value} (hs:∀x,(cells x).length=size) (f:α):∀(l:List α) (j:Nat),j<l.length->(l.flatMap cells).take (j*size)++cells f++(l.flatMap cells).drop (j*size+(cells f).length)=(l.set j f).flatMap cells
 | [],j,h=>absurd h (Nat.not_lt_zero _)
 | x::l,0,_=>by
  rw[List.set_cons_zero,List.flatMap_cons,List.flatMap_cons,Nat.zero_mul,List.take_zero,List.nil_append,Nat.zero_add,hs,List.drop_append,List.drop_of_length_le (by rw[hs];exact Nat.le_refl _),hs,Nat.sub_self,List.drop_zero,List.nil_append]
 | x::l,j+1,h=>by
  rw[List.set_cons_succ,List.flatMap_cons,List.flatMap_cons,<-zMd hs f l j (by simpa using h),Nat.succ_mul,List.take_append,List.take_of_length_le (by rw[hs];omega),hs,List.drop_append,List.drop_of_length_le (by rw[hs,hs];omega),hs,List.nil_append,hs,Nat.add_sub_cancel,show j*size+size+size-size=j*size+size from by omega];simp only[List.append_assoc]
section
variable [I:Sys] {C:Ctx} {fr:LV} {hp hp':List Res} {a:Act} {w:World} {ops:Array Oper} {Q:QT} {rest:List Oper} {d:Nat} {ty:TypeId} {pos:String} {after:Array Edge}
theorem zLe {x y:Operand} {t e:TypeId} {A:Option Addr} {g n c m k9:Nat} {xs vs:List Value} (xs':List Value) {v z:Value} (hx:ev fr x=some (.pointer (some ⟨g,o,none⟩))) (hy:ev fr y=some v) (hi:TI C.P t z k9 m) [hc:Cells v vs] (hn:vs.length=k9)
  (hA:A=some ⟨g,0,none⟩) (ho:o+vs.length<=xs.length) (hxs:xs.take o++vs++xs.drop (o+vs.length)=xs') [hr:InR A e size n c xs hp] [hu:UpR A e size n c xs (.row e size A n c xs') hp hp']
  (k:Lst C ops Q rest fr hp'):Lst C ops Q (⟨none,.store t x y,ty,pos,after,none⟩::rest) fr hp:=by
 obtain⟨i,hi,_,hsz,_⟩:=hi;refine zD2 (fun _ _ _=>zB1 ..) (fun a w ha=>?_) k;have hown:=ha.own _ hr.mem;obtain⟨hlen,hcase⟩:=hown
 rcases hcase with ⟨h1,_⟩|⟨g',cap,cur,hv,hB,hheap,hle,hmax,hcs,htake⟩
 ·injection h1 with e1;rw[hA] at e1
  cases e1
 ·injection hv with e1 e2 e3;rw[hA] at e1;injection e1 with e1;injection e1 with e1;subst e1;subst e3;have h9:n*size<=c*size:=Nat.mul_le_mul_right _ hle;have hcl:n*size<=cur.toList.length:=by simp only[Array.length_toList];omega
  have hxl:o+vs.length<=n*size:=by rw[<-htake,List.length_take] at ho;omega
  have hs:Splice cur.toList o vs (cur.toList.take o++vs++cur.toList.drop (o+vs.length)):=⟨rfl,by omega⟩;obtain⟨w',h1,h2,h3⟩:=zDe hs (by simpa using hheap) hc.one C.P
  have hcr:(cur.toList.take o++vs++cur.toList.drop (o+vs.length)).length=cur.toList.length:=by
   simp only[List.length_append,List.length_take,List.length_drop];omega
  have hxl2:xs'.length=xs.length:=by
   rw[<-hxs];simp only[List.length_append,List.length_take,List.length_drop];omega
  refine⟨w',?_,ha.turn hu.upd (by rw[hA];exact h3) ⟨by rw[hxl2];exact hlen,.inr ⟨g,c,(cur.toList.take o++vs++cur.toList.drop (o+vs.length)).toArray,by rw[hA],hB,h2,hle,hmax,by rw[List.size_toArray,hcr];simpa using hcs,?_⟩⟩ (fun k hk=>.inl hk)⟩
  ·simp[execOp,ha.eval hx,ha.eval hy,Instr.storeAt,Instr.sureAddr,storeVar,sizeOf,typeInfo,hi,hc.eq,hsz,hn,h1]
  ·rw[<-hxs,<-htake];exact zQ6 hxl hcl
theorem jDp (ha:At C fr hp a w) {x:CZ} (h:∀r∈x.rows,r∈hp):x.Rd w :=
 ⟨kX ha (cells:=FltZ.cells) (size:=4) (e:=27) (c:=x.fc) (n:=x.fz.length) (l:=x.fz) (fun _=>rfl) (h _ (List.mem_cons_self ..)) J,
  kX ha (cells:=zcell) (size:=1) (e:=3) (c:=x.dc) (n:=x.dz.length) (l:=x.dz) (fun _=>rfl) (h _ (List.mem_cons_of_mem _ (List.mem_cons_self ..))) J⟩
end
end
section
variable {f:FltZ} {n:Int}
theorem w64wf (h:W64 n):(Go.Lit.int .i64 n).wf=true:=by
 unfold W64 at h;simp[Go.Lit.wf,IntKind.min,IntKind.max,IntKind.signed,IntKind.bits];omega
theorem zOm (h:W64 n) (d:Nat):TP.keyLits (d+1) 3 [.int .i64 n]=some [.int .i64 n]:=by
 unfold Program.keyLits;rw[Tryz.underlying3];simp[w64wf h]
def FltZ.lits (f:FltZ):List Go.Lit:=[.int .i64 f.power,.int .i64 f.gain,.int .i64 f.now,.bool f.washed]
theorem co27:TP.cellsOf 27=4:=by kernel_rfl
theorem kt27:TP.keyType 27=true:=by kernel_rfl
theorem jD0 (h:f.wf) (d:Nat):TP.keyLits (d+1+1) 27 f.cells=some f.lits:=by
 obtain⟨h1,h2,h3⟩:=h
 conv=>lhs;unfold Program.keyLits
 rw[Tryz.underlying27];simp[co27,co3,co4,FltZ.cells,FltZ.lits,zOm h1,zOm h2,zOm h3,zSg]
theorem jBl (h:f.wf):∃x,keyOf TP 27 (.agg f.cells.toArray)=some x:=by
 unfold keyOf;rw[Tryz.underlying27];simp only[kt27,Bool.true_and];have hf:(Value.agg f.cells.toArray).formed TP 27=true:=by simp[Value.formed,Tryz.underlying27,co27,FltZ.cells]
 rw[if_pos hf,tszC];have:(Value.agg f.cells.toArray).cells.toList=f.cells:=rfl;rw[this,jD0 h];exact⟨_,rfl⟩
theorem fltLaw:WideMaps.KeyLaw TP 27:=deep_law (m:=4) (by omega) (by kernel_rfl) (by kernel_rfl) (by rw[Tryz.underlying27])
theorem zRk (h:f.wf) (x y:Operand) (w:World):(do eqGuard .neq 27 x y (.agg f.cells.toArray) (.agg f.cells.toArray);binOp .neq 27 (.agg f.cells.toArray) (.agg f.cells.toArray):Sem Value).run TP w=.ok (.bool false) w:=by
 obtain⟨k1,hk1⟩:=jBl h;obtain⟨r,h1,h2⟩:=zD1 (P:=TP) (m:=4) om (k:=27) kr (by rw[Tryz.underlying27]) kr fltLaw hk1 hk1 x y w
 cases r with
 | false=>exact h1
 | true=>exact absurd rfl (h2.1 rfl)
theorem zO7 {f:Flt} (h:FltOk f):f.toZ.wf:=by
 obtain⟨h1,h2,h3,h4⟩:=h;unfold Flt.toZ;exact⟨by unfold W64;dsimp only;omega,by unfold W64;dsimp only;omega,by unfold W64;dsimp only;omega⟩
instance TB.flt (a b c:Int) (d:Bool) (u:Value):TB (.agg #[.int .i64 a,.int .i64 b,.int .i64 c,.bool d]) u:=TB.agg (by
 intro x hx;simp at hx
 rcases hx with rfl|rfl|rfl|rfl
 ·exact .int _ _
 ·exact .int _ _
 ·exact .int _ _
 ·exact .bool _) u
theorem zN1 (l:List Int):l.flatMap zcell=l.map (Value.int .i64):=by
 rw[List.map_eq_flatMap]
 rfl
theorem jFl (l:List Int) (j:Nat) (v:Int):(l.flatMap zcell).set j (.int .i64 v)=(l.set j v).flatMap zcell:=by
 rw[zN1,zN1,List.map_set]
theorem zQz (l:List Int):(l.flatMap zcell).length=l.length:=by rw[zN1,List.length_map]
theorem zN6 (l:List FltZ):(l.flatMap FltZ.cells).length=l.length*4:=by
 induction l with
 | nil=>rfl
 | cons x l ih=>rw[List.flatMap_cons,List.length_append,ih,List.length_cons,zVx];omega
def CZ.Fine (x:CZ):Prop:=∃fs kiln days,ChV fs kiln days∧x.fz=fs.map Flt.toZ∧x.kz=((kiln:Nat):Int)∧x.dz=toZs days
end
section
variable [I:Sys]
variable {dA fA:Option Addr} {dc fc:Nat} {dz:List Int} {fz:List FltZ} {kz:Int}
theorem jEy {A:Option Addr} {c:Nat} {l:List Int} (h0:A=none->l=[]∧c=0) (hl:l.length<=1000) (w:World) (hA:RdL zcell 1 w A l):Calls TP 55 #[.slice A l.length c] w fun e w'=>∃A' c',e=.returned (.slice A' l.length c')∧Grew w w' [.row 3 1 A' l.length c' (l.flatMap zcell)]:=by
 refine enter (N:=6) [(0,.slice A l.length c)] Tryz.func55 J Tryz.ntmps55 J J (csr (lax J J (csr (zDz J U23 F.ti3 ?_))));intro b3;refine zBv 1 (.head _) (zA J J (zB6 (cells:=zcell) J J J Tryz.underlying23 F.ti3 J J (fun _=>rfl) jFr (fun a w ha=>hA.later ha.below) h0 J (by unfold maxLen;omega) om ?_));intro A1 c1;refine lax J J (zV ?_);simp only[Nat.zero_add,List.nil_append];exact zX J (rsO J J) (fun a w ha=>⟨A1,c1,rfl,ha.grown sbl⟩)

theorem jEx (f0:fA=none->fz=[]∧fc=0) (d0:dA=none->dz=[]∧dc=0) (hfl:fz.length<=1000) (hdl:dz.length<=1000) (w:World) (hF:RdL FltZ.cells 4 w fA fz) (hD:RdL zcell 1 w dA dz):Calls TP 14 #[.agg (CY fA fz.length fc kz dA dz.length dc).toArray] w fun e w'=>∃A c D dc',e=.returned (.agg #[.slice A fz.length c,.int .i64 kz,.slice D dz.length dc'])∧Grew w w' [.row 27 4 A fz.length c (fz.flatMap FltZ.cells),.row 3 1 D dz.length dc' (dz.flatMap zcell)]:=by
 refine enter (N:=13) [(0,.agg (CY fA fz.length fc kz dA dz.length dc).toArray)] Tryz.func14 J Tryz.ntmps14 J J (csr (jT J J ?_));intro b1;refine zW J F.ti25 ?_;intro b2;refine lnx (zG (jS [.b b2] F.follows 11 J (fl 11) J (zC 1 J J J (zP J F.fi25_0 F.ti22) (zC 2 J J J (jJ J F.one22) (zC 4 J J J (zP J F.fi25_1 F.ti3) (zC 5 J J J (jJ J F.one3) (zC 6 J J J (zP J F.fi25_2 F.ti23) (zC 7 J J J (jJ J F.one23) (an1 0 J (zDz J U22 F.ti27 ?_))))))))));intro b3;refine zBv 4 (.head _) (zB (anb (an1 3 J (zB6 (cells:=FltZ.cells) J J J Tryz.underlying22 F.ti27 J J (fun _=>rfl) jDk (fun a w ha=>hF.later ha.below) f0 J (by unfold maxLen;omega) om ?_))));intro A2 c2;simp only[Nat.zero_add,List.nil_append];refine zB (anb (an1 8 J (kJ (X:=Option Addr×Nat) (vs:=[_]) (p:=fun _=>True) (val:=fun y=>.slice y.1 dz.length y.2) (rs:=fun y=>[.row 3 1 y.1 dz.length y.2 (dz.flatMap zcell)]) J J F.ent55 (fun a w ha=>(jEy d0 hdl w (hD.later ha.below)).mono (fun e w' h=>by obtain⟨A',c',h1,h2⟩:=h;exact⟨(A',c'),trivial,h1,h2⟩)) ?_)));rintro⟨A3,c3⟩ -;dsimp only[List.cons_append,List.nil_append];exact zB (anb (zC 9 J J J (vF (vs:=[(0,_),(1,_),(2,_)]) (l':=[_,_,_]) J F.ti25 F.pl25 (.cons J J (.cons J J (.cons J J (.nil _)))) J) (an1 10 J (zH J J F.ti25 J (zB (anb (adn (zD (zV (zX J (fun a w ha=>by exact xC (ha:=ha) J J F.agg25 F.ti25 J) (fun a w ha=>⟨A2,c2,A3,c3,rfl,(ha.pck pkk).grown (List.Sublist.refl _)⟩)))))))))))

theorem zUz {fA' dA':Option Addr} {fc' dc':Nat} (hw:∀f∈fz,f.wf) (hfl:fz.length<=1000) (hdl:dz.length<=1000) (w:World) (hF:RdL FltZ.cells 4 w fA fz) (hD:RdL zcell 1 w dA dz) (hF':RdL FltZ.cells 4 w fA' fz) (hD':RdL zcell 1 w dA' dz):Calls TP 18 #[.agg (CY fA fz.length fc kz dA dz.length dc).toArray,.agg #[.slice fA' fz.length fc',.int .i64 kz,.slice dA' dz.length dc']] w fun e w'=>e=.returned (.bool true)∧Grew w w' []:=by
 refine enter (N:=46) [(0,.agg (CY fA fz.length fc kz dA dz.length dc).toArray),(1,.agg #[.slice fA' fz.length fc',.int .i64 kz,.slice dA' dz.length dc'])] Tryz.func18 J Tryz.ntmps18 J J (csr (jT J J ?_));intro b2;refine jT J J ?_;intro b3;refine lax J J (zG (csr (zI J J F.fi25_0 F.ti22 (zS J J F.one22 (jR J J Tryz.underlying22 (zI J J F.fi25_0 F.ti22 (zS J J F.one22 (jR J J Tryz.underlying22 (zE (v:=.bool false) J J J (fun w=>by rw[kT,decide_eq_false (fun h=>h J)]) (zA J J (zM J J (zI J J F.fi25_1 F.ti3 (zM J J (zS J J F.one3 (zM J J (zI J J F.fi25_1 F.ti3 (zM J J (zS J J F.one3 (zM J J (zE (v:=.bool false) J J J (fun w=>by rw[kT,decide_eq_false (fun h=>h J)]) (jU J J J (zA J J (zM J J (zI J J F.fi25_2 F.ti23 (zM J J (zS J J F.one23 (zM J J (zI J J F.fi25_2 F.ti23 (zM J J (zS J J F.one23 (zM J J ?_)))))))))))))))))))))))))))))))
 refine jE (v:=.bool true) (vs:=[_,_]) J J F.ent45 (fun a w ha=>by
  have h:=zO5 (ca:=dc) (cb:=dc') (l:=dz) (m:=dz) om om w (hD.later ha.below) (hD'.later ha.below);rw[decide_eq_true J] at h
  exact h) ?_
 refine zM J J (qC J J (jU J J J (lnx (kL J (zO (zD (zG (csr (lax J J (zQ (qT (G:=Nat) (fun k=>k<=fz.length) (fun k=>fz.length-k) (fun k=>[(2,pt b2),(3,pt b3),(5,.int .i64 (k:Int))]) (fun k=>[.blk b3 (.cells #[.slice fA' fz.length fc',.int .i64 kz,.slice dA' dz.length dc'] 25 (0,0)),.blk b2 (.cells (CY fA fz.length fc kz dA dz.length dc).toArray 25 (0,0))]) 0 (Nat.zero_le _) sbn sbl ?_)))))))))));intro k hk;(try dsimp only at hk ⊢);refine zG (csr (zA J J (zI J J F.fi25_0 F.ti22 (zS J J F.one22 (jR J J U22 (zE J J J jY ?_))))))
 refine lnx (zK J (fun hc1=>?_) (fun hc1=>?_))
 ·have hk2:k<fz.length:=om;obtain⟨bf,bo,hfA,hbf,hcf⟩:=hF om;obtain⟨bg,go,hgA,hbg,hcg⟩:=hF' om;obtain⟨f,hx⟩:∃x,fz[k]?=some x:=⟨_,List.getElem?_eq_getElem hk2⟩;have hwf:=hw f (List.mem_of_getElem? hx);obtain⟨pw,gn,nw,wd⟩:=f;refine zO (zD (zG (zQ (zG (jS [] F.follows 11 J (fl 11) J (zC 0 J J J (zP J F.fi25_0 F.ti22) (zC 1 J J J (jJ J F.one22) (anm 2 J J J (zC 3 J J J (jG (j:=k) (show _=some (Value.slice (some ⟨bf,bo,none⟩) fz.length fc) from by rw[<-hfA];rfl) J Tryz.underlying22 F.ti27 J hk2) (zC 4 J J J (qW (l:=[.int .i64 pw,.int .i64 gn,.int .i64 nw,.bool wd]) J F.agg27 F.ti27 J (fun a w ha j u hu=>ha.old (hcf k _ hx j u hu) hbf)) (zC 5 J J J (zP J F.fi25_0 F.ti22) (zC 6 J J J (jJ J F.one22) (anm 7 J J J (zC 8 J J J (jG (j:=k) (show _=some (Value.slice (some ⟨bg,go,none⟩) fz.length fc') from by rw[<-hgA];rfl) J Tryz.underlying22 F.ti27 J hk2) (zC 9 J J J (qW (l:=[.int .i64 pw,.int .i64 gn,.int .i64 nw,.bool wd]) J F.agg27 F.ti27 J (fun a w ha j u hu=>ha.old (hcg k _ hx j u hu) hbg)) (zC 10 J J J (zLn (v:=.bool false) J J (zRk hwf _ _)) (adn (zD (kL J (zO (zJ (zD (zL (zA J J (zE J J J bdO (zF J J (zB (kV (k+1) om tdo sbn sbl))))))))))))))))))))))))))))
 ·exact jV (zN (zN (zY (zD (csr (lax J J (zV (zX J (rsO J J) (fun a w ha=>⟨rfl,ha.grown nsl⟩)))))))))

theorem jDg (w:World):Calls TP 10 #[.agg (CY fA fz.length fc kz dA dz.length dc).toArray] w fun e w'=>e=.returned (.bool (decide (20<fz.length)||decide (20<dz.length)||(decide (fz.length=3)&&decide (2<dz.length))))∧Grew w w' []:=by
 refine enter (N:=25) [(0,.agg (CY fA fz.length fc kz dA dz.length dc).toArray)] Tryz.func10 J Tryz.ntmps10 J J (csr (jT J J ?_));intro b1
 refine lax J J (csr (vU 22 24 (.bool (decide (20<fz.length)||decide (20<dz.length)||(decide (fz.length=3)&&decide (2<dz.length)))) ?_ ?_))
 ·refine zI J J F.fi25_0 F.ti22 (zS J J F.one22 (jR J J U22 (zE J J J wM ?_)))
  refine zA J J (xU (t:=7) J (fun hg7=>?_) (fun hg7=>?_))
  ·exact zR J J J (zR J J J (zR J J J (zR J J J (jH J J J (zA J J (zR J J J (zR J J J (zR J J J (zR J J J (zR J J J (kE J J J (kE J J J (kE J J J (kE J J J (zR J J J (jH J J J (zB (qN (.cons (by simp_all[look]<;>first|omega|(rw[Bool.eq_iff_iff];simp;omega)) sbn) sbl))))))))))))))))))
  ·refine zM J J (zI J J F.fi25_2 F.ti23 (zM J J (zS J J F.one23 (zM J J (jR J J U23 (zM J J (zE J J J wM ?_)))))))
   refine jU J J J (zA J J (xU (t:=13) J (fun hg13=>?_) (fun hg13=>?_)))
   ·exact zR J J J (zR J J J (zR J J J (zR J J J (zR J J J (kE J J J (kE J J J (kE J J J (kE J J J (zR J J J (jH J J J (zB (qN (.cons (by simp_all[look]<;>first|omega|(rw[Bool.eq_iff_iff];simp;omega)) sbn) sbl))))))))))))
   ·refine zM J J (zI J J F.fi25_0 F.ti22 (zM J J (zS J J F.one22 (zM J J (jR J J U22 (zM J J (zE J J J kD ?_)))))))
    refine zM J J (zA J J (xU (t:=18) J (fun hg18=>?_) (fun hg18=>?_)))
    ·exact zM J J (zI J J F.fi25_2 F.ti23 (zM J J (zS J J F.one23 (zM J J (jR J J Tryz.underlying23 (zM J J (zE J J J wM (zM J J (jH J J J (jU J J J (zB (qN (.cons (by simp_all[look]<;>first|omega|(rw[Bool.eq_iff_iff];simp;omega)) sbn) sbl))))))))))))
    ·exact zR J J J (zR J J J (zR J J J (zR J J J (zM J J (jU J J J (jU J J J (zB (qN (.cons (by simp_all[look]<;>first|omega|(rw[Bool.eq_iff_iff];simp;omega)) sbn) sbl))))))))
 exact lax J J (zV (zX J (rsO J J) (fun a w ha=>⟨rfl,ha.grown nsl⟩)))

end
section
variable [I:Sys]
theorem zW4 {C:Ctx} {fr:LV} {T:List Res} {a:Act} {w:World} (hC:C.P=TP) {hb tk st nc:Nat} {nA:Option Addr} {nums:List Int} (hB:C.w0.heap.size=C.B) (hN:RdL icell 1 C.w0 nA nums) (htk:tk<=700000) (hst:st<18446744073709551616) {fA dA:Option Addr} {fc dc0:Nat} {fz:List FltZ} {kz sg pw gn nw:Int} {wd:Bool} {dz:List Int} (hf:FltZ.wf ⟨pw,gn,nw,wd⟩) (ha:At C fr (.blk hb (hatO nA nums.length nc (tk) (st))::T) a w):Calls C.P 12 #[.agg #[.slice fA fz.length fc,.int .i64 kz,.slice dA dz.length dc0],.agg #[.int .i64 pw,.int .i64 gn,.int .i64 nw,.bool wd],.int .i64 sg,pt hb] w fun e w'=>(∃(tk' st' b:Nat) (own other:CZ),tk'<=tk+110∧st'<18446744073709551616∧own.Fine∧own.Ok∧other.Ok∧other.fz.length=own.fz.length∧other.dz.length=own.dz.length∧e=.returned (.slice (some ⟨b,0,none⟩) 4 4)∧At C fr (.row 25 3 (some ⟨b,0,none⟩) 4 4 ([(⟨fA,fc,fz,kz,dA,dc0,dz⟩:CZ),own,own,other].flatMap CZ.cells)::(own.rows++other.rows++.blk hb (hatO nA nums.length nc tk' st')::T)) a w'):=by
 obtain⟨P,B,w0,N0,ds⟩:=C;obtain rfl:P=TP:=hC;(try dsimp only at hB);(try dsimp only at hN);refine yW (N:=42) [(0,.agg #[.slice fA fz.length fc,.int .i64 kz,.slice dA dz.length dc0]),(1,.agg #[.int .i64 pw,.int .i64 gn,.int .i64 nw,.bool wd]),(2,.int .i64 sg),(3,pt hb)] ha Tryz.func12 J Tryz.ntmps12 J J (csr (jT J J ?_));intro b4;refine jT J J ?_;intro b5;refine lax J J (csr (zA J J (zBb (X:=Nat×Nat×Nat×List Flt×List Nat×Option Addr×Option Addr×Nat×Nat) (vs:=[_]) hb (fun y=>hatO nA nums.length nc y.1 y.2.1) (fun y=>[.row 27 4 y.2.2.2.2.2.1 y.2.2.2.1.length y.2.2.2.2.2.2.2.1 (y.2.2.2.1.flatMap Flt.cells),.row 3 1 y.2.2.2.2.2.2.1 y.2.2.2.2.1.length y.2.2.2.2.2.2.2.2 (ints y.2.2.2.2.1)]) (fun y=>y.1<=tk+101∧y.2.1<18446744073709551616∧ChV y.2.2.2.1 y.2.2.1 y.2.2.2.2.1) (fun y=>.agg #[.slice y.2.2.2.2.2.1 y.2.2.2.1.length y.2.2.2.2.2.2.2.1,.int .i64 (y.2.2.1:Int),.slice y.2.2.2.2.2.2.1 y.2.2.2.2.1.length y.2.2.2.2.2.2.2.2]) J J F.ent53 (fun a w ha=>(jEg (C:=⟨TP,B,w0,_,_⟩) J hB hN (tk:=tk) om hst ha).mono (fun e w' h=>by obtain⟨t',s',k',f',d',A',D',c',dc',h1,h2,h3,h4,h5⟩:=h;exact⟨(t',s',k',f',d',A',D',c',dc'),⟨h1,h2,h3⟩,h4,h5⟩)) ?_)));rintro⟨tk1,s1,kiln,fs,days,A,D,c,dc⟩ ⟨htk1,hs1,hc⟩;dsimp only[List.cons_append,List.nil_append] at htk1 hs1 hc ⊢;refine zW J F.ti25 ?_;intro b9;refine zH J J F.ti25 J (lnx (csr (zZ J J F.agg25 F.ti25 (kJ (X:=Option Addr×Nat×Option Addr×Nat) (vs:=[_]) (p:=fun _=>True) (val:=fun g=>.agg #[.slice g.1 fs.length g.2.1,.int .i64 (kiln:Int),.slice g.2.2.1 days.length g.2.2.2]) (rs:=fun g=>[.row 27 4 g.1 fs.length g.2.1 (fs.flatMap Flt.cells),.row 3 1 g.2.2.1 days.length g.2.2.2 (ints days)]) J J F.ent14 (fun a w ha=>(zVf hc.f1 (by have:=hc.f3;omega) hc.d1 (by have:=hc.d4;omega) w (zY6 (A:=A) ha J) (zZq (A:=D) ha J)).mono (fun e w' h=>by obtain⟨A',c',D',dc',h1,h2⟩:=h;exact⟨(A',c',D',dc'),trivial,h1,h2⟩)) ?_))));rintro⟨A2,c2,D2,dc2⟩ -;dsimp only[List.cons_append,List.nil_append];have hf1:=hc.f1;have hf3:=hc.f3;have hd1:=hc.d1;have hd4:=hc.d4;rw[<-jBb fs,<-jDy days];refine zW J F.ti25 ?_;intro b10;refine zH J J F.ti25 J (lnx (zG (csr (zA J J (zB2 J J J hB hN hs1 om om om ?_)))));rintro s2 sb hs2
 refine lnx (qF (G:=Nat×Nat×List FltZ×List Int) (fun g=>g.1<=tk1+2∧g.2.1<18446744073709551616∧g.2.2.1.length=fs.length∧g.2.2.2.length=days.length∧∀y∈g.2.2.1,y.wf) (fun g=>[(3,pt hb),(4,pt b4),(9,pt b9),(10,pt b10)]) (fun g=>.blk hb (hatO nA nums.length nc (g.1) (g.2.1))::.blk b4 (.cells #[.slice fA fz.length fc,.int .i64 kz,.slice dA dz.length dc0] 25 (0,0))::.blk b9 (.cells #[.slice A fs.length c,.int .i64 (kiln:Int),.slice D days.length dc] 25 (0,0))::.blk b10 (.cells #[.slice A2 fs.length c2,.int .i64 (kiln:Int),.slice D2 days.length dc2] 25 (0,0))::.row 27 4 A fs.length c ((fs.map Flt.toZ).flatMap FltZ.cells)::.row 3 1 D days.length dc ((toZs days).flatMap zcell)::.row 27 4 A2 fs.length c2 (g.2.2.1.flatMap FltZ.cells)::.row 3 1 D2 days.length dc2 (g.2.2.2.flatMap zcell)::T) ?_ ?_)
 ·refine kH J (fun hc0=>?_) (fun hc0=>?_)
  ·have hfw:∀y∈fs.map Flt.toZ,y.wf:=fun y hy=>by
    obtain⟨z,hz,rfl⟩:=List.mem_map.1 hy;exact zO7 (hc.ff z hz)
   refine jS [.b hb,.r A2] F.follows 11 J (fl 11) J (zC 0 J J J (zP J F.fi25_0 F.ti22) (zC 1 J J J (jJ J F.one22) (anm 2 J J J (zC 3 J J J (zP J F.fi25_0 F.ti22) (zC 4 J J J (jJ J F.one22) (zC 5 J J J (vQ J U22) (zC 6 J J J (kW (v:=.int .i64 ((fs.length:Int)-1)) J J (fun w=>qK w (kC _ om om))) (zC 8 J J J (kR J F.agg27 F.ti27) (an1 7 J (vP J J J hB hN hs2 om om ?_))))))))));rintro s3 x1 hs3 hx1;refine zB (anb (an1 9 J ?_));have hl1:x1<fs.length:=om;refine vJ A2 hf1 ?_;intro g2 hg2;exact jO (j:=x1) J (show _=some (Value.slice (some ⟨g2,0,none⟩) fs.length c2) from by rw[<-hg2];rfl) J Tryz.underlying22 F.ti27 J hl1 (zB (anb (an1 10 J (zLe (A:=A2) (vs:=[.int .i64 pw,.int .i64 gn,.int .i64 nw,.bool wd]) (((fs.map Flt.toZ).set x1 (⟨pw,gn,nw,wd⟩:FltZ)).flatMap FltZ.cells) (show _=some (Value.pointer (some ⟨g2,0+x1*4,none⟩)) from rfl) J F.ti27 J hg2 (by rw[zN6,List.length_map];show 0+x1*4+4<=_;omega) (by rw[show 0+x1*4=x1*4 from by omega];exact zMd zVx (⟨pw,gn,nw,wd⟩:FltZ) _ _ (by rw[List.length_map];exact hl1)) (zB (anb (adn (jK (tk1+1+1,s3,(fs.map Flt.toZ).set x1 (⟨pw,gn,nw,wd⟩:FltZ),toZs days) ⟨by (try dsimp only);omega,hs3,by rw[List.length_set,List.length_map],yR _,fun y hy=>(List.mem_or_eq_of_mem_set hy).elim (hfw y) fun e=>e▸hf⟩ sbn pkk))))))))
  ·have hfw:∀y∈fs.map Flt.toZ,y.wf:=fun y hy=>by
    obtain⟨z,hz,rfl⟩:=List.mem_map.1 hy;exact zO7 (hc.ff z hz)
   refine jS [.b hb,.r D2] F.follows 11 J (fl 11) J (zC 0 J J J (zP J F.fi25_2 F.ti23) (zC 1 J J J (jJ J F.one23) (anm 2 J J J (zC 3 J J J (zP J F.fi25_2 F.ti23) (zC 4 J J J (jJ J F.one23) (zC 5 J J J (vQ J U23) (zC 6 J J J (kW (v:=.int .i64 ((days.length:Int)-1)) J J (fun w=>qK w (kC _ om om))) (anm 8 J J J (an1 7 J (vP J J J hB hN hs2 om om ?_))))))))));rintro s3 x1 hs3 hx1;refine zB (anb (an1 9 J ?_));have hl1:x1<days.length:=om;refine vJ D2 hd1 ?_;intro g2 hg2;exact jO (j:=x1) J (show _=some (Value.slice (some ⟨g2,0,none⟩) days.length dc2) from by rw[<-hg2];rfl) J Tryz.underlying23 F.ti3 J hl1 (zB (anb (an1 10 J (xZ (A:=D2) (((toZs days).set x1 sg).flatMap zcell) (show _=some (Value.pointer (some ⟨g2,0+x1*1,none⟩)) from rfl) J F.ti3 hg2 (by rw[zQz,yR];omega) (by rw[show 0+x1*1=x1 from by omega,jFl]) (zB (anb (adn (jK (tk1+1+1,s3,fs.map Flt.toZ,(toZs days).set x1 sg) ⟨by (try dsimp only);omega,hs3,List.length_map ..,by rw[List.length_set,yR],hfw⟩ sbn pkk))))))))
 ·rintro⟨tk2,st2,fz2,dz2⟩ ⟨htk2,hst2,hl2,hd2,hw2⟩;dsimp only at htk2 hst2 hl2 hd2 hw2 ⊢;refine zD (csr (vJ A hf1 ?_));intro gA hgA;refine vJ D hd1 ?_;intro gD hgD;refine vJ A2 hf1 ?_;intro gA2 hgA2;refine vJ D2 hd1 ?_;intro gD2 hgD2;refine zZ J J F.agg25 F.ti25 (zZ J J F.agg25 F.ti25 (zZ J J F.agg25 F.ti25 (zZ J J F.agg25 F.ti25 (yV (vs:=[(0,.agg ([.slice fA fz.length fc,.int .i64 kz,.slice dA dz.length dc0]:List Value).toArray),(1,.agg ([.slice A fs.length c,.int .i64 (kiln:Int),.slice D days.length dc]:List Value).toArray),(2,.agg ([.slice A fs.length c,.int .i64 (kiln:Int),.slice D days.length dc]:List Value).toArray),(3,.agg ([.slice A2 fs.length c2,.int .i64 (kiln:Int),.slice D2 days.length dc2]:List Value).toArray)]) [.slice fA fz.length fc,.int .i64 kz,.slice dA dz.length dc0,.slice A fs.length c,.int .i64 (kiln:Int),.slice D days.length dc,.slice A fs.length c,.int .i64 (kiln:Int),.slice D days.length dc,.slice A2 fs.length c2,.int .i64 (kiln:Int),.slice D2 days.length dc2] J J U30 F.ti25 J J J (Lit.agg (l1:=[.slice fA fz.length fc,.int .i64 kz,.slice dA dz.length dc0]) J (Lit.agg (l1:=[.slice A fs.length c,.int .i64 (kiln:Int),.slice D days.length dc]) J (Lit.agg (l1:=[.slice A fs.length c,.int .i64 (kiln:Int),.slice D days.length dc]) J (Lit.agg (l1:=[.slice A2 fs.length c2,.int .i64 (kiln:Int),.slice D2 days.length dc2]) J (rfl))))) ?_))));intro b41;refine yZ (n:=4) 3 J (by unfold maxLen;omega) (.head _) ?_
  refine lax J J (zV (zX J (rsO J J) (fun _ _ ha'=>⟨tk2,st2,b41,(⟨A,c,fs.map Flt.toZ,(kiln:Int),D,dc,toZs days⟩:CZ),(⟨A2,c2,fz2,(kiln:Int),D2,dc2,dz2⟩:CZ),by omega,hst2,⟨fs,kiln,days,hc,rfl,rfl,rfl⟩,⟨fun y hy=>?_,fun h=>?_,fun h=>?_,?_,?_⟩,⟨hw2,fun h=>?_,fun h=>?_,?_,?_⟩,?_,?_,rfl,?_⟩)))
  ·obtain⟨z,hz,rfl⟩:=List.mem_map.1 hy;exact zO7 (hc.ff z hz)
  ·rw[hgA] at h;cases h
  ·rw[hgD] at h;cases h
  ·rw[List.length_map];omega
  ·rw[yR];omega
  ·rw[hgA2] at h;cases h
  ·rw[hgD2] at h;cases h
  ·rw[hl2];omega
  ·rw[hd2];omega
  ·rw[List.length_map];exact hl2
  ·rw[yR];exact hd2
  ·simp only[CZ.rows,CZ.cells,List.flatMap_cons,List.flatMap_nil,List.append_nil,List.cons_append,List.nil_append,List.length_map,yR,hl2,hd2];exact ha.back (ha'.pck pkk)

theorem Grew.nilRow {w w':World} (h:Grew w w' []) (e size:Nat):Grew w w' [.row e size Option.none 0 0 []] :=
 ⟨h.1,fun r hr=>by
  rw[List.mem_singleton] at hr;subst hr
  exact⟨by simp,.inl ⟨rfl,rfl⟩⟩,List.nodup_nil⟩
abbrev E0 (c:Nat):Nat×Nat:=(0,c)
section
variable {fA dA:Option Addr} {fc dc:Nat} {fz:List FltZ} {kz:Int} {dz:List Int}
abbrev cz3 (fA dA:Option Addr) (fc dc:Nat) (fz:List FltZ) (kz:Int) (dz:List Int):Value:=.agg (CY fA fz.length fc kz dA dz.length dc).toArray
abbrev tu2 (y:Nat×Nat):Value:=.tuple #[.int .i64 (y.1:Int),.int .i64 (y.2:Int)]
def Ans (P:List Flt->Nat->List Nat->Nat×Nat->Prop) (fz:List FltZ) (kz:Int) (dz:List Int) (w:World) (e:Ending) (w':World):Prop:=∃y:Nat×Nat,RawP P E0 fz kz dz y∧e=.returned (tu2 y)∧Grew w w' []
theorem zVc {P:List Flt->Nat->List Nat->Nat×Nat->Prop} {fs:List Flt} {kiln:Nat} {days:List Nat} {w:World} {f:FuncId} {args:Array Value} (hc:ChV fs kiln days) (h:Calls TP f args w fun e w'=>(∃n er:Nat,P fs kiln days (n,er)∧e=.returned (.tuple #[.int .i64 (n:Int),.int .i64 (er:Int)]))∧Grew w w' []):Calls TP f args w fun e w'=>Ans P (fs.map Flt.toZ) kiln (toZs days) w e w' :=
 h.mono fun _ _ ⟨⟨n,er,h1,h2⟩,h3⟩=>⟨(n,er),.inr ⟨fs,kiln,days,hc,rfl,rfl,rfl,h1⟩,h2,h3⟩
theorem zNa {d:Int} {n:Nat}:btw d 0 ((n:Int)-1)=false∨∃dn:Nat,((dn:Nat):Int)=d∧dn<n:=by
 cases h:btw d 0 ((n:Int)-1) with
 | false=>exact .inl rfl
 | true =>
  unfold btw at h;simp only[Bool.and_eq_true,decide_eq_true_eq] at h;exact .inr ⟨d.toNat,by omega,by omega⟩
end
end
section
variable {T:List Res} {w0:World} {x:CZ}
theorem jB8 {n m:Nat} (h:(decide (20<n)||decide (20<m)||(decide (n=3)&&decide (2<m)))=false):n<=20∧m<=20:=by
 simp at h;omega
def Seen (w0:World) (T:List Res) (x:CZ):Prop:=∀{N:Nat} {ds:List Deferred} {fr:LV} {hp:List Res} {a:Act} {w:World},(∀r∈T,r∈hp)->At ⟨TP,w0.heap.size,w0,N,ds⟩ fr hp a w->x.Rd w
theorem Seen.old [I:Sys] (h:x.Rd w0):Seen w0 T x:=fun _ ha=>h.later ha.below
theorem Seen.own [I:Sys] (h:∀r∈x.rows,r∈T):Seen w0 T x:=fun hT ha=>jDp ha fun r hr=>hT r (h r hr)
theorem zSr {x0 x1 x2:CZ} {P:CZ->Prop} (h0:P x0) (h1:P x1) (h2:P x2) {k:Nat} {x:CZ} (h:([x0,x1,x1,x2]:List CZ)[k]?=some x):P x:=by
 have hm:=List.mem_of_getElem? h;simp only[List.mem_cons,List.not_mem_nil,or_false] at hm
 rcases hm with rfl|rfl|rfl|rfl
 ·exact h0
 ·exact h1
 ·exact h1
 ·exact h2
theorem z_at {l:List Int} {k:Nat} {x:Int} (h:l[k]?=some x):(l.flatMap zcell)[k]?=some (.int .i64 x):=by rw[zN1,List.getElem?_map,h];rfl
end
section
variable {d k n sg:Nat} {l:List Nat} {ls:List (List Nat)} {m m1:Mor} {o:Oc} {w:World} {α:Type}
theorem bxx {x y:Bool} (h:x=y:=by first|exact (decide_eq_true (by omega)).symm|exact (decide_eq_false (by omega)).symm|exact decide_eq_decide.2 (by omega)):some (Value.bool x)=some (Value.bool y):=by rw[h]
theorem zY9 (n:Nat):madeCells (Value.slice none 0 0).cells (n*1)=(List.replicate n (Value.slice none 0 0)).toArray:=by
 rw[Nat.mul_one];unfold madeCells
 apply Array.toList_inj.1
 apply List.ext_getElem?
 intro i
 by_cases hi:i<n
 ·simp[Value.cells,hi,Nat.mod_one]
 ·simp[Value.cells,hi]
theorem zEz (a x y:α) (t:List α):∀n,(List.replicate n a++x::t).set n y=List.replicate n a++y::t
 | 0=>rfl
 | n+1=>by rw[List.replicate_succ,List.cons_append,List.set_cons_succ,zEz a x y t n,List.cons_append]
theorem zEu (a x:α) (t:List α):∀n,(List.replicate n a++x::t)[n]?=some x
 | 0=>rfl
 | n+1=>by rw[List.replicate_succ,List.cons_append,List.getElem?_cons_succ,zEu a x t n]
theorem zY8 (a:α) (t:List α) (n:Nat):List.replicate (n+1) a++t=List.replicate n a++a::t:=by rw[List.replicate_succ',List.append_assoc];rfl
def encO (o:Oc):Int:=if o.is then ((100*o.f+o.w:Nat):Int) else -1
def dayC (l:List Nat):Nat:=100*spF l+spW l
def rstF (a n c:Int):Int:=if 0<=n∧(a<0∨n+c<a) then n+c else a
theorem zIi (h:o.is=true):encO o=((100*o.f+o.w:Nat):Int):=if_pos h
theorem zKd (o:Oc) : -1<=encO o:=by unfold encO;split<;>omega
theorem zPo (h:o.f<=n∧o.w<=3*n):encO o<=103*n:=by unfold encO;split<;>omega
theorem jA4 {r:Oc} {F W:Nat} (ho:o.w<=99) (hr:r.w+W<=99):encO (lst2 o ⟨r.f+F,r.w+W,r.is⟩)=rstF (encO o) (encO r) ((100*F+W:Nat):Int):=by
 obtain⟨f,w,b⟩:=o;obtain⟨f',w',b'⟩:=r;dsimp only at ho hr;have h1:oless ⟨f'+F,w'+W,b'⟩ ⟨f,w,b⟩=(b'&&(!b||cless (f'+F) (w'+W) f w)):=rfl;unfold lst2;rw[h1]
 cases b' with
 | false =>
  rw[Bool.false_and,if_neg Bool.false_ne_true];unfold rstF;rw[if_neg];rintro⟨h,_⟩
  exact absurd h (by show ¬(0:Int)<=-1;decide)
 | true =>
  rw[Bool.true_and];have hx:encO ⟨f',w',true⟩=((100*f'+w':Nat):Int):=rfl;have hy:encO ⟨f'+F,w'+W,true⟩=((100*(f'+F)+(w'+W):Nat):Int):=rfl;unfold rstF;rw[hx]
  cases b with
  | false =>
   have hz:encO ⟨f,w,false⟩=-1:=rfl;rw[Bool.not_false,Bool.true_or,if_pos J,hy,hz,if_pos om]
   omega
  | true =>
   have hz:encO ⟨f,w,true⟩=((100*f+w:Nat):Int):=rfl;rw[Bool.not_true,Bool.false_or,hz];unfold cless
   by_cases hl:f'+F<f∨f'+F=f∧w'+W<w
   ·rw[decide_eq_true hl,if_pos J,hy,if_pos om];omega
   ·rw[decide_eq_false hl,if_neg Bool.false_ne_true,hz,if_neg om]
theorem jD6 (o:Oc):lst2 o noOc=o:=by unfold lst2 oless noOc;simp
section
variable (las:Mor->Bool) (fs:List Flt) (kiln:Nat) (days:List Nat)
def bO (n:Nat) (m:Mor):Oc:=bstO (fun _ _=>true) las fs kiln days n m
def stO (n:Nat) (d:Nat) (m:Mor) (l:List Nat):Oc:=stpO (fun _ _=>true) fs kiln days (bO las fs kiln days n) d m l
def folO (n:Nat) (d:Nat) (m:Mor) (ls:List (List Nat)):Oc:=ls.foldl (fun o l=>lst2 o (stO las fs kiln days n d m l)) noOc
def costL (i:Nat):List Int:=(lvlL fs kiln (days.take i)).map fun m=>encO (bO las fs kiln days (days.length-i) m)
end
section
variable {las:Mor->Bool} {fs:List Flt} {kiln:Nat} {days:List Nat}
theorem jAs (h:d+(n+1)=days.length) (m:Mor):bO las fs kiln days (n+1) m=folO las fs kiln days n d m (exts [] fs.length):=by
 show (exts [] fs.length).foldl (fun o l=>lst2 o (stpO (fun _ _=>true) fs kiln days (bO las fs kiln days n) (days.length-(n+1)) m l)) noOc=_;rw[show days.length-(n+1)=d from by omega]
 rfl
theorem zCi (h3:fs.length<=3) (n:Nat) (m:Mor):(bO las fs kiln days n m).f<=n∧(bO las fs kiln days n m).w<=3*n:=zL6 h3 n m
theorem zSd (hs:days[d]?=some sg) (h:(dayE fs kiln m l sg).1≠0):stO las fs kiln days n d m l=noOc:=by
 unfold stO stpO;rw[if_neg (by simp),List.getD_eq_getElem?_getD,hs];exact if_pos h
theorem zVl (hs:days[d]?=some sg) (h:dayE fs kiln m l sg=(0,m1)):stO las fs kiln days n d m l=⟨(bO las fs kiln days n m1).f+spF l,(bO las fs kiln days n m1).w+spW l,(bO las fs kiln days n m1).is⟩:=by
 unfold stO stpO;rw[if_neg (by simp),List.getD_eq_getElem?_getD,hs];show (if (dayE fs kiln m l sg).1≠0 then _ else _)=_;rw[if_neg (by rw[h];simp)];show (⟨(bO las fs kiln days n (dayE fs kiln m l sg).2).f+spF l,(bO las fs kiln days n (dayE fs kiln m l sg).2).w+spW l,(bO las fs kiln days n (dayE fs kiln m l sg).2).is⟩:Oc)=_;rw[h]
theorem jEs (h3:fs.length<=3) (hl:l.length<=3):(stO las fs kiln days n d m l).f<=n+1∧(stO las fs kiln days n d m l).w<=3*n+3:=by
 have h1:=zAt l;have h2:=zAu l;unfold stO stpO
 split
 ·exact⟨Nat.zero_le _,Nat.zero_le _⟩
 split
 ·exact⟨Nat.zero_le _,Nat.zero_le _⟩
 ·have h:=zCi (las:=las) (kiln:=kiln) (days:=days) h3 n (dayE fs kiln m l (days.getD d 0)).2;exact⟨by dsimp only;omega,by dsimp only;omega⟩
theorem jBs (h3:fs.length<=3):∀(ls:List (List Nat)),(∀l∈ls,l.length<=3)->(folO las fs kiln days n d m ls).f<=n+1∧(folO las fs kiln days n d m ls).w<=3*n+3:=by
 have key:∀(ls:List (List Nat)) (o:Oc),o.f<=n+1∧o.w<=3*n+3->(∀l∈ls,l.length<=3)->(ls.foldl (fun o l=>lst2 o (stO las fs kiln days n d m l)) o).f<=n+1∧(ls.foldl (fun o l=>lst2 o (stO las fs kiln days n d m l)) o).w<=3*n+3:=by
  intro ls
  induction ls with
  | nil=>exact fun _ h _=>h
  | cons l ls ih=>exact fun o h hl=>ih _ (zFk h (jEs h3 (hl l (List.mem_cons_self ..)))) fun x hx=>hl x (List.mem_cons_of_mem _ hx)
 exact fun ls h=>key ls _ ⟨Nat.zero_le _,Nat.zero_le _⟩ h
theorem zL9 (h:ls[k]?=some l):folO las fs kiln days n d m (ls.take (k+1))=lst2 (folO las fs kiln days n d m (ls.take k)) (stO las fs kiln days n d m l):=by
 unfold folO;rw[List.take_add_one,h,List.foldl_append]
 rfl
theorem jBk (h:ls[k]?=some l) (hs:days[d]?=some sg) (he:(dayE fs kiln m l sg).1≠0):encO (folO las fs kiln days n d m (ls.take (k+1)))=encO (folO las fs kiln days n d m (ls.take k)):=by
 rw[zL9 h,zSd hs he,jD6]
theorem jEt (h3:fs.length<=3) (hn:n<=4) (hls:∀x∈ls,x.length<=3) (h:ls[k]?=some l) (hs:days[d]?=some sg) (he:dayE fs kiln m l sg=(0,m1)) :
  encO (folO las fs kiln days n d m (ls.take (k+1)))=rstF (encO (folO las fs kiln days n d m (ls.take k))) (encO (bO las fs kiln days n m1)) ((dayC l:Nat):Int):=by
 have h1:=jBs (las:=las) (kiln:=kiln) (days:=days) (n:=n) (d:=d) (m:=m) h3 (ls.take k) fun x hx=>hls x (List.mem_of_mem_take hx);have h2:=zCi (las:=las) (kiln:=kiln) (days:=days) h3 n m1;have h4:=zAu l;have h5:=hls l (List.mem_of_getElem? h);rw[zL9 h,zVl hs he];exact jA4 om om
theorem zGi {acts:List Nat} (hs:days[d]?=some sg) (hm:m∈lvlL fs kiln (days.take d)) (ha:acts∈exts [] fs.length) (h:dayE fs kiln m acts sg=(0,m1)):m1∈lvlL fs kiln (days.take (d+1)):=by
 rw[List.take_add_one,hs];show m1∈lvlL fs kiln (days.take d++[sg]);rw[zMn];unfold nxtL;rw[zEj];right;unfold stpL;rw[List.mem_flatMap];refine⟨m,hm,List.mem_filterMap.2 ⟨acts,ha,?_⟩⟩;rw[h]
 rfl
theorem wS (hc:ChW fs kiln days) {i:Nat} {m:Mor} (h:m∈lvlL fs kiln (days.take i)):MOk m∧Thin fs.length m:=⟨(jGf.1 h).ok hc.f3 hc.ff _ _,(jGf.1 h).thin hc.f3 hc.ff _ _⟩
theorem zBo (hc:ChW fs kiln days) (i:Nat):(lvlL fs kiln (days.take i)).length<=1000:=zIb (zGf _) fun _ hm=>(wS hc hm).1
theorem zLj (hc:ChW fs kiln days) {i:Nat} {x:LZ} {m:Mor} (hx:lmor x=lvlL fs kiln (days.take i)) (hm:m∈lvlL fs kiln (days.take i)) :
  ∃j:Nat,(tabK (ten fs.length) (cods fs.length x.2.2.reverse) x.2.2.length)[cdM m fs.length]?=some (j:Int)∧(lvlL fs kiln (days.take i))[j]?=some m:=by
 obtain⟨h1,h2⟩:=wS hc hm;have hall:∀y∈x.2.2,MOk y.2.2∧Thin fs.length y.2.2:=fun y hy=>wS hc (i:=i) (hx▸List.mem_map_of_mem (List.mem_reverse.2 hy));have hmem:cdM m fs.length∈cods fs.length x.2.2.reverse:=(zJq (fun y hy=>hall y (List.mem_reverse.1 hy)) h1 h2).2 (by rw[show x.2.2.reverse.map (·.2.2)=lvlL fs kiln (days.take i) from hx];exact hm)
 rcases zJd (n:=ten fs.length) (cs:=cods fs.length x.2.2.reverse) (zC0 h1 _) x.2.2.length (by simp[cods]) with ⟨_,hno⟩|⟨j,hj,hcj,hg⟩
 ·rw[List.take_of_length_le (by simp[cods])] at hno;exact absurd hmem hno
 ·refine⟨j,hg,?_⟩;unfold cods at hcj;rw[List.getElem?_map] at hcj;obtain⟨y,hy,e⟩:=Option.map_eq_some_iff.1 hcj;have hym:y∈x.2.2:=List.mem_reverse.1 (List.mem_of_getElem? hy);rw[<-hx];unfold lmor;rw[List.getElem?_map,hy,<-zVy (hall y hym).1 h1 (hall y hym).2 h2 e]
  rfl
end
abbrev OZ:Type:=Option Addr×Nat×List Int
def ocell (x:OZ):Value:=.slice x.1 x.2.2.length x.2.1
def orow (x:OZ):Res:=.row 3 1 x.1 x.2.2.length x.2.1 (zis x.2.2)
def lcel (x:LZ):List Value:=[lcell x]
structure RdLv (n:Nat) (w:World) (A:Option Addr) (LS:List LZ):Prop where
 outer:RdL lcel 1 w A LS.reverse
 inner:∀x∈LS,RdMs n w x.1 x.2.2.reverse
theorem RdLv.later [I:Sys] {w':World} {A:Option Addr} {LS:List LZ} (h:RdLv n w A LS) (hb:Below w.heap.size w w'):RdLv n w' A LS:=⟨h.outer.later hb,fun x hx=>(h.inner x hx).later hb⟩
theorem zWo (l:List LZ):l.flatMap lcel=l.map lcell:=by rw[List.map_eq_flatMap];rfl
theorem zPm [I:Sys] {C:Ctx} {fr:LV} {hp:List Res} {a:Act} (ha:At C fr hp a w) {n c:Nat} {A:Option Addr} {LS:List LZ} (h1:Res.row 109 1 A LS.length c (LS.reverse.map lcell)∈hp) (h2:∀r∈LS.flatMap (lrow n),r∈hp):RdLv n w A LS :=
 ⟨kX ha (cells:=lcel) (size:=1) (e:=109) (c:=c) (n:=LS.length) (l:=LS.reverse) (fun _=>rfl) (by rw[zWo];exact h1) (by rw[List.length_reverse]),fun x hx=>yI ha fun r hr=>h2 r (List.mem_flatMap.2 ⟨x,hx,hr⟩)⟩
end
section
variable {a c n:Int} {fs:List Flt} {k:Nat} {m:Mor} {α:Type}
theorem zSk (h3:fs.length<=3) (hm:MOk m) (hf:∀f∈fs,FltOk f) (ht:Thin fs.length m):agnL (start fs) m=true↔∀i f,fs[i]?=some f->f.now<=m.s.getD i 0∧(m.w.testBit i=true->f.washed=true):=by
 have hs:=wC h3 hf _ (Nat.le_refl _)
 have hw:∀i,i<3->((m.w &&& (7-(start fs).w)).testBit i=true↔m.w.testBit i=true∧(start fs).w.testBit i=false):=fun i hi=>by
  have h8:(start fs).w<8:=hs.w;rw[Nat.testBit_and,Bool.and_eq_true];refine and_congr_right fun _=>?_;have key:∀w,w<8->∀i,i<3->((7-w).testBit i=true↔w.testBit i=false):=by decide
  exact key _ h8 i hi
 have hz:(m.w &&& (7-(start fs).w))=0↔∀i,i<3->m.w.testBit i=true->(start fs).w.testBit i=true:=by
  constructor
  ·intro h i hi h1
   cases h2:(start fs).w.testBit i with
   | true=>rfl
   | false =>
    have:=(hw i hi).2 ⟨h1,h2⟩;rw[h] at this;simp at this
  ·intro h
   apply Nat.eq_of_testBit_eq
   intro i;rw[Nat.zero_testBit]
   rcases Nat.lt_or_ge i 3 with hi|hi
   ·cases h1:(m.w &&& (7-(start fs).w)).testBit i with
    | false=>rfl
    | true =>
     obtain⟨a,b⟩:=(hw i hi).1 h1;rw[h i hi a] at b
     cases b
   ·have:m.w<2^i:=Nat.lt_of_lt_of_le hm.w (Nat.pow_le_pow_right (n:=2) (by decide) hi);rw[Nat.testBit_and,Nat.testBit_lt_two_pow this]
    rfl
 unfold agnL;simp only[Bool.and_eq_true,List.all_eq_true,decide_eq_true_eq,List.mem_range]
 constructor
 ·rintro⟨h1,h2⟩ i f hx;have hi:i<fs.length:=(List.getElem?_eq_some_iff.1 hx).1
  refine⟨?_,fun hb=>?_⟩
  ·rw[<-zHj hx];exact h1 i om
  ·rw[<-zHl hx];exact hz.1 (by first|exact h2|simpa using h2) i om hb
 ·intro h
  refine⟨fun i hi=>?_,?_⟩
  ·rcases Nat.lt_or_ge i fs.length with h4|h4
   ·obtain⟨f,hx⟩:∃f,fs[i]?=some f:=⟨_,List.getElem?_eq_getElem h4⟩;rw[zHj hx];exact (h i f hx).1
   ·rw[zKy fs h3 i h4];exact Nat.zero_le _
  ·have h5:=hz.2 fun i hi hb=>by
    rcases Nat.lt_or_ge i fs.length with h4|h4
    ·obtain⟨f,hx⟩:∃f,fs[i]?=some f:=⟨_,List.getElem?_eq_getElem h4⟩;rw[zHl hx];exact (h i f hx).2 hb
    ·rw[(ht i h4).2] at hb
     cases hb
   first|exact h5|simpa using h5
theorem jCp {f:Flt} (h3:fs.length<=3) (hm:MOk m) (hf:∀f∈fs,FltOk f) (ht:Thin fs.length m) (hx:fs[k]?=some f) (h:¬(f.now<=m.s.getD k 0∧(m.w.testBit k=true->f.washed=true))):agnL (start fs) m=false:=by
 cases h1:agnL (start fs) m with
 | false=>rfl
 | true=>exact absurd ((zSk h3 hm hf ht).1 h1 k f hx) h
def lasR (fs:List Flt) (rp:Bool):Mor->Bool:=if rp then agnL (start fs) else fun _=>true
theorem zJc {kiln:Nat} {days:List Nat} {las:Mor->Bool}:encO (bO las fs kiln days 0 m)=if las m then 0 else -1:=by
 show (if las m=true then _ else _)=_
 split<;>rfl
theorem zN4 (a x y:α) (t:List α):∀n,(List.replicate n a++x::y::t)[n+1]?=some y
 | 0=>rfl
 | n+1=>by rw[List.replicate_succ,List.cons_append,List.getElem?_cons_succ,zN4 a x y t n]
theorem zF2 (l:List Int) (v:Int):zis (l++[v])=zis l++[.int .i64 v]:=by unfold zis;rw[List.map_append];rfl
theorem zAh {l:List Int} {x:Int} (h:l[k]?=some x):(zis l)[k]?=some (.int .i64 x):=by unfold zis;rw[List.getElem?_map,h];rfl
theorem jCo (h:0<=n∧(a<0∨n+c<a)):rstF a n c=n+c:=if_pos h
theorem jEl (h:¬(0<=n∧(a<0∨n+c<a))):rstF a n c=a:=if_neg h
theorem zLi {l:List Nat} (h:l.length<=3):dayC l<=103:=by
 have h1:=zAt l;have h2:=zAu l;unfold dayC;omega
theorem zBa {β:Type} {f:α->β} {l:List α} {x:α} {xs:List β} (hx:l[k]?=some x) (h:xs=(l.take k).map f):xs++[f x]=(l.take (k+1)).map f:=by
 rw[List.take_add_one,hx,List.map_append,<-h]
 rfl
end
section
variable [I:Sys]
theorem F.ent10:Enters TP 10:=jD Tryz.func10 rfl kr
theorem F.ent12:Enters TP 12:=jD Tryz.func12 rfl kr
theorem F.ent18:Enters TP 18:=jD Tryz.func18 rfl kr
theorem zId {aA:Option Addr} {ac:Nat} {acts:List Nat} (hl:acts.length<=3) (w:World) (hA:RdL ncell 1 w aA acts):Calls TP 79 #[.slice aA acts.length ac] w fun e w'=>e=.returned (.int .i64 ((dayC acts:Nat):Int))∧Grew w w' []:=by
 refine enter (N:=25) [(0,.slice aA acts.length ac)] Tryz.func79 J Tryz.ntmps79 J J (csr (lax J J (csr (zF J J (lax J J (zG (csr (lax J J (zQ (qT (G:=Nat) (fun k=>k<=acts.length) (fun k=>acts.length-k) (fun k=>[(0,.slice aA acts.length ac),(3,.int .i64 ((100*spF (acts.take k):Nat):Int)),(4,.int .i64 ((spW (acts.take k):Nat):Int)),(5,.int .i64 (k:Int))]) (fun k=>[]) 0 (Nat.zero_le _) sbn sbl ?_))))))))));intro k hk;(try dsimp only at hk ⊢);refine zG (csr (zA J J (zA J J (jR J J U23 (zE J J J jY ?_)))))
 refine lnx (zK J (fun hc0=>?_) (fun hc0=>?_))
 ·have hk':k<acts.length:=om;obtain⟨b,o,rfl,hb,hcell⟩:=hA om;obtain⟨x,hx⟩:∃x,acts[k]?=some x:=⟨_,List.getElem?_eq_getElem hk'⟩;obtain⟨hf1,hw1⟩:=zSe hx;have hwl:=zAu (acts.take k);have hfl:=zAt (acts.take k);rw[List.length_take] at hwl;refine zO (zD (zG (zQ (csr (zA J J (zA J J (jO (j:=k) J J J U23 F.ti3 J hk' (jM (v:=.int .i64 (x:Int)) J J F.one3 (fun a w ha=>ha.old (hcell k x hx 0 _ J) hb) (lnx (zQ (csr (zE J J J kD ?_))))))))))))
  refine lax J J (zK J (fun hc1=>?_) (fun hc1=>?_))
  ·refine zL (zF J J (zB (zJ (zJ (zD (zL (zA J J (zE J J J bdO (zF J J (zB (kV (k+1) om tdo (by (try dsimp only);rw[hf1,hw1];rw[if_pos om,if_neg om];simp only[Nat.add_zero];exact sbn) sbl)))))))))))
  ·refine csr (zE J J J kD ?_)
   refine lax J J (zK J (fun hc2=>?_) (fun hc2=>?_))
   ·refine zL (zA J J (zE (v:=.int .i64 ((spW (acts.take k)+1:Nat):Int)) J J J bdP (zF J J (zB (zJ (zJ (zD (zL (zA J J (zE J J J bdO (zF J J (zB (kV (k+1) om tdo (by (try dsimp only);rw[hf1,hw1];rw[if_neg om,if_pos om];exact sbn) sbl)))))))))))))
   ·refine zO (zJ (zJ (zD (zL (zA J J (zE J J J bdO (zF J J (zB (kV (k+1) om tdo (by (try dsimp only);rw[hf1,hw1];rw[if_neg om,if_neg om];simp only[Nat.add_zero];exact sbn) sbl)))))))))
 ·obtain rfl:k=acts.length:=om;simp only[List.take_length];have hwl:=zAu acts;have hfl:=zAt acts;exact jV (zN (zN (zY (zD (csr (zA J J (zA J J (zE (v:=.int .i64 ((dayC acts:Nat):Int)) J J J (fun w=>zAw w (by unfold dayC;rw[kC _ om om];omega)) (lax J J (zV (zX J (rsO J J) (fun a w ha=>⟨rfl,ha.grown nsl⟩))))))))))))

theorem zX6 {fA dA:Option Addr} {fc dc kiln:Nat} {fs:List Flt} {days:List Nat} {sA wA:Option Addr} {sc wc:Nat} {mo:Mor} (h3:fs.length<=3) (hff:∀f∈fs,FltOk f) (hmok:MOk mo) (hth:Thin fs.length mo) (w:World) (hF:RdL Flt.cells 4 w fA fs) (hM:RdMM fs.length w ((sA,sc),(wA,wc),mo)):Calls TP 118 #[(CG fA fs.length fc kiln dA days.length dc),.agg #[.slice sA fs.length sc,.slice wA fs.length wc]] w fun e w'=>e=.returned (.bool (agnL (start fs) mo))∧Grew w w' []:=by
 refine enter (N:=41) [(0,(CG fA fs.length fc kiln dA days.length dc)),(1,.agg #[.slice sA fs.length sc,.slice wA fs.length wc])] Tryz.func118 J Tryz.ntmps118 J J (csr (jT J J ?_));intro b2;refine jT J J ?_;intro b3;refine lax J J (zG (csr (lax J J (zQ (qT (G:=Nat) (fun k=>k<=fs.length∧∀i f,i<k->fs[i]?=some f->f.now<=mo.s.getD i 0∧(mo.w.testBit i=true->f.washed=true)) (fun k=>fs.length-k) (fun k=>[(2,pt b2),(3,pt b3),(5,.int .i64 (k:Int))]) (fun k=>[.blk b3 (.cells #[.slice sA fs.length sc,.slice wA fs.length wc] 112 (0,0)),.blk b2 (CO fA fs.length fc kiln dA days.length dc 25)]) 0 ⟨Nat.zero_le _,fun i f h=>absurd h (Nat.not_lt_zero _)⟩ sbn sbl ?_)))));rintro k ⟨hk0,hall⟩;dsimp only;refine zG (csr (zA J J (zI J J F.fi25_0 F.ti22 (zS J J F.one22 (jR J J U22 (zE J J J jY ?_))))))
 refine lnx (zK J (fun hc0=>?_) (fun hc0=>?_))
 ·have hk:k<fs.length:=om;obtain⟨f,hx⟩:∃x,fs[k]?=some x:=⟨_,List.getElem?_eq_getElem hk⟩;obtain⟨bf,bo,hfA,hbf,hcf⟩:=hF om;obtain⟨bs,os,hsA,hbs,hcs⟩:=hM.s (by rw[zIa];omega);obtain⟨bw,ow,hwA,hbw,hcw⟩:=hM.w (by rw[zIh];omega);have hno:=jCp (m:=mo) h3 hmok hff hth hx;obtain⟨pw,gn,nw,wd⟩:=f;dsimp only at hno hsA hwA hcs hcw
  refine zO (zD (zG (zQ (zG (qF (G:=Bool) (fun b=>b=(decide ((mo.s.getD k 0:Int)<(nw:Int))||(mo.w.testBit k && !wd))) (fun b=>[(40,.bool b),(2,pt b2),(3,pt b3),(5,.int .i64 (k:Int))]) (fun _=>[.blk b3 (.cells #[.slice sA fs.length sc,.slice wA fs.length wc] 112 (0,0)),.blk b2 (CO fA fs.length fc kiln dA days.length dc 25)]) ?_ ?_)))))
  ·refine jS [] F.follows 28 J (fl 28) J (zC 0 J J J (zP J F.fi112_0 F.ti23) (zC 1 J J J (jJ J F.one23) (anm 2 J J J (zC 3 J J J (jG (j:=k) (show _=some (Value.slice (some ⟨bs,os,none⟩) fs.length sc) from by rw[<-hsA];rfl) J Tryz.underlying23 F.ti3 J hk) (zC 4 J J J (jC (v:=.int .i64 ((mo.s.getD k 0:Nat):Int)) J F.one3 (fun a w ha=>ha.old (hcs k _ (zQg hk) 0 _ J) hbs)) (zC 5 J J J (zP J F.fi25_0 F.ti22) (zC 6 J J J (jJ J F.one22) (anm 7 J J J (zC 8 J J J (jG (j:=k) (show _=some (Value.slice (some ⟨bf,bo,none⟩) fs.length fc) from by rw[<-hfA];rfl) J Tryz.underlying22 F.ti27 J hk) (zC 9 J J J (xG J F.fi27_2 F.ti3) (zC 10 J J J (jC (v:=.int .i64 (nw:Int)) J F.one3 (fun a w ha=>ha.old (hcf k _ hx 2 _ J) hbf)) (zC 11 J J J (kW J J jY) (anm 12 J J J ?_)))))))))))))
   refine zGw (t:=25) J (fun hg25=>?_) (fun hg25=>?_)
   ·refine atf 13 J J J J J (atf 14 J J J J J (atf 15 J J J J J (atf 16 J J J J J (atf 17 J J J J J (atf 18 J J J J J (yU 19 J J J J J kr kr kr sbl J (yU 20 J J J J J kr kr kr sbl J (yU 21 J J J J J kr kr kr sbl J (yU 22 J J J J J kr kr kr sbl J (yU 23 J J J J J kr kr kr sbl J (yU 24 J J J J J kr kr kr sbl J (yU 25 J J J J J kr kr kr sbl J (atf 26 J J J J J (zC 27 J J J (xQ J J) (adn (jK _ ?_ sbn pkk))))))))))))))))
    first|(rw[decide_eq_true hg25]<;>rfl)|(rw[decide_eq_false hg25,hg31]<;>rfl)
   ·refine ato 13 J J J J J (zP J F.fi112_1 F.ti107) (ato 14 J J J J J (jJ J F.one107) (ato 15 J J J J J (kF J) (ato 16 J J J J J (jG (j:=k) (show _=some (Value.slice (some ⟨bw,ow,none⟩) fs.length wc) from by rw[<-hwA];rfl) J Tryz.underlying107 F.ti4 J hk) (ato 17 J J J J J (jC (v:=.bool (mo.w.testBit k)) J F.one4 (fun a w ha=>ha.old (hcw k _ (zPu hk) 0 _ J) hbw)) (ato 18 J J J J J (kF J) ?_)))))
    refine zFh (t:=31) J (fun hg31=>?_) (fun hg31=>?_)
    ·refine ato 19 J J J J J (zP J F.fi25_0 F.ti22) (ato 20 J J J J J (jJ J F.one22) (ato 21 J J J J J (kF J) (ato 22 J J J J J (jG (j:=k) (show _=some (Value.slice (some ⟨bf,bo,none⟩) fs.length fc) from by rw[<-hfA];rfl) J Tryz.underlying22 F.ti27 J hk) (ato 23 J J J J J (xG J F.fi27_3 F.ti4) (ato 24 J J J J J (jC (v:=.bool wd) J F.one4 (fun a w ha=>ha.old (hcf k _ hx 3 _ J) hbf)) (ato 25 J J J J J (zCa J) (ato 26 J J J J J (xQ J J) (zC 27 J J J (qH J J) (adn (jK _ ?_ sbn pkk))))))))))
     first|(rw[decide_eq_true hg25]<;>rfl)|(rw[decide_eq_false hg25,hg31]<;>rfl)
    ·refine atf 19 J J J J J (atf 20 J J J J J (atf 21 J J J J J (atf 22 J J J J J (atf 23 J J J J J (atf 24 J J J J J (atf 25 J J J J J (ato 26 J J J J J (qH J J) (zC 27 J J J (qH J J) (adn (jK _ ?_ sbn pkk))))))))))
     first|(rw[decide_eq_true hg25]<;>rfl)|(rw[decide_eq_false hg25,hg31]<;>rfl)
  ·rintro b hb
   refine zD (kH J (fun hc1=>?_) (fun hc1=>?_))
   ·refine csr (lax J J (zV (jW (zU (zU (jW (zU ?_)))))))
    exact zX J (rsO J J) (fun a w ha=>⟨by
     rw[show agnL (start fs) mo=false from hno (by
      rintro⟨h1,h2⟩;rw[hc1,decide_eq_false om,Bool.false_or] at hb
      cases hw:mo.w.testBit k with
      | false=>rw[hw] at hb;cases hb
      | true=>rw[hw,h2 hw] at hb;cases hb)],ha.grown nsl⟩)
   ·refine zO (zJ (zD (zL (zA J J (zE J J J bdO (zF J J (zB (kV (k+1) ⟨by omega,fun i f hi hf=>?_⟩ tdo sbn sbl))))))))
    rcases Nat.lt_or_ge i k with h|h
    ·exact hall i f h hf
    ·obtain rfl:k=i:=om;rw[hx] at hf
     cases hf
     rw[hc1] at hb;obtain⟨h1,h2⟩:=Bool.or_eq_false_iff.1 hb.symm;refine⟨by have:=of_decide_eq_false h1;show nw<=_;omega,fun hw=>?_⟩;rw[hw,Bool.true_and] at h2;show wd=true
     cases wd with
     | true=>rfl
     | false=>cases h2
 ·obtain rfl:k=fs.length:=om;exact jV (zN (zN (zY (zD (csr (lax J J (zV (zX J (rsO J J) (fun a w ha=>⟨by rw[(zSk h3 hmok hff hth).2 fun i f hx=>hall i f (List.getElem?_eq_some_iff.1 hx).1 hx],ha.grown nsl⟩)))))))))

theorem F.ent118:Enters TP 118:=jD Tryz.func118 rfl kr
theorem F.ent79:Enters TP 79:=jD Tryz.func79 rfl kr
theorem zSt {fA dA lA:Option Addr} {fc dc lc kiln:Nat} {fs:List Flt} {days:List Nat} (hc:ChW fs kiln days) {LS:List LZ} {rp:Bool} (hLS:LS.reverse.map lmor=(List.range (days.length+1)).map (fun i=>lvlL fs kiln (days.take i))) (w:World) (hF:RdL Flt.cells 4 w fA fs) (hD:RdL ncell 1 w dA days) (hL:RdLv fs.length w lA LS):Calls TP 98 #[(CG fA fs.length fc kiln dA days.length dc),.slice lA LS.length lc,.bool rp] w fun e w'=>∃(A:Option Addr) (c:Nat) (W:List OZ),W.length=days.length+1∧(∀i o,W[i]?=some o->o.2.2=costL (lasR fs rp) fs kiln days i)∧e=.returned (.slice A W.length c)∧Grew w w' (.row 23 1 A W.length c (W.map ocell)::W.map orow):=by
 refine enter (N:=169) [(0,(CG fA fs.length fc kiln dA days.length dc)),(1,.slice lA LS.length lc),(2,.bool rp)] Tryz.func98 J Tryz.ntmps98 J J (zG (zL ?_));have hd4:=hc.d4;have hd1:=hc.d1;have hf3:=hc.f3;have hten:=zFd hc.f3;have hLl:LS.length=days.length+1:=by have h:=congrArg List.length hLS;simpa using h
 obtain⟨bl,ol,hlA,hbl,hcl⟩:=hL.outer (by simp;omega);obtain⟨x0,hx0⟩:∃y,LS.reverse[days.length]?=some y:=⟨_,List.getElem?_eq_getElem (by simp;omega)⟩;have hx0L:x0∈LS:=List.mem_reverse.1 (List.mem_of_getElem? hx0)
 have hx0m:lmor x0=lvlL fs kiln (days.take (days.length)):=by
  have h:=qR hLS hx0;rw[List.getElem?_map,List.getElem?_range om] at h;injection h with h;exact h.symm
 have hx0n:x0.2.2.length<=1000:=by
  rw[<-vM,hx0m];exact zBo hc _
 have hx0k:∀y∈x0.2.2,MOk y.2.2∧Thin fs.length y.2.2:=fun y hy=>by
  have h:y.2.2∈lvlL fs kiln (days.take (days.length)):=hx0m▸List.mem_map_of_mem (List.mem_reverse.2 hy);exact wS hc h
 refine jT J J ?_;intro b3;refine lax J J (csr (zA J J (jR J J U104 (zF1 (n:=LS.length) (zY9 _) J J J U35 F.ti23 om om om ?_))));intro b21;rw[show List.replicate LS.length (Value.slice none 0 0)=List.replicate days.length (Value.slice none 0 0)++[(Value.slice none 0 0)] from by rw[hLl,List.replicate_succ']];refine lax J J (csr (zA J J (jR J J Tryz.underlying104 (zE (v:=.int .i64 (days.length:Int)) J J J (fun w=>qK w (by rw[kC _ om om];omega)) (lax J J (zG (csr (lax J J (zQ (wK 3 1 (qU (G:=Nat×OZ) (fun g=>g.1<=x0.2.2.length∧g.2.2.2=((lmor x0).take g.1).map (fun m=>encO (bO (lasR fs rp) fs kiln days 0 m))) (fun g=>x0.2.2.length-g.1) (fun g=>[(1,.slice lA LS.length lc),(2,.bool rp),(3,pt b3),(7,.slice (some ⟨b21,0,none⟩) LS.length LS.length),(8,.int .i64 (days.length:Int)),(9,.int .i64 (g.1:Int))]) (fun g=>[.row 3 1 g.2.1 g.2.2.2.length g.2.2.1 (zis g.2.2.2),.row 23 1 (some ⟨b21,0,none⟩) LS.length LS.length (List.replicate days.length (Value.slice none 0 0)++[.slice g.2.1 g.2.2.2.length g.2.2.1]),.blk b3 (CO fA fs.length fc kiln dA days.length dc 25)]) (0,none,0,[]) ⟨Nat.zero_le _,rfl⟩ sbn (by dsimp only[List.length_nil];simp only[zis,List.map_nil];exact pkk) ?_)))))))))));rintro⟨k,A,c,xs⟩ ⟨hk0,hxs⟩;dsimp only at hk0 hxs ⊢;refine zG (csr (zA J J (zA J J (zA J J (jO (j:=days.length) J (show _=some (Value.slice (some ⟨bl,ol,none⟩) LS.length lc) from by rw[<-hlA];rfl) J Tryz.underlying104 F.ti109 om om (jM (v:=.slice x0.1 x0.2.2.length x0.2.1) J J F.one109 (fun a w ha=>ha.old (hcl (days.length) _ hx0 0 _ J) hbl) (jR J J Tryz.underlying109 (zE J J J jY ?_))))))))
 refine lnx (zK J (fun hc0=>?_) (fun hc0=>?_))
 ·have hk:k<x0.2.2.length:=om;have hxl:xs.length=k:=by rw[hxs,List.length_map,List.length_take,vM];omega
  obtain⟨y,hy⟩:∃y,x0.2.2.reverse[k]?=some y:=⟨_,List.getElem?_eq_getElem (by simp;omega)⟩;have hyx:y∈x0.2.2:=List.mem_reverse.1 (List.mem_of_getElem? hy);have hml:(lmor x0)[k]?=some y.2.2:=by unfold lmor;rw[List.getElem?_map,hy];rfl
  have hmv:=hx0m▸List.mem_of_getElem? hml;obtain⟨hmok,hmth⟩:=wS hc hmv;have hin:=(hL.inner x0 hx0L).inner y (List.mem_reverse.2 hyx);obtain⟨bx,ox9,hxA,hbx,hcx⟩:=(hL.inner x0 hx0L).outer (by simp;omega);obtain⟨⟨sA,sc⟩,⟨wA,wc⟩,mo⟩:=y;dsimp only at hml hmv hmok hmth;refine zO (zD (zG (zQ (zG ?_))))
  cases rp
  ·refine jS [] F.follows 13 J (fl 13) J (anm 0 J J J (anm 1 J J J (atf 2 J J J J J (atf 3 J J J J J (atf 4 J J J J J (atf 5 J J J J J (atf 6 J J J J J (atf 7 J J J J J (atf 8 J J J J J (atf 9 J J J J J (atf 10 J J J J J (atf 11 J J J J J (zC 12 J J J (qH J J) (adn (zD (kL J (zL (zA J J (zA J J (zA J J (zA J J (jO (j:=days.length) J J J Tryz.underlying35 F.ti23 om om (jM (v:=.slice A xs.length c) J J F.one23 (fun a w ha=>jQ ha (InR.mem (A:=some ⟨b21,0,none⟩)) J (by rw[show 0+days.length*1=days.length from by omega];exact zEu _ _ _ _)) (kB (vs:=[(0,_)]) J J Tryz.underlying23 F.ti3 J J J ?_))))))))))))))))))))))));intro b62;refine kI J J J Tryz.underlying23 F.ti3 J J J (by unfold maxLen;omega) om ?_;intro A9 c9;refine jO (j:=days.length) J J J Tryz.underlying35 F.ti23 om om (xZ (A:=some ⟨b21,0,none⟩) (List.replicate days.length (Value.slice none 0 0)++.slice A9 (xs.length+1) c9::[]) (show _=some (Value.pointer (some ⟨b21,0+days.length*1,none⟩)) from rfl) J F.ti23 J (by simp only[List.length_append,List.length_replicate,List.length_cons];omega) (by rw[show 0+days.length*1=days.length from by omega];exact zEz _ _ _ _ _) (zB (zJ (zD (zL (zA J J (zE J J J bdO (zF J J (zB (kS (k+1,A9,c9,xs++[0]) ⟨by (try dsimp only);omega,?_⟩ tdo sbn (by dsimp only;rw[List.length_append,List.length_singleton,zF2];exact pkk)))))))))));(try dsimp only);rw[<-zBa (f:=fun m=>encO (bO _ fs kiln days 0 m)) hml hxs];(try dsimp only);rw[zJc]
   rfl
  ·refine jS [] F.follows 13 J (fl 13) J (anm 0 J J J (anm 1 J J J (ato 2 J J J J J (kR J F.agg25 F.ti25) (ato 3 J J J J J (kF J) (ato 4 J J J J J (kF J) (ato 5 J J J J J (jG (j:=days.length) (show _=some (Value.slice (some ⟨bl,ol,none⟩) LS.length lc) from by rw[<-hlA];rfl) J Tryz.underlying104 F.ti109 om om) (ato 6 J J J J J (jC (v:=.slice x0.1 x0.2.2.length x0.2.1) J F.one109 (fun a w ha=>ha.old (hcl (days.length) _ hx0 0 _ J) hbl)) (ato 7 J J J J J (kF J) (ato 8 J J J J J (jG (j:=k) (show _=some (Value.slice (some ⟨bx,ox9,none⟩) x0.2.2.length x0.2.1) from by rw[<-hxA];rfl) J Tryz.underlying109 F.ti112 J hk) (ato 9 J J J J J (qW (l:=[.slice sA fs.length sc,.slice wA fs.length wc]) J F.agg112 F.ti112 J (fun a w ha j u hu=>ha.old (hcx k _ hy j u hu) hbx)) (an1 10 J (zM J J (jE (v:=.bool (agnL (start fs) mo)) (vs:=[_,_]) J J F.ent118 (fun a w ha=>zX6 hc.f3 hc.ff hmok hmth w (hF.later ha.below) (hin.later ha.below)) (zB (anb (ato 11 J J J J J (zCa J) (zC 12 J J J (xQ J J) ?_)))))))))))))))))
   refine adn (zD (kH J (fun hc1=>?_) (fun hc1=>?_)))
   ·refine zL (zA J J (zA J J (zA J J (zA J J (jO (j:=days.length) J J J Tryz.underlying35 F.ti23 om om (jM (v:=.slice A xs.length c) J J F.one23 (fun a w ha=>jQ ha (InR.mem (A:=some ⟨b21,0,none⟩)) J (by rw[show 0+days.length*1=days.length from by omega];exact zEu _ _ _ _)) (kB (vs:=[(0,_)]) J J Tryz.underlying23 F.ti3 J J J ?_)))))));intro b53;refine kI J J J Tryz.underlying23 F.ti3 J J J (by unfold maxLen;omega) om ?_;intro A9 c9;refine jO (j:=days.length) J J J Tryz.underlying35 F.ti23 om om (xZ (A:=some ⟨b21,0,none⟩) (List.replicate days.length (Value.slice none 0 0)++.slice A9 (xs.length+1) c9::[]) (show _=some (Value.pointer (some ⟨b21,0+days.length*1,none⟩)) from rfl) J F.ti23 J (by simp only[List.length_append,List.length_replicate,List.length_cons];omega) (by rw[show 0+days.length*1=days.length from by omega];exact zEz _ _ _ _ _) (zB (zJ (zD (zL (zA J J (zE J J J bdO (zF J J (zB (kS (k+1,A9,c9,xs++[-1]) ⟨by (try dsimp only);omega,?_⟩ tdo sbn (by dsimp only;rw[List.length_append,List.length_singleton,zF2];exact pkk)))))))))));(try dsimp only);rw[<-zBa (f:=fun m=>encO (bO _ fs kiln days 0 m)) hml hxs];(try dsimp only);rw[zJc];rw[if_neg (by show ¬agnL (start fs) mo=true;intro h;rw[h] at hc1;cases hc1)]
   ·refine zL (zA J J (zA J J (zA J J (zA J J (jO (j:=days.length) J J J Tryz.underlying35 F.ti23 om om (jM (v:=.slice A xs.length c) J J F.one23 (fun a w ha=>jQ ha (InR.mem (A:=some ⟨b21,0,none⟩)) J (by rw[show 0+days.length*1=days.length from by omega];exact zEu _ _ _ _)) (kB (vs:=[(0,_)]) J J Tryz.underlying23 F.ti3 J J J ?_)))))));intro b62;refine kI J J J Tryz.underlying23 F.ti3 J J J (by unfold maxLen;omega) om ?_;intro A9 c9;refine jO (j:=days.length) J J J Tryz.underlying35 F.ti23 om om (xZ (A:=some ⟨b21,0,none⟩) (List.replicate days.length (Value.slice none 0 0)++.slice A9 (xs.length+1) c9::[]) (show _=some (Value.pointer (some ⟨b21,0+days.length*1,none⟩)) from rfl) J F.ti23 J (by simp only[List.length_append,List.length_replicate,List.length_cons];omega) (by rw[show 0+days.length*1=days.length from by omega];exact zEz _ _ _ _ _) (zB (zJ (zD (zL (zA J J (zE J J J bdO (zF J J (zB (kS (k+1,A9,c9,xs++[0]) ⟨by (try dsimp only);omega,?_⟩ tdo sbn (by dsimp only;rw[List.length_append,List.length_singleton,zF2];exact pkk)))))))))));(try dsimp only);rw[<-zBa (f:=fun m=>encO (bO _ fs kiln days 0 m)) hml hxs];(try dsimp only);rw[zJc]
    rw[if_pos (by show agnL (start fs) mo=true;cases h:agnL (start fs) mo with
     | true=>rfl
     | false=>rw[h] at hc1;cases hc1)]
 ·obtain rfl:k=x0.2.2.length:=om;rw[List.take_of_length_le (by rw[vM];exact Nat.le_refl _)] at hxs;refine jV (zN (zN (zY (zD (csr (zI J J F.fi25_0 F.ti22 (zS J J F.one22 (jR J J U22 (kJ (X:=Option Addr×Nat×List Meta) (vs:=[_]) (p:=fun y=>y.2.2.reverse.map (·.2.2)=exts [] fs.length) (val:=fun y=>.slice y.1 y.2.2.length y.2.1) (rs:=fun y=>.row 23 1 y.1 y.2.2.length y.2.1 (y.2.2.reverse.map mcell)::y.2.2.map mrow) J J F.ent75 (fun a w ha=>(zHn fs.length hc.f3 w).mono (fun e w' h=>by obtain⟨A',c',S',h1,h2,h3⟩:=h;exact⟨(A',c',S'),h1,h2,h3⟩)) ?_)))))))));rintro⟨A4,c4,S⟩ hS;dsimp only at hS ⊢;have hSl:S.length=4^fs.length:=by have h:=congrArg List.length hS;rw[vC] at h;simpa using h
  have hS64:=Nat.pow_le_pow_right (n:=4) (by decide) hc.f3;have hS0:0<4^fs.length:=Nat.pow_pos (by decide);refine vL (List.Perm.cons _ List.perm_append_comm) ?_;simp only[List.cons_append,List.nil_append];refine vJ A4 om ?_;intro g4 hg4;refine lax J J (zG (csr (zA J J (zE J J J (fun w=>qK w (kC _ om om)) ?_))))
  refine lax J J (zQ (qU (G:=Nat×List OZ) (fun g=>g.1<=days.length∧g.2.length+g.1=days.length+1∧∀i o,g.2[i]?=some o->o.2.2=costL (lasR fs rp) fs kiln days (g.1+i)) (fun g=>g.1) (fun g=>[(1,.slice lA LS.length lc),(3,pt b3),(7,.slice (some ⟨b21,0,none⟩) LS.length LS.length),(10,.slice A4 S.length c4),(11,.int .i64 ((g.1:Int)-1))]) (fun g=>.row 23 1 A4 S.length c4 (S.reverse.map mcell)::.row 23 1 (some ⟨b21,0,none⟩) LS.length LS.length (List.replicate g.1 (Value.slice none 0 0)++g.2.map ocell)::.blk b3 (CO fA fs.length fc kiln dA days.length dc 25)::(g.2.map orow++S.map mrow)) (days.length,[(A,c,xs)]) ⟨Nat.le_refl _,by simp;omega,fun i o ho=>?_⟩ sbn (by dsimp only;simp only[List.map_cons,List.map_nil,orow,ocell,List.cons_append,List.nil_append];exact pkk) ?_))
  ·cases i with
   | zero =>
    injection ho with ho;subst ho;show xs=costL _ _ _ _ (days.length+0);unfold costL
    rw[Nat.add_zero,Nat.sub_self,hxs,hx0m]
   | succ i=>simp at ho
  rintro⟨D,W⟩ ⟨hD0,hWl,hW⟩;dsimp only at hD0 hWl hW ⊢;refine zG (csr (zA J J (zE J J J zFb ?_)))
  refine lnx (zK J (fun hc2=>?_) (fun hc2=>?_))
  ·obtain⟨d,rfl⟩:∃d,D=d+1:=⟨D-1,by omega⟩;have em:(((d+1:Nat):Int)-1)=(d:Int):=om;rw[em];have hd:d<days.length:=om;obtain⟨bd,bo,hdA,hbd,hcd⟩:=hD om;obtain⟨sg,hsg⟩:∃y,days[d]?=some y:=⟨_,List.getElem?_eq_getElem hd⟩;have hsg12:=hc.dd sg (List.mem_of_getElem? hsg);obtain⟨x1,hx1⟩:∃y,LS.reverse[d]?=some y:=⟨_,List.getElem?_eq_getElem (by simp;omega)⟩;have hx1L:x1∈LS:=List.mem_reverse.1 (List.mem_of_getElem? hx1)
   have hx1m:lmor x1=lvlL fs kiln (days.take (d)):=by
    have h:=qR hLS hx1;rw[List.getElem?_map,List.getElem?_range om] at h;injection h with h;exact h.symm
   have hx1n:x1.2.2.length<=1000:=by
    rw[<-vM,hx1m];exact zBo hc _
   have hx1k:∀y∈x1.2.2,MOk y.2.2∧Thin fs.length y.2.2:=fun y hy=>by
    have h:y.2.2∈lvlL fs kiln (days.take (d)):=hx1m▸List.mem_map_of_mem (List.mem_reverse.2 hy);exact wS hc h
   obtain⟨x2,hx2⟩:∃y,LS.reverse[d+1]?=some y:=⟨_,List.getElem?_eq_getElem (by simp;omega)⟩;have hx2L:x2∈LS:=List.mem_reverse.1 (List.mem_of_getElem? hx2)
   have hx2m:lmor x2=lvlL fs kiln (days.take (d+1)):=by
    have h:=qR hLS hx2;rw[List.getElem?_map,List.getElem?_range om] at h;injection h with h;exact h.symm
   have hx2n:x2.2.2.length<=1000:=by
    rw[<-vM,hx2m];exact zBo hc _
   have hx2k:∀y∈x2.2.2,MOk y.2.2∧Thin fs.length y.2.2:=fun y hy=>by
    have h:y.2.2∈lvlL fs kiln (days.take (d+1)):=hx2m▸List.mem_map_of_mem (List.mem_reverse.2 hy);exact wS hc h
   obtain⟨⟨oA,oc,ox⟩,W,rfl⟩:∃o W',W=o::W':=by
    cases W with
    | nil=>simp at hWl;omega
    | cons o W=>exact⟨o,W,rfl⟩
   have hoc:ox=costL (lasR fs rp) fs kiln days (d+1):=hW 0 _ J;simp only[List.map_cons,orow,ocell,List.cons_append];rw[zY8];refine zO (zD (zG (zQ (zG (jS [] F.follows 10 J (fl 10) J (anm 0 J J J (anm 1 J J J (zC 2 J J J (kW (v:=.int .i64 ((d+1:Nat):Int)) J J bdP) (zC 3 J J J (jG (j:=d+1) (show _=some (Value.slice (some ⟨bl,ol,none⟩) LS.length lc) from by rw[<-hlA];rfl) J Tryz.underlying104 F.ti109 om om) (zC 4 J J J (jC (v:=.slice x2.1 x2.2.2.length x2.2.1) J F.one109 (fun a w ha=>ha.old (hcl (d+1) _ hx2 0 _ J) hbl)) (zC 5 J J J (zP J F.fi25_0 F.ti22) (zC 6 J J J (jJ J F.one22) (zC 7 J J J (vQ J Tryz.underlying22) (an1 8 J ?_))))))))))))))
   refine kJ (X:=Nat) (vs:=[_,_]) (p:=fun _=>True) (val:=fun y=>.slice (some ⟨y,0,none⟩) (ten fs.length) (ten fs.length)) (rs:=fun y=>[.row 3 1 (some ⟨y,0,none⟩) (ten fs.length) (ten fs.length) (zis (tabK (ten fs.length) (cods fs.length x2.2.2.reverse) x2.2.2.length))]) J J F.ent76 (fun a w ha=>?_) ?_
   ·have h:=zGa (l:=x2.2.2.reverse) (A:=x2.1) (c:=x2.2.1) hc.f3 (fun y hy=>(hx2k y (List.mem_reverse.1 hy)).1) (by rw[List.length_reverse];omega) w ((hL.inner x2 hx2L).later ha.below);rw[List.length_reverse] at h;exact h.mono (fun e w' h=>by obtain⟨b,h1,h2⟩:=h;exact⟨b,trivial,h1,h2⟩)
   rintro bt -;dsimp only[List.cons_append,List.nil_append];refine zB (anb (zC 9 J J J (jP J) (adn (zD (csr (lax J J (zQ (wK 3 1 (qU (G:=Nat×OZ) (fun g=>g.1<=x1.2.2.length∧g.2.2.2=((lmor x1).take g.1).map (fun m=>encO (bO (lasR fs rp) fs kiln days (days.length-d) m))) (fun g=>x1.2.2.length-g.1) (fun g=>[(1,.slice lA LS.length lc),(3,pt b3),(7,.slice (some ⟨b21,0,none⟩) LS.length LS.length),(10,.slice A4 S.length c4),(11,.int .i64 (d:Int)),(12,.slice (some ⟨bt,0,none⟩) (ten fs.length) (ten fs.length)),(13,.int .i64 (g.1:Int))]) (fun g=>.row 3 1 g.2.1 g.2.2.2.length g.2.2.1 (zis g.2.2.2)::.row 3 1 (some ⟨bt,0,none⟩) (ten fs.length) (ten fs.length) (zis (tabK (ten fs.length) (cods fs.length x2.2.2.reverse) x2.2.2.length))::.row 23 1 A4 S.length c4 (S.reverse.map mcell)::.row 23 1 (some ⟨b21,0,none⟩) LS.length LS.length (List.replicate d (Value.slice none 0 0)++.slice g.2.1 g.2.2.2.length g.2.2.1::.slice oA ox.length oc::W.map ocell)::.blk b3 (CO fA fs.length fc kiln dA days.length dc 25)::.row 3 1 oA ox.length oc (zis ox)::(W.map orow++S.map mrow)) (0,none,0,[]) ⟨Nat.zero_le _,rfl⟩ sbn (by dsimp only[List.length_nil];simp only[zis,List.map_nil];exact pkk) ?_)))))))));rintro⟨i,A,c,xs⟩ ⟨hi0,hxs⟩;dsimp only at hi0 hxs ⊢;refine zG (csr (zA J J (zA J J (zA J J (jO (j:=d) J (show _=some (Value.slice (some ⟨bl,ol,none⟩) LS.length lc) from by rw[<-hlA];rfl) J Tryz.underlying104 F.ti109 om om (jM (v:=.slice x1.1 x1.2.2.length x1.2.1) J J F.one109 (fun a w ha=>ha.old (hcl (d) _ hx1 0 _ J) hbl) (jR J J Tryz.underlying109 (zE J J J jY ?_))))))))
   refine lnx (zK J (fun hc3=>?_) (fun hc3=>?_))
   ·have hi:i<x1.2.2.length:=om;have hxl:xs.length=i:=by rw[hxs,List.length_map,List.length_take,vM];omega
    obtain⟨y,hy⟩:∃y,x1.2.2.reverse[i]?=some y:=⟨_,List.getElem?_eq_getElem (by simp;omega)⟩;have hyx:y∈x1.2.2:=List.mem_reverse.1 (List.mem_of_getElem? hy);have hml:(lmor x1)[i]?=some y.2.2:=by unfold lmor;rw[List.getElem?_map,hy];rfl
    have hmv:=hx1m▸List.mem_of_getElem? hml;obtain⟨hmok,hmth⟩:=wS hc hmv;have hin:=(hL.inner x1 hx1L).inner y (List.mem_reverse.2 hyx);obtain⟨bx,ox9,hxA,hbx,hcx⟩:=(hL.inner x1 hx1L).outer (by simp;omega);obtain⟨⟨sA,sc⟩,⟨wA,wc⟩,mo⟩:=y;dsimp only at hml hmv hmok hmth;refine zO (zD (zG (zQ (csr (lax J J (zG (csr (lax J J (zQ (qT (G:=Nat) (fun k=>k<=S.length) (fun k=>S.length-k) (fun k=>[(1,.slice lA LS.length lc),(3,pt b3),(7,.slice (some ⟨b21,0,none⟩) LS.length LS.length),(10,.slice A4 S.length c4),(11,.int .i64 (d:Int)),(12,.slice (some ⟨bt,0,none⟩) (ten fs.length) (ten fs.length)),(13,.int .i64 (i:Int)),(14,.int .i64 (encO (folO (lasR fs rp) fs kiln days (days.length-(d+1)) d mo ((exts [] fs.length).take k)))),(15,.int .i64 (k:Int))]) (fun k=>.row 3 1 A xs.length c (zis xs)::.row 3 1 (some ⟨bt,0,none⟩) (ten fs.length) (ten fs.length) (zis (tabK (ten fs.length) (cods fs.length x2.2.2.reverse) x2.2.2.length))::.row 23 1 A4 S.length c4 (S.reverse.map mcell)::.row 23 1 (some ⟨b21,0,none⟩) LS.length LS.length (List.replicate d (Value.slice none 0 0)++.slice A xs.length c::.slice oA ox.length oc::W.map ocell)::.blk b3 (CO fA fs.length fc kiln dA days.length dc 25)::.row 3 1 oA ox.length oc (zis ox)::(W.map orow++S.map mrow)) 0 (Nat.zero_le _) sbn sbl ?_))))))))));intro k hk0;(try dsimp only at hk0 ⊢);refine zG (csr (zA J J (zA J J (jR J J U35 (zE J J J jY ?_)))))
    refine lnx (zK J (fun hc4=>?_) (fun hc4=>?_))
    ·have hk:k<S.length:=om;obtain⟨s,hs⟩:∃y,S.reverse[k]?=some y:=⟨_,List.getElem?_eq_getElem (by simp;omega)⟩;have hsS:s∈S:=List.mem_reverse.1 (List.mem_of_getElem? hs);have hsl:(exts [] fs.length)[k]?=some s.2.2:=qR hS hs;have hsn:s.2.2.length=fs.length:=by rw[vW _ _ _ (List.mem_of_getElem? hsl),List.length_nil];omega
     have hs3:s.2.2.length<=3:=by have:=hc.f3;omega
     have hdc:=zLi hs3;refine zO (zD (zG (zQ (zG ?_))));rcases hDy:dayE fs kiln mo s.2.2 sg with ⟨e,m1⟩
     obtain rfl|⟨er,rfl⟩:e=0∨∃er,e=er+1:=by
      cases e with
      | zero=>exact .inl rfl
      | succ er=>exact .inr ⟨er,rfl⟩
     ·refine qF (G:=Nat×(Option Addr×Nat)×(Option Addr×Nat)) (fun _=>True) (fun g=>[(16,.pointer (some ⟨g.1,0,none⟩)),(17,.int .i64 0),(1,.slice lA LS.length lc),(3,pt b3),(7,.slice (some ⟨b21,0,none⟩) LS.length LS.length),(10,.slice A4 S.length c4),(11,.int .i64 (d:Int)),(12,.slice (some ⟨bt,0,none⟩) (ten fs.length) (ten fs.length)),(13,.int .i64 (i:Int)),(14,.int .i64 (encO (folO (lasR fs rp) fs kiln days (days.length-(d+1)) d mo ((exts [] fs.length).take k)))),(15,.int .i64 (k:Int))]) (fun g=>.row 3 1 g.2.1.1 fs.length g.2.1.2 (ints (sts fs.length m1))::.row 4 1 g.2.2.1 fs.length g.2.2.2 (bools (wbs fs.length m1))::.blk g.1 (.cells #[.slice g.2.1.1 fs.length g.2.1.2,.slice g.2.2.1 fs.length g.2.2.2] 112 (0,0))::.row 3 1 A xs.length c (zis xs)::.row 3 1 (some ⟨bt,0,none⟩) (ten fs.length) (ten fs.length) (zis (tabK (ten fs.length) (cods fs.length x2.2.2.reverse) x2.2.2.length))::.row 23 1 A4 S.length c4 (S.reverse.map mcell)::.row 23 1 (some ⟨b21,0,none⟩) LS.length LS.length (List.replicate d (Value.slice none 0 0)++.slice A xs.length c::.slice oA ox.length oc::W.map ocell)::.blk b3 (CO fA fs.length fc kiln dA days.length dc 25)::.row 3 1 oA ox.length oc (zis ox)::(W.map orow++S.map mrow)) ?_ ?_
      ·refine jS [] F.follows 24 J (fl 24) J (zC 0 J J J (kR J F.agg25 F.ti25) (zC 1 J J J (zP J F.fi25_2 F.ti23) (zC 2 J J J (jJ J F.one23) (anm 3 J J J (zC 4 J J J (jG (j:=d) (show _=some (Value.slice (some ⟨bd,bo,none⟩) days.length dc) from by rw[<-hdA];rfl) J Tryz.underlying23 F.ti3 J hd) (zC 5 J J J (jC (v:=.int .i64 (sg:Int)) J F.one3 (fun a w ha=>ha.old (hcd d _ hsg 0 _ J) hbd)) (anm 6 J J J (anm 7 J J J (zC 8 J J J (jG (j:=d) (show _=some (Value.slice (some ⟨bl,ol,none⟩) LS.length lc) from by rw[<-hlA];rfl) J Tryz.underlying104 F.ti109 om om) (zC 9 J J J (jC (v:=.slice x1.1 x1.2.2.length x1.2.1) J F.one109 (fun a w ha=>ha.old (hcl (d) _ hx1 0 _ J) hbl)) (anm 10 J J J (zC 11 J J J (jG (j:=i) (show _=some (Value.slice (some ⟨bx,ox9,none⟩) x1.2.2.length x1.2.1) from by rw[<-hxA];rfl) J Tryz.underlying109 F.ti112 J hi) (zC 12 J J J (qW (l:=[.slice sA fs.length sc,.slice wA fs.length wc]) J F.agg112 F.ti112 J (fun a w ha j u hu=>ha.old (hcx i _ hy j u hu) hbx)) (anm 13 J J J (anm 14 J J J (zC 15 J J J (jG (j:=k) (show _=some (Value.slice (some ⟨g4,0,none⟩) S.length c4) from by rw[<-hg4];rfl) J Tryz.underlying35 F.ti23 J hk) (zC 16 J J J (jC (v:=.slice s.1 s.2.2.length s.2.1) J F.one23 (fun a w ha=>jQ ha (InR.mem (A:=A4)) hg4 (zo1 (xM hs)))) ?_)))))))))))))))))
       refine qG 17 21 kr J J J J ?_ ?_
       ·refine kJ (X:=(Option Addr×Nat)×(Option Addr×Nat)) (vs:=[_,_,_,_]) (p:=fun _=>True) (val:=fun y=>.tuple #[.agg (mmc fs.length (y.1,y.2,m1)).toArray,.int .i64 0]) (rs:=fun y=>mmr fs.length (y.1,y.2,m1)) J J F.ent77 (fun a w ha=>(yB (nd:=days.length) (dA:=dA) (dc:=dc) hc.f3 hc.ff hmok hsn om w (hF.later ha.below) (hin.later ha.below) (xR ha (by repeat (first|exact List.mem_map_of_mem hsS|exact List.mem_append_right _ (List.mem_map_of_mem hsS)|apply List.Mem.tail)))).mono (fun e w' h=>by
         rw[hDy] at h;rcases h with ⟨_,sA,sc,wA,wc,h1,h2⟩|⟨h0,_⟩
         ·exact⟨((sA,sc),(wA,wc)),trivial,h1,h2⟩
         ·exact absurd J h0)) ?_
        rintro⟨⟨qA,qc⟩,⟨uA,uc⟩⟩ -;dsimp only[mmc,mmr,List.cons_append,List.nil_append];refine zB (anb (anm 18 J J J (zC 19 J J J (jN J J) (zC 20 J J J (jN J J) (an1 21 J (zW J F.ti112 ?_))))));intro b16;exact zB (anb (an1 22 J (zH J J F.ti112 J (zB (anb (zC 23 J J J (jP J) (adn (jK (b16,(qA,qc),(uA,uc)) trivial sbn pkk))))))))
       ·refine zW J F.ti112 ?_;intro b16;refine zB (anb (an1 17 J ?_))
        refine kJ (X:=(Option Addr×Nat)×(Option Addr×Nat)) (vs:=[_,_,_,_]) (p:=fun _=>True) (val:=fun y=>.tuple #[.agg (mmc fs.length (y.1,y.2,m1)).toArray,.int .i64 0]) (rs:=fun y=>mmr fs.length (y.1,y.2,m1)) J J F.ent77 (fun a w ha=>(yB (nd:=days.length) (dA:=dA) (dc:=dc) hc.f3 hc.ff hmok hsn om w (hF.later ha.below) (hin.later ha.below) (xR ha (by repeat (first|exact List.mem_map_of_mem hsS|exact List.mem_append_right _ (List.mem_map_of_mem hsS)|apply List.Mem.tail)))).mono (fun e w' h=>by
         rw[hDy] at h;rcases h with ⟨_,sA,sc,wA,wc,h1,h2⟩|⟨h0,_⟩
         ·exact⟨((sA,sc),(wA,wc)),trivial,h1,h2⟩
         ·exact absurd J h0)) ?_
        rintro⟨⟨qA,qc⟩,⟨uA,uc⟩⟩ -;dsimp only[mmc,mmr,List.cons_append,List.nil_append];exact zB (anb (anm 18 J J J (zC 19 J J J (jN J J) (zC 20 J J J (jN J J) (an1 22 J (zH J J F.ti112 J (zB (anb (zC 23 J J J (jP J) (adn (jK (b16,(qA,qc),(uA,uc)) trivial sbn pkk)))))))))))
      ·rintro⟨b16,⟨qA,qc⟩,⟨uA,uc⟩⟩ -;(try dsimp only)
       have h1ok:MOk m1:=by
        have h:=(yQ (kiln:=kiln) (acts:=s.2.2) (sugar:=sg) hc.ff hmok om hc.f3).1;rw[hDy] at h;exact h
       refine zD (zG (csr (zA J J (zE (v:=.bool false) J J J (fun w=>by rw[kT,decide_eq_false om]) (lnx (kL J (zO (zD (zG (jS [] F.follows 13 J (fl 13) J (anm 0 J J J (anm 1 J J J (zC 2 J J J (kW (v:=.int .i64 ((d+1:Nat):Int)) J J bdP) (zC 3 J J J (jG (j:=d+1) J J Tryz.underlying35 F.ti23 om om) (zC 4 J J J (jC (v:=.slice oA ox.length oc) J F.one23 (fun a w ha=>jQ ha (InR.mem (A:=some ⟨b21,0,none⟩)) J (zo1 (zN4 _ _ _ _ _)))) (anm 5 J J J (zC 6 J J J (kR J F.agg112 F.ti112) (an1 7 J (jE (v:=.int .i64 ((cdM m1 fs.length:Nat):Int)) (vs:=[_]) J J F.ent78 (fun a w ha=>zCd hc.f3 h1ok w (zGe ha (x:=((qA,qc),(uA,uc),m1)) (by intro r hr;simp only[mmr,List.mem_cons,List.not_mem_nil,or_false] at hr;rcases hr with rfl|rfl<;>simp))) (zB (anb (an1 8 J ?_))))))))))))))))))))));have hm1v:=zGi hsg hmv (List.mem_of_getElem? hsl) hDy;obtain⟨jj,hjt,hjl⟩:=zLj hc hx2m hm1v;have hlt:cdM m1 fs.length<ten fs.length:=zC0 h1ok _
       have hoj:ox[jj]?=some (encO (bO (lasR fs rp) fs kiln days (days.length-(d+1)) m1)):=by
        rw[hoc];unfold costL;rw[List.getElem?_map,hjl]
        rfl
       have hjx:jj<ox.length:=(List.getElem?_eq_some_iff.1 hoj).1;refine vJ oA om ?_;intro go hgo;have hbl9:=zCi (las:=(lasR fs rp)) (kiln:=kiln) (days:=days) hf3 (days.length-(d+1)) m1;have hnv1:=zKd (bO (lasR fs rp) fs kiln days (days.length-(d+1)) m1);have hnv2:=zPo hbl9;have hfk:=jEt (las:=(lasR fs rp)) (kiln:=kiln) (m:=mo) (n:=(days.length-(d+1))) hf3 om (fun x hx=>by rw[zFu x hx];exact hf3) hsl hsg hDy;refine jO (j:=cdM m1 fs.length) J J J Tryz.underlying23 F.ti3 J hlt (zB (anb (an1 9 J (jM (v:=.int .i64 (jj:Int)) J J F.one3 (fun a w ha=>jQ ha (InR.mem (A:=some ⟨bt,0,none⟩)) J (by rw[show 0+cdM m1 fs.length*1=cdM m1 fs.length from by omega];exact zAh hjt)) (zB (anb (an1 10 J (jO (j:=jj) J (show _=some (Value.slice (some ⟨go,0,none⟩) ox.length oc) from by rw[<-hgo];rfl) J Tryz.underlying23 F.ti3 J hjx (zB (anb (an1 11 J (jM (v:=.int .i64 (encO (bO (lasR fs rp) fs kiln days (days.length-(d+1)) m1))) J J F.one3 (fun a w ha=>jQ ha (InR.mem (A:=oA)) hgo (zo1 (zAh hoj))) (zB (anb (zC 12 J J J (jP J) ?_)))))))))))))))
       refine adn (zD (csr (vU 17 150 (.bool (decide (0<=encO (bO (lasR fs rp) fs kiln days (days.length-(d+1)) m1)∧((encO (folO (lasR fs rp) fs kiln days (days.length-(d+1)) d mo ((exts [] fs.length).take k)))<0∨encO (bO (lasR fs rp) fs kiln days (days.length-(d+1)) m1)+((dayC s.2.2:Nat):Int)<(encO (folO (lasR fs rp) fs kiln days (days.length-(d+1)) d mo ((exts [] fs.length).take k))))))) ?_ ?_)))
       ·refine zA J J (zE J J J zFb ?_)
        refine zA J J (xU (t:=136) J (fun hg136=>?_) (fun hg136=>?_))
        ·refine zM J J (zA J J (zM J J (zE J J J jY ?_)))
         refine zM J J (zA J J (xU (t:=139) J (fun hg139=>?_) (fun hg139=>?_)))
         ·exact zR J J J (zR J J J (zR J J J (zR J J J (zR J J J (zR J J J (zR J J J (zR J J J (zR J J J (zM J J (jH J J J (jH J J J (zB (qN (.cons bxx sbn) sbl)))))))))))))
         ·exact zM J J (zA J J (zM J J (zA J J (zM J J (zA J J (zM J J (jO (j:=k) J (show _=some (Value.slice (some ⟨g4,0,none⟩) S.length c4) from by rw[<-hg4];rfl) J Tryz.underlying35 F.ti23 J hk (zM J J (jM (v:=.slice s.1 s.2.2.length s.2.1) J J F.one23 (fun a w ha=>jQ ha (InR.mem (A:=A4)) hg4 (zo1 (xM hs))) (zM J J (jE (v:=.int .i64 ((dayC s.2.2:Nat):Int)) (vs:=[_]) J J F.ent79 (fun a w ha=>zId hs3 w (xR ha (by repeat (first|exact List.mem_map_of_mem hsS|exact List.mem_append_right _ (List.mem_map_of_mem hsS)|apply List.Mem.tail)))) (zM J J (zE J J J bdO (zM J J (zA J J (zM J J (zE J J J jY (zM J J (jU J J J (jH J J J (zB (qN (.cons bxx sbn) sbl))))))))))))))))))))))
        ·exact zR J J J (zR J J J (zR J J J (kE J J J (kE J J J (kE J J J (kE J J J (kE J J J (kE J J J (kE J J J (kE J J J (kE J J J (zR J J J (jU J J J (zB (qN (.cons bxx sbn) sbl)))))))))))))))
       refine lnx (zK J (fun hc6=>?_) (fun hc6=>?_))
       ·refine zL (zA J J (zA J J (zA J J (jO (j:=k) J (show _=some (Value.slice (some ⟨g4,0,none⟩) S.length c4) from by rw[<-hg4];rfl) J Tryz.underlying35 F.ti23 J hk (jM (v:=.slice s.1 s.2.2.length s.2.1) J J F.one23 (fun a w ha=>jQ ha (InR.mem (A:=A4)) hg4 (zo1 (xM hs))) (jE (v:=.int .i64 ((dayC s.2.2:Nat):Int)) (vs:=[_]) J J F.ent79 (fun a w ha=>zId hs3 w (xR ha (by repeat (first|exact List.mem_map_of_mem hsS|exact List.mem_append_right _ (List.mem_map_of_mem hsS)|apply List.Mem.tail)))) (zE J J J bdO (zF J J (zB (zJ (zD (zL (zA J J (zE J J J bdO (zF J J (zB (kV (k+1) om tdo (by (try dsimp only);rw[hfk,jCo hc6];exact sbn) sbl)))))))))))))))))
       ·refine zO (zJ (zD (zL (zA J J (zE J J J bdO (zF J J (zB (kV (k+1) om tdo (by (try dsimp only);rw[hfk,jEl hc6];exact sbn) sbl))))))))
     ·refine qF (G:=Nat) (fun _=>True) (fun g=>[(16,pt g),(17,.int .i64 ((er+1:Nat):Int)),(1,.slice lA LS.length lc),(3,pt b3),(7,.slice (some ⟨b21,0,none⟩) LS.length LS.length),(10,.slice A4 S.length c4),(11,.int .i64 (d:Int)),(12,.slice (some ⟨bt,0,none⟩) (ten fs.length) (ten fs.length)),(13,.int .i64 (i:Int)),(14,.int .i64 (encO (folO (lasR fs rp) fs kiln days (days.length-(d+1)) d mo ((exts [] fs.length).take k)))),(15,.int .i64 (k:Int))]) (fun g=>.blk g (.cells #[.slice none 0 0,.slice none 0 0] 112 (0,0))::.row 3 1 A xs.length c (zis xs)::.row 3 1 (some ⟨bt,0,none⟩) (ten fs.length) (ten fs.length) (zis (tabK (ten fs.length) (cods fs.length x2.2.2.reverse) x2.2.2.length))::.row 23 1 A4 S.length c4 (S.reverse.map mcell)::.row 23 1 (some ⟨b21,0,none⟩) LS.length LS.length (List.replicate d (Value.slice none 0 0)++.slice A xs.length c::.slice oA ox.length oc::W.map ocell)::.blk b3 (CO fA fs.length fc kiln dA days.length dc 25)::.row 3 1 oA ox.length oc (zis ox)::(W.map orow++S.map mrow)) ?_ ?_
      ·refine jS [] F.follows 24 J (fl 24) J (zC 0 J J J (kR J F.agg25 F.ti25) (zC 1 J J J (zP J F.fi25_2 F.ti23) (zC 2 J J J (jJ J F.one23) (anm 3 J J J (zC 4 J J J (jG (j:=d) (show _=some (Value.slice (some ⟨bd,bo,none⟩) days.length dc) from by rw[<-hdA];rfl) J Tryz.underlying23 F.ti3 J hd) (zC 5 J J J (jC (v:=.int .i64 (sg:Int)) J F.one3 (fun a w ha=>ha.old (hcd d _ hsg 0 _ J) hbd)) (anm 6 J J J (anm 7 J J J (zC 8 J J J (jG (j:=d) (show _=some (Value.slice (some ⟨bl,ol,none⟩) LS.length lc) from by rw[<-hlA];rfl) J Tryz.underlying104 F.ti109 om om) (zC 9 J J J (jC (v:=.slice x1.1 x1.2.2.length x1.2.1) J F.one109 (fun a w ha=>ha.old (hcl (d) _ hx1 0 _ J) hbl)) (anm 10 J J J (zC 11 J J J (jG (j:=i) (show _=some (Value.slice (some ⟨bx,ox9,none⟩) x1.2.2.length x1.2.1) from by rw[<-hxA];rfl) J Tryz.underlying109 F.ti112 J hi) (zC 12 J J J (qW (l:=[.slice sA fs.length sc,.slice wA fs.length wc]) J F.agg112 F.ti112 J (fun a w ha j u hu=>ha.old (hcx i _ hy j u hu) hbx)) (anm 13 J J J (anm 14 J J J (zC 15 J J J (jG (j:=k) (show _=some (Value.slice (some ⟨g4,0,none⟩) S.length c4) from by rw[<-hg4];rfl) J Tryz.underlying35 F.ti23 J hk) (zC 16 J J J (jC (v:=.slice s.1 s.2.2.length s.2.1) J F.one23 (fun a w ha=>jQ ha (InR.mem (A:=A4)) hg4 (zo1 (xM hs)))) ?_)))))))))))))))))
       refine qG 17 21 kr J J J J ?_ ?_
       ·refine jE (v:=.tuple #[.agg ([.slice none 0 0,.slice none 0 0]:List Value).toArray,.int .i64 ((er+1:Nat):Int)]) (vs:=[_,_,_,_]) J J F.ent77 (fun a w ha=>(yB (nd:=days.length) (dA:=dA) (dc:=dc) hc.f3 hc.ff hmok hsn om w (hF.later ha.below) (hin.later ha.below) (xR ha (by repeat (first|exact List.mem_map_of_mem hsS|exact List.mem_append_right _ (List.mem_map_of_mem hsS)|apply List.Mem.tail)))).mono (fun e w' h=>by
         rw[hDy] at h;rcases h with ⟨h0,_⟩|⟨_,h1,h2⟩
         ·exact absurd h0 (Nat.succ_ne_zero er)
         ·exact⟨h1,h2⟩)) ?_
        refine zB (anb (anm 18 J J J (zC 19 J J J (jN J J) (zC 20 J J J (jN J J) (an1 21 J (zW J F.ti112 ?_))))));intro b16;exact zB (anb (an1 22 J (zH J J F.ti112 J (zB (anb (zC 23 J J J (jP J) (adn (jK b16 trivial sbn pkk))))))))
       ·refine zW J F.ti112 ?_;intro b16;refine zB (anb (an1 17 J ?_))
        refine jE (v:=.tuple #[.agg ([.slice none 0 0,.slice none 0 0]:List Value).toArray,.int .i64 ((er+1:Nat):Int)]) (vs:=[_,_,_,_]) J J F.ent77 (fun a w ha=>(yB (nd:=days.length) (dA:=dA) (dc:=dc) hc.f3 hc.ff hmok hsn om w (hF.later ha.below) (hin.later ha.below) (xR ha (by repeat (first|exact List.mem_map_of_mem hsS|exact List.mem_append_right _ (List.mem_map_of_mem hsS)|apply List.Mem.tail)))).mono (fun e w' h=>by
         rw[hDy] at h;rcases h with ⟨h0,_⟩|⟨_,h1,h2⟩
         ·exact absurd h0 (Nat.succ_ne_zero er)
         ·exact⟨h1,h2⟩)) ?_
        exact zB (anb (anm 18 J J J (zC 19 J J J (jN J J) (zC 20 J J J (jN J J) (an1 22 J (zH J J F.ti112 J (zB (anb (zC 23 J J J (jP J) (adn (jK b16 trivial sbn pkk)))))))))))
      ·rintro b16 -;(try dsimp only);refine zD (zG (csr (zA J J (zE (v:=.bool true) J J J (fun w=>by rw[kT,decide_eq_true om]) (lnx (qE J (jV (zN (zY (zD (zL (zA J J (zE J J J bdO (zF J J (zB (kV (k+1) om tdo (by (try dsimp only);rw[jBk hsl hsg (by rw[hDy];exact Nat.succ_ne_zero er)];exact sbn) sbl))))))))))))))))
    ·obtain rfl:k=S.length:=om;rw[List.take_of_length_le (by rw[vC,hSl];exact Nat.le_refl _),<-jAs om,show days.length-(d+1)+1=days.length-d from by omega];refine jV (zN (zN (zY (zD (zL (zA J J (zA J J (zA J J (zA J J (jO (j:=d) J J J Tryz.underlying35 F.ti23 om om (jM (v:=.slice A xs.length c) J J F.one23 (fun a w ha=>jQ ha (InR.mem (A:=some ⟨b21,0,none⟩)) J (zo1 (zEu _ _ _ _))) (zA J J (kB (vs:=[(0,_)]) J J Tryz.underlying23 F.ti3 J J J ?_)))))))))))));intro b165;refine kI J J J Tryz.underlying23 F.ti3 J J J (by unfold maxLen;omega) om ?_;intro A9 c9;refine jO (j:=d) J J J Tryz.underlying35 F.ti23 om om (xZ (A:=some ⟨b21,0,none⟩) (List.replicate d (Value.slice none 0 0)++.slice A9 (xs.length+1) c9::.slice oA ox.length oc::W.map ocell) (show _=some (Value.pointer (some ⟨b21,0+d*1,none⟩)) from rfl) J F.ti23 J (by simp only[List.length_append,List.length_replicate,List.length_cons];omega) (by rw[show 0+d*1=d from by omega];exact zEz _ _ _ _ _) (zB (zJ (zD (zL (zA J J (zE J J J bdO (zF J J (zB (kS (i+1,A9,c9,xs++[encO (bO (lasR fs rp) fs kiln days (days.length-d) mo)]) ⟨by (try dsimp only);omega,?_⟩ tdo sbn (by dsimp only;rw[List.length_append,List.length_singleton,zF2];exact pkk)))))))))));(try dsimp only);exact zBa hml hxs
   ·obtain rfl:i=x1.2.2.length:=om;rw[List.take_of_length_le (by rw[vM];exact Nat.le_refl _),hx1m] at hxs;refine jV (zN (zN (zY (zJ (zD (zL (zA J J (zE J J J (fun w=>qK w (kC _ om om)) (zF J J (zB (kS (d,(A,c,xs)::(oA,oc,ox)::W) ⟨by (try dsimp only);omega,by simp only[List.length_cons] at hWl ⊢;omega,fun i o ho=>?_⟩ tdo sbn (by dsimp only;simp only[List.map_cons,orow,ocell,List.cons_append];exact pkk))))))))))))
    cases i with
    | zero =>
     injection ho with ho;subst ho
     exact hxs
    | succ i =>
     have h:=hW i o ho;rw[h,show d+(i+1)=d+1+i from by omega]
  ·obtain rfl:D=0:=om;have hWL:LS.length=W.length:=om;rw[hWL];exact jV (zN (zN (zY (zD (csr (zA J J (lax J J (zV (zX J (rsO J J) (fun a w ha=>⟨some ⟨b21,0,none⟩,W.length,W,by omega,fun i o h=>by have h:=hW i o h;rwa[Nat.zero_add] at h,rfl,ha.grown (.cons _ (.cons_cons _ (.cons _ (List.sublist_append_left _ _))))⟩))))))))))

end
section
variable {d n sg:Nat} {l:List Nat} {m m1:Mor}
section
variable {las:Mor->Bool} {fs:List Flt} {kiln:Nat} {days:List Nat}
def srO (las:Mor->Bool) (fs:List Flt) (kiln:Nat) (days:List Nat):Srch:=⟨none,none,0,0,kiln,fs,days,0,0,[],[],fun _ _=>true,las⟩
theorem zLb (n:Nat) (m:Mor):(srO las fs kiln days).bst n m=bO las fs kiln days n m:=rfl
theorem zSj (h:d+(n+1)=days.length) (m:Mor) (l:List Nat):(srO las fs kiln days).stp n m l=stO las fs kiln days n d m l:=by
 show stpO (fun _ _=>true) fs kiln days (bO las fs kiln days n) (days.length-(n+1)) m l=_;rw[show days.length-(n+1)=d from by omega]
 rfl
theorem jCw (h:d+(n+1)=days.length) (his:(bO las fs kiln days (n+1) m).is=true) (hs:days[d]?=some sg) (he:(dayE fs kiln m l sg).1≠0):(srO las fs kiln days).stp n m l≠(srO las fs kiln days).bst (n+1) m:=by
 rw[zSj h,zSd hs he,zLb];intro e;rw[<-e] at his
 cases his
theorem jBo (h3:fs.length<=3) (hn:n+1<=4) (hl:l.length<=3) (h:d+(n+1)=days.length) (his:(bO las fs kiln days (n+1) m).is=true) (hs:days[d]?=some sg) (he:dayE fs kiln m l sg=(0,m1)) :
  ((srO las fs kiln days).stp n m l=(srO las fs kiln days).bst (n+1) m)↔(0<=encO (bO las fs kiln days n m1)∧encO (bO las fs kiln days n m1)+((dayC l:Nat):Int)=encO (bO las fs kiln days (n+1) m)):=by
 rw[zSj h,zVl hs he,zLb];have h1:=zCi (las:=las) (kiln:=kiln) (days:=days) h3 n m1;have h2:=zCi (las:=las) (kiln:=kiln) (days:=days) h3 (n+1) m;have h4:=zAu l;have h5:=zAt l;rw[zIi his];unfold dayC
 generalize hr:bO las fs kiln days n m1=r at *
 generalize ho:bO las fs kiln days (n+1) m=o at *
 obtain⟨f,w,b⟩:=r;obtain⟨f',w',b'⟩:=o;dsimp only at h1 h2 his ⊢;subst his
 cases b with
 | false =>
  constructor
  ·intro e;injection e with _ _ e
   cases e
  ·rintro⟨e,_⟩
   exact absurd e (by show ¬(0:Int)<=-1;decide)
 | true =>
  have he:encO ⟨f,w,true⟩=((100*f+w:Nat):Int):=rfl;rw[he]
  constructor
  ·intro e;injection e with e1 e2 _;omega
  ·rintro⟨_,e⟩;have e1:f+spF l=f':=om;have e2:w+spW l=w':=om;rw[e1,e2]
theorem zRw {α:Type} {p:α->Bool}:∀{l:List α} {k:Nat} {x:α},l[k]?=some x->(∀j y,j<k->l[j]?=some y->p y=false)->p x=true->l.find? p=some x
 | [],k,x,h,_,_=>by simp at h
 | a::l,0,x,h,_,hp=>by
  simp at h;subst h
  rw[List.find?_cons,hp]
 | a::l,k+1,x,h,hno,hp=>by
  rw[List.find?_cons,hno 0 a om J];exact zRw (by simpa using h) (fun j y hj hy=>hno (j+1) y om (by simpa using hy)) hp
theorem jA9 {k:Nat} (hl:(exts [] fs.length)[k]?=some l) (hno:∀j x,j<k->(exts [] fs.length)[j]?=some x->(srO las fs kiln days).stp n m x≠(srO las fs kiln days).bst (n+1) m) (hy:(srO las fs kiln days).stp n m l=(srO las fs kiln days).bst (n+1) m):(srO las fs kiln days).pick n m=l:=by
 unfold Srch.pick;show ((exts [] fs.length).find? _).getD []=l;rw[zRw hl (fun j y hj h=>decide_eq_false (hno j y hj h)) (decide_eq_true hy)]
 rfl
def planN (las:Mor->Bool) (fs:List Flt) (kiln:Nat) (days:List Nat):List (List Nat):=(srO las fs kiln days).planL days.length (start fs)
def isAt (las:Mor->Bool) (fs:List Flt) (kiln:Nat) (days:List Nat) (d:Nat) (done:List (List Nat)) (m:Mor):Prop :=
 planN las fs kiln days=done++(srO las fs kiln days).planL (days.length-d) m∧done.length=d∧(bO las fs kiln days (days.length-d) m).is=true
theorem zUo (h:(bO las fs kiln days days.length (start fs)).is=true):isAt las fs kiln days 0 [] (start fs):=⟨by rw[Nat.sub_zero];rfl,rfl,by rw[Nat.sub_zero];exact h⟩
theorem zU9 {done:List (List Nat)} (hd:d<days.length) (h:isAt las fs kiln days d done m) (hs:days[d]?=some sg) (hp:(srO las fs kiln days).pick (days.length-(d+1)) m=l) (he:dayE fs kiln m l sg=(0,m1)) (hi:0<=encO (bO las fs kiln days (days.length-(d+1)) m1)):isAt las fs kiln days (d+1) (done++[l]) m1:=by
 obtain⟨h1,h2,h3⟩:=h
 refine⟨?_,by rw[List.length_append,h2];rfl,?_⟩
 ·rw[h1,List.append_assoc]
  congr 1
  obtain⟨n,hn⟩:∃n,days.length-d=n+1:=⟨days.length-d-1,by omega⟩;rw[show days.length-(d+1)=n from by omega] at hp ⊢;rw[hn];show (srO las fs kiln days).pick n m::(srO las fs kiln days).planL n ((srO las fs kiln days).nxt n m ((srO las fs kiln days).pick n m)).2=l::(srO las fs kiln days).planL n m1;rw[hp]
  congr 2
  show (dayE fs kiln m l (days.getD (days.length-(n+1)) 0)).2=m1;rw[show days.length-(n+1)=d from by omega,List.getD_eq_getElem?_getD,hs];show (dayE fs kiln m l sg).2=m1;rw[he]
 ·unfold encO at hi
  split at hi
  ·assumption
  ·omega
theorem zY2 (hd:d<days.length) (his:(bO las fs kiln days (days.length-d) m).is=true):∃(k:Nat) (l:List Nat),(exts [] fs.length)[k]?=some l∧(srO las fs kiln days).stp (days.length-(d+1)) m l=(srO las fs kiln days).bst (days.length-(d+1)+1) m:=by
 obtain⟨l,hl,h⟩:=Srch.has (s:=srO las fs kiln days) (n:=days.length-(d+1)) (m:=m) (by rw[zLb,show days.length-(d+1)+1=days.length-d from by omega];exact his);obtain⟨k,hk⟩:=List.getElem?_of_mem hl;exact⟨k,l,hk,h⟩
end
theorem zZ3 {fs:List Flt} {kiln:Nat} {days:List Nat}:∀n m,(srO (fun _=>true) fs kiln days).planL n m=(anyS none none 0 0 kiln fs days).planL n m
 | 0,_=>rfl
 | n+1,_m=>congrArg (List.cons _) (zZ3 n _)
theorem zQl {fs:List Flt} {kiln:Nat} {days:List Nat}:∀n m,(srO (agnL (start fs)) fs kiln days).planL n m=(agnS none none 0 0 kiln fs days 0).planL n m
 | 0,_=>rfl
 | n+1,_m=>congrArg (List.cons _) (zQl n _)
end
section
variable [I:Sys]
theorem F.ent98:Enters TP 98:=jD Tryz.func98 rfl kr
set_option maxHeartbeats 1000000 in
theorem zVu {fA dA:Option Addr} {fc dc kiln:Nat} {fs:List Flt} {days:List Nat} (hc:ChW fs kiln days) {rp:Bool} (w:World) (hF:RdL Flt.cells 4 w fA fs) (hD:RdL ncell 1 w dA days):Calls TP 64 #[(CG fA fs.length fc kiln dA days.length dc),.bool rp] w fun e w'=>∃(A:Option Addr) (c:Nat) (R S:List Meta),(((bO (lasR fs rp) fs kiln days days.length (start fs)).is=true∧R.map (·.2.2)=planN (lasR fs rp) fs kiln days)∨((bO (lasR fs rp) fs kiln days days.length (start fs)).is=false∧R=[]∧A=none∧c=0))∧(∀m∈R,m∈S)∧e=.returned (.tuple #[.slice A R.length c,.int .i64 (encO (bO (lasR fs rp) fs kiln days days.length (start fs)))])∧Grew w w' (.row 23 1 A R.length c (R.map mcell)::S.map mrow):=by
 refine enter (N:=120) [(0,(CG fA fs.length fc kiln dA days.length dc)),(1,.bool rp)] Tryz.func64 J Tryz.ntmps64 J J (csr (jT J J ?_));intro b2;refine zF J J (lax J J (csr (zZ J J F.agg25 F.ti25 (kJ (X:=Option Addr×Nat×List LZ) (vs:=[_]) (p:=fun y=>y.2.2.reverse.map lmor=(List.range (days.length+1)).map (fun i=>lvlL fs kiln (days.take i))) (val:=fun y=>.slice y.1 y.2.2.length y.2.1) (rs:=fun y=>.row 109 1 y.1 y.2.2.length y.2.1 (y.2.2.reverse.map lcell)::y.2.2.flatMap (lrow fs.length)) J J F.ent73 (fun a w ha=>(zOv hc w (hF.later ha.below) (hD.later ha.below)).mono (fun e w' h=>by obtain⟨A',c',L',h1,h2,h3⟩:=h;exact⟨(A',c',L'),h1,h2,h3⟩)) ?_))));rintro⟨oA,oc,LS⟩ hLS;dsimp only at hLS ⊢;have hLl:LS.length=days.length+1:=by have h:=congrArg List.length hLS;simpa using h
 refine vL (List.Perm.cons _ List.perm_append_comm) ?_;simp only[List.cons_append,List.nil_append];refine vJ oA om ?_;intro g3 hg3;have hd4:=hc.d4;have hd1:=hc.d1;have hf3:=hc.f3;have hten:=zFd hc.f3;refine lax J J (csr (zZ J J F.agg25 F.ti25 (zA J J (zA J J (kJ (X:=Option Addr×Nat×List OZ) (vs:=[_,_,_]) (p:=fun y=>y.2.2.length=days.length+1∧∀i o,y.2.2[i]?=some o->o.2.2=costL (lasR fs rp) fs kiln days i) (val:=fun y=>.slice y.1 y.2.2.length y.2.1) (rs:=fun y=>.row 23 1 y.1 y.2.2.length y.2.1 (y.2.2.map ocell)::y.2.2.map orow) J J F.ent98 (fun a w ha=>(zSt hc hLS w (hF.later ha.below) (hD.later ha.below) (zPm (c:=oc) ha (InR.mem (A:=oA)) (by intro r hr;repeat (first|exact hr|apply List.Mem.tail)))).mono (fun e w' h=>by obtain⟨A',c',W',h1,h2,h3,h4⟩:=h;exact⟨(A',c',W'),⟨h1,h2⟩,h3,h4⟩)) ?_)))));rintro⟨kA,kc,W⟩ ⟨hWl,hW⟩;dsimp only at hWl hW ⊢;refine vL (List.Perm.cons _ List.perm_append_comm) ?_;simp only[List.cons_append];refine vJ kA om ?_;intro gk hgk;obtain⟨o0,ho0⟩:∃o,W[0]?=some o:=⟨_,List.getElem?_eq_getElem om⟩;have ho1W:=List.mem_of_getElem? ho0;have ho0x:o0.2.2[0]?=some (encO (bO (lasR fs rp) fs kiln days days.length (start fs))):=by rw[hW 0 o0 ho0];rfl
 have ho0l:0<o0.2.2.length:=(List.getElem?_eq_some_iff.1 ho0x).1;refine yD (fun a w ha=>vN (ha.own _ ((show orow o0∈_ from (by (repeat apply List.mem_cons_of_mem);first|exact List.mem_append_right _ (List.mem_map_of_mem ho1W)|exact List.mem_append_left _ (List.mem_append_right _ (List.mem_map_of_mem ho1W)))):Res.row 3 1 o0.1 o0.2.2.length o0.2.1 (zis o0.2.2)∈_)) ho0l) ?_;rintro⟨go,hgo⟩;refine lax J J (csr (zA J J (jO (j:=0) J (show _=some (Value.slice (some ⟨gk,0,none⟩) W.length kc) from by rw[<-hgk];rfl) J Tryz.underlying35 F.ti23 J om (jM (v:=.slice o0.1 o0.2.2.length o0.2.1) J J F.one23 (fun a w ha=>jQ ha (InR.mem (A:=kA)) hgk (by rw[List.getElem?_map,show 0+0*1=0 from rfl,ho0];rfl)) ?_))));refine jO (j:=0) J (show _=some (Value.slice (some ⟨go,0,none⟩) o0.2.2.length o0.2.1) from by rw[<-hgo];rfl) J Tryz.underlying23 F.ti3 J ho0l (jM (v:=.int .i64 (encO (bO (lasR fs rp) fs kiln days days.length (start fs)))) J J F.one3 (fun a w ha=>jQ ha ((show orow o0∈_ from (by (repeat apply List.mem_cons_of_mem);first|exact List.mem_append_right _ (List.mem_map_of_mem ho1W)|exact List.mem_append_left _ (List.mem_append_right _ (List.mem_map_of_mem ho1W)))):Res.row 3 1 o0.1 o0.2.2.length o0.2.1 (zis o0.2.2)∈_) hgo (zAh ho0x)) (lax J J (zG (csr (zA J J (zE J J J jY ?_))))))
 refine lnx (zK J (fun hc0=>?_) (fun hc0=>?_))
 ·refine csr (zF J J (lax J J (zV (zU ?_))))
  exact zX J (fun a w ha=>xN J J J ha) (fun a w ha=>⟨none,0,[],[],.inr ⟨by
   cases h:(bO (lasR fs rp) fs kiln days days.length (start fs)).is with
   | false=>rfl
   | true=>rw[zIi h] at hc0;omega,rfl,rfl,rfl⟩,fun _ h=>(nomatch h),by
   have h9:=zKd (bO (lasR fs rp) fs kiln days days.length (start fs));rw[show (encO (bO (lasR fs rp) fs kiln days days.length (start fs)))=-1 from by omega]
   rfl,(ha.add_nil 23 1).grown (.cons_cons _ nsl)⟩)
 ·refine zO (zD (csr (lax J J (csr (zA J J (zF J J (lax J J (csr (zI J J F.fi25_0 F.ti22 (zS J J F.one22 (jR J J U22 (kJ (X:=Option Addr×Nat×List Meta) (vs:=[_]) (p:=fun y=>y.2.2.reverse.map (·.2.2)=exts [] fs.length) (val:=fun y=>.slice y.1 y.2.2.length y.2.1) (rs:=fun y=>.row 23 1 y.1 y.2.2.length y.2.1 (y.2.2.reverse.map mcell)::y.2.2.map mrow) J J F.ent75 (fun a w ha=>(zHn fs.length hc.f3 w).mono (fun e w' h=>by obtain⟨A',c',S',h1,h2,h3⟩:=h;exact⟨(A',c',S'),h1,h2,h3⟩)) ?_))))))))))));rintro⟨A4,c4,S⟩ hS;dsimp only at hS ⊢;have hSl:S.length=4^fs.length:=by have h:=congrArg List.length hS;rw[vC] at h;simpa using h
  have hS64:=Nat.pow_le_pow_right (n:=4) (by decide) hc.f3;have hS0:0<4^fs.length:=Nat.pow_pos (by decide);refine vL (List.Perm.cons _ List.perm_append_comm) ?_;simp only[List.cons_append];refine vJ A4 om ?_;intro g4 hg4;refine lax J J (zG (csr (lax J J (zQ ?_))))
  have his:(bO (lasR fs rp) fs kiln days days.length (start fs)).is=true:=by
   cases h:(bO (lasR fs rp) fs kiln days days.length (start fs)).is with
   | true=>rfl
   | false =>
    refine absurd ?_ hc0;unfold encO;rw[h,if_neg Bool.false_ne_true]
    decide
  refine wK 23 1 (qU (G:=Nat×Nat×Mor×Option Addr×Nat×List Meta) (fun g=>g.1<=days.length∧isAt (lasR fs rp) fs kiln days g.1 (g.2.2.2.2.2.map (·.2.2)) g.2.2.1∧(lvlL fs kiln (days.take g.1))[g.2.1]?=some g.2.2.1∧∀m∈g.2.2.2.2.2,m∈S) (fun g=>days.length-g.1) (fun g=>[(2,pt b2),(6,.slice oA LS.length oc),(7,.slice kA W.length kc),(8,.int .i64 (encO (bO (lasR fs rp) fs kiln days days.length (start fs)))),(9,.slice g.2.2.2.1 g.2.2.2.2.2.length g.2.2.2.2.1),(10,.int .i64 (g.2.1:Int)),(11,.int .i64 (encO (bO (lasR fs rp) fs kiln days (days.length-g.1) g.2.2.1))),(12,.slice A4 S.length c4),(13,.int .i64 (g.1:Int))]) (fun g=>.row 23 1 g.2.2.2.1 g.2.2.2.2.2.length g.2.2.2.2.1 (g.2.2.2.2.2.map mcell)::.row 23 1 A4 S.length c4 (S.reverse.map mcell)::.row 23 1 kA W.length kc (W.map ocell)::.row 109 1 oA LS.length oc (LS.reverse.map lcell)::.blk b2 (CO fA fs.length fc kiln dA days.length dc 25)::((LS.flatMap (lrow fs.length)++W.map orow)++S.map mrow)) (0,0,start fs,none,0,[]) ⟨Nat.zero_le _,zUo his,rfl,fun _ h=>(nomatch h)⟩ sbn pkk ?_);rintro⟨d,a9,mo,pA,pc,R⟩ ⟨hd0,hat,hla,hRS⟩;dsimp only at hd0 hat hla hRS ⊢;refine zG (csr (zA J J (zI J J F.fi25_2 F.ti23 (zS J J F.one23 (jR J J U23 (zE J J J jY ?_))))))
  refine lnx (zK J (fun hc1=>?_) (fun hc1=>?_))
  ·have hd:d<days.length:=om;have hRl:R.length=d:=by have h:=hat.2.1;rwa[List.length_map] at h
   obtain⟨bd,bo,hdA,hbd,hcd⟩:=hD om;obtain⟨sg,hsg⟩:∃y,days[d]?=some y:=⟨_,List.getElem?_eq_getElem hd⟩;have hsg12:=hc.dd sg (List.mem_of_getElem? hsg);obtain⟨x1,hx1⟩:∃y,LS.reverse[d]?=some y:=⟨_,List.getElem?_eq_getElem (by simp;omega)⟩;have hx1L:x1∈LS:=List.mem_reverse.1 (List.mem_of_getElem? hx1)
   have hx1m:lmor x1=lvlL fs kiln (days.take (d)):=by
    have h:=qR hLS hx1;rw[List.getElem?_map,List.getElem?_range om] at h;injection h with h;exact h.symm
   have hx1n:x1.2.2.length<=1000:=by
    rw[<-vM,hx1m];exact zBo hc _
   have hx1k:∀y∈x1.2.2,MOk y.2.2∧Thin fs.length y.2.2:=fun y hy=>by
    have h:y.2.2∈lvlL fs kiln (days.take (d)):=hx1m▸List.mem_map_of_mem (List.mem_reverse.2 hy);exact wS hc h
   obtain⟨x2,hx2⟩:∃y,LS.reverse[d+1]?=some y:=⟨_,List.getElem?_eq_getElem (by simp;omega)⟩;have hx2L:x2∈LS:=List.mem_reverse.1 (List.mem_of_getElem? hx2)
   have hx2m:lmor x2=lvlL fs kiln (days.take (d+1)):=by
    have h:=qR hLS hx2;rw[List.getElem?_map,List.getElem?_range om] at h;injection h with h;exact h.symm
   have hx2n:x2.2.2.length<=1000:=by
    rw[<-vM,hx2m];exact zBo hc _
   have hx2k:∀y∈x2.2.2,MOk y.2.2∧Thin fs.length y.2.2:=fun y hy=>by
    have h:y.2.2∈lvlL fs kiln (days.take (d+1)):=hx2m▸List.mem_map_of_mem (List.mem_reverse.2 hy);exact wS hc h
   obtain⟨y,hy,hym⟩:∃y,x1.2.2.reverse[a9]?=some y∧y.2.2=mo:=by
    rw[<-hx1m] at hla;unfold lmor at hla;rw[List.getElem?_map] at hla;exact Option.map_eq_some_iff.1 hla
   have hla2:a9<x1.2.2.length:=by have h:=(List.getElem?_eq_some_iff.1 hy).1;simpa using h
   have hyx:y∈x1.2.2:=List.mem_reverse.1 (List.mem_of_getElem? hy);have hmv:mo∈lvlL fs kiln (days.take d):=List.mem_of_getElem? hla;obtain⟨hmok,hmth⟩:=wS hc hmv;obtain⟨⟨sA,sc⟩,⟨wA,wc⟩,mo'⟩:=y;dsimp only at hym;subst hym;obtain⟨o1,ho1⟩:∃o,W[d+1]?=some o:=⟨_,List.getElem?_eq_getElem om⟩;have ho1W:=List.mem_of_getElem? ho1;have hoc:=hW (d+1) o1 ho1;refine zO (zD (zG (zQ (zG (jS [] F.follows 10 J (fl 10) J (anm 0 J J J (anm 1 J J J (zC 2 J J J (kW (v:=.int .i64 ((d+1:Nat):Int)) J J bdP) (zC 3 J J J (jG (j:=d+1) (show _=some (Value.slice (some ⟨g3,0,none⟩) LS.length oc) from by rw[<-hg3];rfl) J Tryz.underlying104 F.ti109 om om) (zC 4 J J J (jC (v:=.slice x2.1 x2.2.2.length x2.2.1) J F.one109 (fun a w ha=>jQ ha (InR.mem (A:=oA)) hg3 (zo1 (yM hx2)))) (zC 5 J J J (zP J F.fi25_0 F.ti22) (zC 6 J J J (jJ J F.one22) (zC 7 J J J (vQ J Tryz.underlying22) (an1 8 J ?_))))))))))))))
   refine kJ (X:=Nat) (vs:=[_,_]) (p:=fun _=>True) (val:=fun y=>.slice (some ⟨y,0,none⟩) (ten fs.length) (ten fs.length)) (rs:=fun y=>[.row 3 1 (some ⟨y,0,none⟩) (ten fs.length) (ten fs.length) (zis (tabK (ten fs.length) (cods fs.length x2.2.2.reverse) x2.2.2.length))]) J J F.ent76 (fun a w ha=>?_) ?_
   ·have h:=zGa (l:=x2.2.2.reverse) (A:=x2.1) (c:=x2.2.1) hc.f3 (fun y hy=>(hx2k y (List.mem_reverse.1 hy)).1) (by rw[List.length_reverse];omega) w (yI ha (x:=x2) (n:=fs.length) (by intro r hr;(repeat apply List.mem_cons_of_mem);exact List.mem_append_left _ (List.mem_append_left _ (List.mem_flatMap.2 ⟨x2,hx2L,hr⟩))));rw[List.length_reverse] at h;exact h.mono (fun e w' h=>by obtain⟨b,h1,h2⟩:=h;exact⟨b,trivial,h1,h2⟩)
   rintro bt -;dsimp only[List.cons_append,List.nil_append];refine zB (anb (zC 9 J J J (jP J) (adn (zD (csr (lax J J (zQ (qT (G:=Nat) (fun k=>k<=S.length∧∀j x,j<k->(exts [] fs.length)[j]?=some x->(srO (lasR fs rp) fs kiln days).stp (days.length-(d+1)) mo' x≠(srO (lasR fs rp) fs kiln days).bst ((days.length-(d+1))+1) mo') (fun k=>S.length-k) (fun k=>[(2,pt b2),(6,.slice oA LS.length oc),(7,.slice kA W.length kc),(8,.int .i64 (encO (bO (lasR fs rp) fs kiln days days.length (start fs)))),(9,.slice pA R.length pc),(10,.int .i64 (a9:Int)),(11,.int .i64 (encO (bO (lasR fs rp) fs kiln days (days.length-d) mo'))),(12,.slice A4 S.length c4),(13,.int .i64 (d:Int)),(14,.slice (some ⟨bt,0,none⟩) (ten fs.length) (ten fs.length)),(15,.int .i64 (k:Int))]) (fun k=>.row 3 1 (some ⟨bt,0,none⟩) (ten fs.length) (ten fs.length) (zis (tabK (ten fs.length) (cods fs.length x2.2.2.reverse) x2.2.2.length))::.row 23 1 pA R.length pc (R.map mcell)::.row 23 1 A4 S.length c4 (S.reverse.map mcell)::.row 23 1 kA W.length kc (W.map ocell)::.row 109 1 oA LS.length oc (LS.reverse.map lcell)::.blk b2 (CO fA fs.length fc kiln dA days.length dc 25)::((LS.flatMap (lrow fs.length)++W.map orow)++S.map mrow)) 0 ⟨Nat.zero_le _,fun j _ h=>absurd h (Nat.not_lt_zero _)⟩ sbn sbl ?_))))))));rintro k ⟨hk0,hno⟩;(try dsimp only);refine zG (csr (yD (fun a w ha=>vN (ha.own _ ((show ∀r∈lrow fs.length x1,r∈_ from (by intro r hr;(repeat apply List.mem_cons_of_mem);exact List.mem_append_left _ (List.mem_append_left _ (List.mem_flatMap.2 ⟨x1,hx1L,hr⟩)))) _ (List.mem_cons_self ..))) om) ?_));rintro⟨gx,hgx⟩;refine zA J J (zA J J (jR J J U35 (zE J J J jY ?_)))
   refine lnx (zK J (fun hc2=>?_) (fun hc2=>?_))
   ·have hk:k<S.length:=om;obtain⟨s,hs⟩:∃y,S.reverse[k]?=some y:=⟨_,List.getElem?_eq_getElem (by simp;omega)⟩;have hsS:s∈S:=List.mem_reverse.1 (List.mem_of_getElem? hs);have hsl:(exts [] fs.length)[k]?=some s.2.2:=qR hS hs;have hsn:s.2.2.length=fs.length:=by rw[vW _ _ _ (List.mem_of_getElem? hsl),List.length_nil];omega
    have hs3:s.2.2.length<=3:=by have:=hc.f3;omega
    have hdc:=zLi hs3;have hnd:d+((days.length-(d+1))+1)=days.length:=om
    have hbi:(bO (lasR fs rp) fs kiln days ((days.length-(d+1))+1) mo').is=true:=by
     have h:=hat.2.2
     rwa[show days.length-d=(days.length-(d+1))+1 from by omega] at h
    refine zO (zD (zG (zQ (zG ?_))));rcases hDy:dayE fs kiln mo' s.2.2 sg with ⟨e,m1⟩
    obtain rfl|⟨er,rfl⟩:e=0∨∃er,e=er+1:=by
     cases e with
     | zero=>exact .inl rfl
     | succ er=>exact .inr ⟨er,rfl⟩
    ·refine qF (G:=Nat×(Option Addr×Nat)×(Option Addr×Nat)) (fun _=>True) (fun g=>[(16,.pointer (some ⟨g.1,0,none⟩)),(17,.int .i64 0),(2,pt b2),(6,.slice oA LS.length oc),(7,.slice kA W.length kc),(8,.int .i64 (encO (bO (lasR fs rp) fs kiln days days.length (start fs)))),(9,.slice pA R.length pc),(10,.int .i64 (a9:Int)),(11,.int .i64 (encO (bO (lasR fs rp) fs kiln days (days.length-d) mo'))),(12,.slice A4 S.length c4),(13,.int .i64 (d:Int)),(14,.slice (some ⟨bt,0,none⟩) (ten fs.length) (ten fs.length)),(15,.int .i64 (k:Int))]) (fun g=>.row 3 1 g.2.1.1 fs.length g.2.1.2 (ints (sts fs.length m1))::.row 4 1 g.2.2.1 fs.length g.2.2.2 (bools (wbs fs.length m1))::.blk g.1 (.cells #[.slice g.2.1.1 fs.length g.2.1.2,.slice g.2.2.1 fs.length g.2.2.2] 112 (0,0))::.row 3 1 (some ⟨bt,0,none⟩) (ten fs.length) (ten fs.length) (zis (tabK (ten fs.length) (cods fs.length x2.2.2.reverse) x2.2.2.length))::.row 23 1 pA R.length pc (R.map mcell)::.row 23 1 A4 S.length c4 (S.reverse.map mcell)::.row 23 1 kA W.length kc (W.map ocell)::.row 109 1 oA LS.length oc (LS.reverse.map lcell)::.blk b2 (CO fA fs.length fc kiln dA days.length dc 25)::((LS.flatMap (lrow fs.length)++W.map orow)++S.map mrow)) ?_ ?_
     ·refine jS [] F.follows 24 J (fl 24) J (zC 0 J J J (kR J F.agg25 F.ti25) (zC 1 J J J (zP J F.fi25_2 F.ti23) (zC 2 J J J (jJ J F.one23) (anm 3 J J J (zC 4 J J J (jG (j:=d) (show _=some (Value.slice (some ⟨bd,bo,none⟩) days.length dc) from by rw[<-hdA];rfl) J Tryz.underlying23 F.ti3 J hd) (zC 5 J J J (jC (v:=.int .i64 (sg:Int)) J F.one3 (fun a w ha=>ha.old (hcd d _ hsg 0 _ J) hbd)) (anm 6 J J J (anm 7 J J J (zC 8 J J J (jG (j:=d) (show _=some (Value.slice (some ⟨g3,0,none⟩) LS.length oc) from by rw[<-hg3];rfl) J Tryz.underlying104 F.ti109 om om) (zC 9 J J J (jC (v:=.slice x1.1 x1.2.2.length x1.2.1) J F.one109 (fun a w ha=>jQ ha (InR.mem (A:=oA)) hg3 (zo1 (yM hx1)))) (anm 10 J J J (zC 11 J J J (jG (j:=a9) (show _=some (Value.slice (some ⟨gx,0,none⟩) x1.2.2.length x1.2.1) from by rw[<-hgx];rfl) J Tryz.underlying109 F.ti112 J hla2) ?_))))))))))))
      refine zAo 12 J J J kr kr kr sbl (qW (l:=[.slice sA fs.length sc,.slice wA fs.length wc]) J F.agg112 F.ti112 J (fun a w ha j u hu=>by
       obtain⟨b9,o9,h1,_,h3⟩:=(yI ha (x:=x1) (n:=fs.length) (by intro r hr;(repeat apply List.mem_cons_of_mem);exact List.mem_append_left _ (List.mem_append_left _ (List.mem_flatMap.2 ⟨x1,hx1L,hr⟩)))).outer (by simp;omega);rw[hgx] at h1
       cases h1
       exact h3 a9 _ hy j u hu)) J ?_
      refine anm 13 J J J (anm 14 J J J (zC 15 J J J (jG (j:=k) (show _=some (Value.slice (some ⟨g4,0,none⟩) S.length c4) from by rw[<-hg4];rfl) J Tryz.underlying35 F.ti23 J hk) (zC 16 J J J (jC (v:=.slice s.1 s.2.2.length s.2.1) J F.one23 (fun a w ha=>jQ ha (InR.mem (A:=A4)) hg4 (zo1 (xM hs)))) ?_)))
      refine qG 17 21 kr J J J J ?_ ?_
      ·refine kJ (X:=(Option Addr×Nat)×(Option Addr×Nat)) (vs:=[_,_,_,_]) (p:=fun _=>True) (val:=fun y=>.tuple #[.agg (mmc fs.length (y.1,y.2,m1)).toArray,.int .i64 0]) (rs:=fun y=>mmr fs.length (y.1,y.2,m1)) J J F.ent77 (fun a w ha=>(yB (nd:=days.length) (dA:=dA) (dc:=dc) hc.f3 hc.ff hmok hsn om w (hF.later ha.below) ((yI ha (x:=x1) (n:=fs.length) (by intro r hr;(repeat apply List.mem_cons_of_mem);exact List.mem_append_left _ (List.mem_append_left _ (List.mem_flatMap.2 ⟨x1,hx1L,hr⟩)))).inner _ (List.mem_reverse.2 hyx)) (xR ha (by (repeat apply List.mem_cons_of_mem);exact List.mem_append_right _ (List.mem_map_of_mem hsS)))).mono (fun e w' h=>by
        rw[hDy] at h;rcases h with ⟨_,sA,sc,wA,wc,h1,h2⟩|⟨h0,_⟩
        ·exact⟨((sA,sc),(wA,wc)),trivial,h1,h2⟩
        ·exact absurd J h0)) ?_
       rintro⟨⟨qA,qc⟩,⟨uA,uc⟩⟩ -;dsimp only[mmc,mmr,List.cons_append,List.nil_append];refine zB (anb (anm 18 J J J (zC 19 J J J (jN J J) (zC 20 J J J (jN J J) (an1 21 J (zW J F.ti112 ?_))))));intro b16;exact zB (anb (an1 22 J (zH J J F.ti112 J (zB (anb (zC 23 J J J (jP J) (adn (jK (b16,(qA,qc),(uA,uc)) trivial sbn pkk))))))))
      ·refine zW J F.ti112 ?_;intro b16;refine zB (anb (an1 17 J ?_))
       refine kJ (X:=(Option Addr×Nat)×(Option Addr×Nat)) (vs:=[_,_,_,_]) (p:=fun _=>True) (val:=fun y=>.tuple #[.agg (mmc fs.length (y.1,y.2,m1)).toArray,.int .i64 0]) (rs:=fun y=>mmr fs.length (y.1,y.2,m1)) J J F.ent77 (fun a w ha=>(yB (nd:=days.length) (dA:=dA) (dc:=dc) hc.f3 hc.ff hmok hsn om w (hF.later ha.below) ((yI ha (x:=x1) (n:=fs.length) (by intro r hr;(repeat apply List.mem_cons_of_mem);exact List.mem_append_left _ (List.mem_append_left _ (List.mem_flatMap.2 ⟨x1,hx1L,hr⟩)))).inner _ (List.mem_reverse.2 hyx)) (xR ha (by (repeat apply List.mem_cons_of_mem);exact List.mem_append_right _ (List.mem_map_of_mem hsS)))).mono (fun e w' h=>by
        rw[hDy] at h;rcases h with ⟨_,sA,sc,wA,wc,h1,h2⟩|⟨h0,_⟩
        ·exact⟨((sA,sc),(wA,wc)),trivial,h1,h2⟩
        ·exact absurd J h0)) ?_
       rintro⟨⟨qA,qc⟩,⟨uA,uc⟩⟩ -;dsimp only[mmc,mmr,List.cons_append,List.nil_append];exact zB (anb (anm 18 J J J (zC 19 J J J (jN J J) (zC 20 J J J (jN J J) (an1 22 J (zH J J F.ti112 J (zB (anb (zC 23 J J J (jP J) (adn (jK (b16,(qA,qc),(uA,uc)) trivial sbn pkk)))))))))))
     ·rintro⟨b16,⟨qA,qc⟩,⟨uA,uc⟩⟩ -;(try dsimp only)
      have h1ok:MOk m1:=by
       have h:=(yQ (kiln:=kiln) (acts:=s.2.2) (sugar:=sg) hc.ff hmok om hc.f3).1;rw[hDy] at h;exact h
      refine zD (zG (csr (zA J J (zE (v:=.bool false) J J J (fun w=>by rw[kT,decide_eq_false om]) (lnx (kL J (zO (zD (csr (zA J J (zZ J J F.agg112 F.ti112 (jE (v:=.int .i64 ((cdM m1 fs.length:Nat):Int)) (vs:=[_]) J J F.ent78 (fun a w ha=>zCd hc.f3 h1ok w (zGe ha (x:=((qA,qc),(uA,uc),m1)) (by intro r hr;simp only[mmr,List.mem_cons,List.not_mem_nil,or_false] at hr;rcases hr with rfl|rfl<;>simp))) ?_))))))))))));have hm1v:=zGi hsg hmv (List.mem_of_getElem? hsl) hDy;obtain⟨jj,hjt,hjl⟩:=zLj hc hx2m hm1v;have hlt:cdM m1 fs.length<ten fs.length:=zC0 h1ok _
      have hoj:o1.2.2[jj]?=some (encO (bO (lasR fs rp) fs kiln days (days.length-(d+1)) m1)):=by
       rw[hoc];unfold costL;rw[List.getElem?_map,hjl]
       rfl
      have hjx:jj<o1.2.2.length:=(List.getElem?_eq_some_iff.1 hoj).1
      
      have hbl9:=zCi (las:=(lasR fs rp)) (kiln:=kiln) (days:=days) hf3 (days.length-(d+1)) m1;have hnv1:=zKd (bO (lasR fs rp) fs kiln days (days.length-(d+1)) m1);have hnv2:=zPo hbl9;have hpk:=jBo (las:=(lasR fs rp)) (kiln:=kiln) (m:=mo') hf3 om hs3 hnd hbi hsg hDy;rw[show (days.length-(d+1))+1=days.length-d from by omega] at hpk;refine yD (fun a w ha=>vN (ha.own _ ((show orow o1∈_ from (by (repeat apply List.mem_cons_of_mem);first|exact List.mem_append_right _ (List.mem_map_of_mem ho1W)|exact List.mem_append_left _ (List.mem_append_right _ (List.mem_map_of_mem ho1W)))):Res.row 3 1 o1.1 o1.2.2.length o1.2.1 (zis o1.2.2)∈_)) om) ?_;rintro⟨go,hgo⟩;refine jO (j:=cdM m1 fs.length) J J J Tryz.underlying23 F.ti3 J hlt (jM (v:=.int .i64 (jj:Int)) J J F.one3 (fun a w ha=>jQ ha (InR.mem (A:=some ⟨bt,0,none⟩)) J (by rw[show 0+cdM m1 fs.length*1=cdM m1 fs.length from by omega];exact zAh hjt)) (lax J J (csr (zA J J (zA J J (zE (v:=.int .i64 ((d+1:Nat):Int)) J J J bdP (jO (j:=d+1) J (show _=some (Value.slice (some ⟨gk,0,none⟩) W.length kc) from by rw[<-hgk];rfl) J Tryz.underlying35 F.ti23 om om (jM (v:=.slice o1.1 o1.2.2.length o1.2.1) J J F.one23 (fun a w ha=>jQ ha (InR.mem (A:=kA)) hgk (by rw[List.getElem?_map,show 0+(d+1)*1=d+1 from by omega,ho1];rfl)) ?_))))))));refine zA J J (jO (j:=jj) J (show _=some (Value.slice (some ⟨go,0,none⟩) o1.2.2.length o1.2.1) from by rw[<-hgo];rfl) J Tryz.underlying23 F.ti3 J hjx (jM (v:=.int .i64 (encO (bO (lasR fs rp) fs kiln days (days.length-(d+1)) m1))) J J F.one3 (fun a w ha=>jQ ha ((show orow o1∈_ from (by (repeat apply List.mem_cons_of_mem);first|exact List.mem_append_right _ (List.mem_map_of_mem ho1W)|exact List.mem_append_left _ (List.mem_append_right _ (List.mem_map_of_mem ho1W)))):Res.row 3 1 o1.1 o1.2.2.length o1.2.1 (zis o1.2.2)∈_) hgo (zo1 (zAh hoj))) ?_))
      refine lax J J (csr (vU 13 108 (.bool (decide (0<=encO (bO (lasR fs rp) fs kiln days (days.length-(d+1)) m1)∧encO (bO (lasR fs rp) fs kiln days (days.length-(d+1)) m1)+((dayC s.2.2:Nat):Int)=(encO (bO (lasR fs rp) fs kiln days (days.length-d) mo'))))) ?_ ?_))
      ·refine zA J J (zE J J J zFb ?_)
       refine zA J J (xU (t:=98) J (fun hg98=>?_) (fun hg98=>?_))
       ·exact zM J J (zA J J (zM J J (zA J J (zM J J (zA J J (zM J J (jO (j:=k) J (show _=some (Value.slice (some ⟨g4,0,none⟩) S.length c4) from by rw[<-hg4];rfl) J Tryz.underlying35 F.ti23 J hk (zM J J (jM (v:=.slice s.1 s.2.2.length s.2.1) J J F.one23 (fun a w ha=>jQ ha (InR.mem (A:=A4)) hg4 (zo1 (xM hs))) (zM J J (jE (v:=.int .i64 ((dayC s.2.2:Nat):Int)) (vs:=[_]) J J F.ent79 (fun a w ha=>zId hs3 w (xR ha (by (repeat apply List.mem_cons_of_mem);exact List.mem_append_right _ (List.mem_map_of_mem hsS)))) (zM J J (zE J J J bdO (zM J J (zA J J (zM J J (zE J J J kD (jH J J J (zB (qN (.cons bxx sbn) sbl))))))))))))))))))))
       ·exact zR J J J (zR J J J (zR J J J (zR J J J (zR J J J (zR J J J (zR J J J (zR J J J (zR J J J (jU J J J (zB (qN (.cons bxx sbn) sbl)))))))))))
      refine lnx (zK J (fun hc4=>?_) (fun hc4=>?_))
      ·refine csr (zA J J (zA J J (zA J J (jO (j:=k) J (show _=some (Value.slice (some ⟨g4,0,none⟩) S.length c4) from by rw[<-hg4];rfl) J Tryz.underlying35 F.ti23 J hk (jM (v:=.slice s.1 s.2.2.length s.2.1) J J F.one23 (fun a w ha=>jQ ha (InR.mem (A:=A4)) hg4 (zo1 (xM hs))) (kB (vs:=[(0,_)]) J J Tryz.underlying35 F.ti23 J J J ?_))))));intro b114;refine kI J J J Tryz.underlying35 F.ti23 J J J (by unfold maxLen;omega) om ?_;intro A9 c9;refine lax J J (csr (zA J J (zA J J (zF J J (lax J J (jV (wE J (zN (zN (zY (zJ (zD (zL (zA J J (zE J J J bdO (zF J J (zB ?_)))))))))))))))));have hpick:(srO (lasR fs rp) fs kiln days).pick (days.length-(d+1)) mo'=s.2.2:=jA9 hsl hno (by rw[show (days.length-(d+1))+1=days.length-d from by omega];exact hpk.2 hc4)
       refine kS (d+1,jj,m1,A9,c9,R++[s]) ⟨by (try dsimp only);omega,?_,?_,fun m hm=>?_⟩ tdo (by dsimp only;rw[List.length_append,List.length_singleton];exact sbn) (by dsimp only;rw[List.length_append,List.length_singleton,List.map_append];exact pkk)
       ·(try dsimp only);rw[List.map_append];exact zU9 hd hat hsg hpick hDy hc4.1
       ·exact hjl
       ·rcases List.mem_append.1 hm with hm|hm
        ·exact hRS m hm
        ·rw[List.mem_singleton] at hm;rw[hm];exact hsS
      ·refine zO (zJ (zD (zL (zA J J (zE J J J bdO (zF J J (zB (kV (k+1) ⟨by (try dsimp only);omega,fun j x hj hx=>?_⟩ tdo sbn sbl))))))))
       rcases Nat.lt_or_ge j k with h|h
       ·exact hno j x h hx
       ·obtain rfl:k=j:=om;rw[hsl] at hx
        cases hx
        rw[show (days.length-(d+1))+1=days.length-d from by omega];exact fun h=>hc4 (hpk.1 h)
    ·refine qF (G:=Nat) (fun _=>True) (fun g=>[(16,pt g),(17,.int .i64 ((er+1:Nat):Int)),(2,pt b2),(6,.slice oA LS.length oc),(7,.slice kA W.length kc),(8,.int .i64 (encO (bO (lasR fs rp) fs kiln days days.length (start fs)))),(9,.slice pA R.length pc),(10,.int .i64 (a9:Int)),(11,.int .i64 (encO (bO (lasR fs rp) fs kiln days (days.length-d) mo'))),(12,.slice A4 S.length c4),(13,.int .i64 (d:Int)),(14,.slice (some ⟨bt,0,none⟩) (ten fs.length) (ten fs.length)),(15,.int .i64 (k:Int))]) (fun g=>.blk g (.cells #[.slice none 0 0,.slice none 0 0] 112 (0,0))::.row 3 1 (some ⟨bt,0,none⟩) (ten fs.length) (ten fs.length) (zis (tabK (ten fs.length) (cods fs.length x2.2.2.reverse) x2.2.2.length))::.row 23 1 pA R.length pc (R.map mcell)::.row 23 1 A4 S.length c4 (S.reverse.map mcell)::.row 23 1 kA W.length kc (W.map ocell)::.row 109 1 oA LS.length oc (LS.reverse.map lcell)::.blk b2 (CO fA fs.length fc kiln dA days.length dc 25)::((LS.flatMap (lrow fs.length)++W.map orow)++S.map mrow)) ?_ ?_
     ·refine jS [] F.follows 24 J (fl 24) J (zC 0 J J J (kR J F.agg25 F.ti25) (zC 1 J J J (zP J F.fi25_2 F.ti23) (zC 2 J J J (jJ J F.one23) (anm 3 J J J (zC 4 J J J (jG (j:=d) (show _=some (Value.slice (some ⟨bd,bo,none⟩) days.length dc) from by rw[<-hdA];rfl) J Tryz.underlying23 F.ti3 J hd) (zC 5 J J J (jC (v:=.int .i64 (sg:Int)) J F.one3 (fun a w ha=>ha.old (hcd d _ hsg 0 _ J) hbd)) (anm 6 J J J (anm 7 J J J (zC 8 J J J (jG (j:=d) (show _=some (Value.slice (some ⟨g3,0,none⟩) LS.length oc) from by rw[<-hg3];rfl) J Tryz.underlying104 F.ti109 om om) (zC 9 J J J (jC (v:=.slice x1.1 x1.2.2.length x1.2.1) J F.one109 (fun a w ha=>jQ ha (InR.mem (A:=oA)) hg3 (zo1 (yM hx1)))) (anm 10 J J J (zC 11 J J J (jG (j:=a9) (show _=some (Value.slice (some ⟨gx,0,none⟩) x1.2.2.length x1.2.1) from by rw[<-hgx];rfl) J Tryz.underlying109 F.ti112 J hla2) ?_))))))))))))
      refine zAo 12 J J J kr kr kr sbl (qW (l:=[.slice sA fs.length sc,.slice wA fs.length wc]) J F.agg112 F.ti112 J (fun a w ha j u hu=>by
       obtain⟨b9,o9,h1,_,h3⟩:=(yI ha (x:=x1) (n:=fs.length) (by intro r hr;(repeat apply List.mem_cons_of_mem);exact List.mem_append_left _ (List.mem_append_left _ (List.mem_flatMap.2 ⟨x1,hx1L,hr⟩)))).outer (by simp;omega);rw[hgx] at h1
       cases h1
       exact h3 a9 _ hy j u hu)) J ?_
      refine anm 13 J J J (anm 14 J J J (zC 15 J J J (jG (j:=k) (show _=some (Value.slice (some ⟨g4,0,none⟩) S.length c4) from by rw[<-hg4];rfl) J Tryz.underlying35 F.ti23 J hk) (zC 16 J J J (jC (v:=.slice s.1 s.2.2.length s.2.1) J F.one23 (fun a w ha=>jQ ha (InR.mem (A:=A4)) hg4 (zo1 (xM hs)))) ?_)))
      refine qG 17 21 kr J J J J ?_ ?_
      ·refine jE (v:=.tuple #[.agg ([.slice none 0 0,.slice none 0 0]:List Value).toArray,.int .i64 ((er+1:Nat):Int)]) (vs:=[_,_,_,_]) J J F.ent77 (fun a w ha=>(yB (nd:=days.length) (dA:=dA) (dc:=dc) hc.f3 hc.ff hmok hsn om w (hF.later ha.below) ((yI ha (x:=x1) (n:=fs.length) (by intro r hr;(repeat apply List.mem_cons_of_mem);exact List.mem_append_left _ (List.mem_append_left _ (List.mem_flatMap.2 ⟨x1,hx1L,hr⟩)))).inner _ (List.mem_reverse.2 hyx)) (xR ha (by (repeat apply List.mem_cons_of_mem);exact List.mem_append_right _ (List.mem_map_of_mem hsS)))).mono (fun e w' h=>by
        rw[hDy] at h;rcases h with ⟨h0,_⟩|⟨_,h1,h2⟩
        ·exact absurd h0 (Nat.succ_ne_zero er)
        ·exact⟨h1,h2⟩)) ?_
       refine zB (anb (anm 18 J J J (zC 19 J J J (jN J J) (zC 20 J J J (jN J J) (an1 21 J (zW J F.ti112 ?_))))));intro b16;exact zB (anb (an1 22 J (zH J J F.ti112 J (zB (anb (zC 23 J J J (jP J) (adn (jK b16 trivial sbn pkk))))))))
      ·refine zW J F.ti112 ?_;intro b16;refine zB (anb (an1 17 J ?_))
       refine jE (v:=.tuple #[.agg ([.slice none 0 0,.slice none 0 0]:List Value).toArray,.int .i64 ((er+1:Nat):Int)]) (vs:=[_,_,_,_]) J J F.ent77 (fun a w ha=>(yB (nd:=days.length) (dA:=dA) (dc:=dc) hc.f3 hc.ff hmok hsn om w (hF.later ha.below) ((yI ha (x:=x1) (n:=fs.length) (by intro r hr;(repeat apply List.mem_cons_of_mem);exact List.mem_append_left _ (List.mem_append_left _ (List.mem_flatMap.2 ⟨x1,hx1L,hr⟩)))).inner _ (List.mem_reverse.2 hyx)) (xR ha (by (repeat apply List.mem_cons_of_mem);exact List.mem_append_right _ (List.mem_map_of_mem hsS)))).mono (fun e w' h=>by
        rw[hDy] at h;rcases h with ⟨h0,_⟩|⟨_,h1,h2⟩
        ·exact absurd h0 (Nat.succ_ne_zero er)
        ·exact⟨h1,h2⟩)) ?_
       exact zB (anb (anm 18 J J J (zC 19 J J J (jN J J) (zC 20 J J J (jN J J) (an1 22 J (zH J J F.ti112 J (zB (anb (zC 23 J J J (jP J) (adn (jK b16 trivial sbn pkk)))))))))))
     ·rintro b16 -;(try dsimp only);refine zD (zG (csr (zA J J (zE (v:=.bool true) J J J (fun w=>by rw[kT,decide_eq_true om]) (lnx (qE J (jV (zN (zY (zD (zL (zA J J (zE J J J bdO (zF J J (zB (kV (k+1) ⟨by (try dsimp only);omega,fun j x hj hx=>?_⟩ tdo sbn sbl))))))))))))))))
      rcases Nat.lt_or_ge j k with h|h
      ·exact hno j x h hx
      ·obtain rfl:k=j:=om;rw[hsl] at hx
       cases hx
       exact jCw hnd hbi hsg (by rw[hDy];exact Nat.succ_ne_zero er)
   ·exfalso;obtain⟨k9,l9,h1,h2⟩:=zY2 (las:=(lasR fs rp)) (fs:=fs) (kiln:=kiln) hd hat.2.2
    exact hno k9 l9 (by
     have h3:=(List.getElem?_eq_some_iff.1 h1).1;rw[vC] at h3
     omega) h1 h2
    done
  ·obtain rfl:d=days.length:=om;refine jV (zN (zN (zY (zD (csr (zA J J (zA J J (zF J J (lax J J (zV ?_))))))))))
   exact zX J (fun a w ha=>xN J J J ha) (fun a w ha=>⟨pA,pc,R,S,.inl ⟨his,by
    have h:=hat.1;rw[Nat.sub_self] at h;rw[h]
    exact (List.append_nil _).symm⟩,hRS,rfl,ha.grown (.cons_cons _ (.cons _ (.cons _ (.cons _ (.cons _ (List.sublist_append_right _ _))))))⟩)

variable {dA fA:Option Addr} {dc fc:Nat} {dz:List Int} {fz:List FltZ} {kz:Int}
theorem F.ent64:Enters TP 64:=jD Tryz.func64 rfl kr
theorem jGg (hfl:fz.length<1000000) (hdl:dz.length<1000000) (hk:chk fz kz dz≠0) (w:World) (hF:RdL FltZ.cells 4 w fA fz) (hD:RdL zcell 1 w dA dz):Calls TP 15 #[.agg (CY fA fz.length fc kz dA dz.length dc).toArray] w fun e w'=>e=.returned (.tuple #[.slice none 0 0,.int .i64 0,.int .i64 ((chk fz kz dz:Nat):Int)])∧Grew w w' []:=by
 refine enter (N:=26) [(0,.agg (CY fA fz.length fc kz dA dz.length dc).toArray)] Tryz.func15 J Tryz.ntmps15 J J (csr (jT J J ?_));intro b1;refine zF J J (zF J J (lax J J (zG (csr (zZ J J F.agg25 F.ti25 (jE (v:=.int .i64 ((chk fz kz dz:Nat):Int)) (vs:=[_]) J J F.ent33 (fun a w ha=>zAk hfl hdl w (hF.later ha.below) (hD.later ha.below)) (lax J J (csr (zA J J (zE J J J kT ?_))))))))))
 refine lnx (zK J (fun hc0=>?_) (fun hc0=>?_))
 ·exact csr (zA J J (zF J J (zF J J (lax J J (zV (zU (zX J (fun a w ha=>xB J J J J ha) (fun a w ha=>⟨rfl,ha.grown nsl⟩))))))))
 ·exfalso;omega
  done

theorem jA7 (hfl:fz.length<1000000) (hdl:dz.length<1000000) (hk:chk fz kz dz≠0) (w:World) (hF:RdL FltZ.cells 4 w fA fz) (hD:RdL zcell 1 w dA dz):Calls TP 24 #[.agg (CY fA fz.length fc kz dA dz.length dc).toArray] w fun e w'=>e=.returned (.tuple #[.slice none 0 0,.int .i64 0,.int .i64 ((chk fz kz dz:Nat):Int)])∧Grew w w' []:=by
 refine enter (N:=38) [(0,.agg (CY fA fz.length fc kz dA dz.length dc).toArray)] Tryz.func24 J Tryz.ntmps24 J J (csr (jT J J ?_));intro b1;refine zF J J (zF J J (lax J J (zG (csr (zZ J J F.agg25 F.ti25 (jE (v:=.int .i64 ((chk fz kz dz:Nat):Int)) (vs:=[_]) J J F.ent33 (fun a w ha=>zAk hfl hdl w (hF.later ha.below) (hD.later ha.below)) (lax J J (csr (zA J J (zE J J J kT ?_))))))))))
 refine lnx (zK J (fun hc0=>?_) (fun hc0=>?_))
 ·exact csr (zA J J (zF J J (zF J J (lax J J (zV (zU (zX J (fun a w ha=>xB J J J J ha) (fun a w ha=>⟨rfl,ha.grown nsl⟩))))))))
 ·exfalso;omega
  done

theorem jBd (hfl:fz.length<1000000) (hdl:dz.length<1000000) {rp:Bool} (hk:chk fz kz dz≠0) (w:World) (hF:RdL FltZ.cells 4 w fA fz) (hD:RdL zcell 1 w dA dz):Calls TP 58 #[.agg (CY fA fz.length fc kz dA dz.length dc).toArray,.bool rp] w fun e w'=>e=.returned (.tuple #[.slice none 0 0,.int .i64 0,.int .i64 ((chk fz kz dz:Nat):Int)])∧Grew w w' []:=by
 refine enter (N:=26) [(0,.agg (CY fA fz.length fc kz dA dz.length dc).toArray),(1,.bool rp)] Tryz.func58 J Tryz.ntmps58 J J (csr (jT J J ?_));intro b2;refine zF J J (zF J J (lax J J (zG (csr (zZ J J F.agg25 F.ti25 (jE (v:=.int .i64 ((chk fz kz dz:Nat):Int)) (vs:=[_]) J J F.ent34 (fun a w ha=>zJa hfl hdl w (hF.later ha.below) (hD.later ha.below)) (lax J J (csr (zA J J (zE J J J kT ?_))))))))))
 refine lnx (zK J (fun hc0=>?_) (fun hc0=>?_))
 ·exact csr (zA J J (zF J J (zF J J (lax J J (zV (zU (zX J (fun a w ha=>xB J J J J ha) (fun a w ha=>⟨rfl,ha.grown nsl⟩))))))))
 ·exfalso;omega
  done

theorem jBx {kiln:Nat} {fs:List Flt} {days:List Nat} (hc:ChV fs kiln days) {rp:Bool} (w:World) (hF:RdL Flt.cells 4 w fA fs) (hD:RdL ncell 1 w dA days):Calls TP 58 #[(CG fA fs.length fc kiln dA days.length dc),.bool rp] w fun e w'=>∃(A:Option Addr) (c:Nat) (R S:List Meta),(((bO (lasR fs rp) fs kiln days days.length (start fs)).is=true∧R.map (·.2.2)=planN (lasR fs rp) fs kiln days∧e=.returned (.tuple #[.slice A R.length c,.int .i64 (((bO (lasR fs rp) fs kiln days days.length (start fs)).f:Nat):Int),.int .i64 0]))∨((bO (lasR fs rp) fs kiln days days.length (start fs)).is=false∧R=[]∧e=.returned (.tuple #[.slice none 0 0,.int .i64 0,.int .i64 11])))∧(∀m∈R,m∈S)∧Grew w w' (.row 23 1 A R.length c (R.map mcell)::S.map mrow):=by
 refine enter (N:=26) [(0,(CG fA fs.length fc kiln dA days.length dc)),(1,.bool rp)] Tryz.func58 J Tryz.ntmps58 J J (csr (jT J J ?_));intro b2;refine zF J J (zF J J (lax J J (zG (csr (zZ J J F.agg25 F.ti25 ?_)))))
 refine jE (v:=.int .i64 0) (vs:=[_]) J J F.ent34 (fun a w ha=>by
  have h:=zJa (fA:=fA) (dA:=dA) (fc:=fc) (dc:=dc) (fs:=fs.map Flt.toZ) (kiln:=(kiln:Int)) (days:=toZs days) (by have:=hc.f3;simp;omega) (by have:=hc.d4;simp[toZs];omega) w (RdL.mapped Flt.toZ (hF.later ha.below) (fun _=>rfl)) (RdL.mapped (fun (n:Nat)=>(n:Int)) (hD.later ha.below) (fun _=>rfl));rw[chk0 hc] at h
  simpa[toZs] using h) ?_
 refine lax J J (csr (zA J J (zE J J J kT ?_)))
 refine lnx (zK J (fun hc0=>?_) (fun hc0=>?_))
 ·exact absurd J hc0
  done
 ·refine zO (zD (csr (zZ J J F.agg25 F.ti25 (zA J J (kJ (X:=Option Addr×Nat×List Meta×List Meta) (vs:=[_,_]) (p:=fun y=>(((bO (lasR fs rp) fs kiln days days.length (start fs)).is=true∧y.2.2.1.map (·.2.2)=planN (lasR fs rp) fs kiln days)∨((bO (lasR fs rp) fs kiln days days.length (start fs)).is=false∧y.2.2.1=[]∧y.1=none∧y.2.1=0))∧∀m∈y.2.2.1,m∈y.2.2.2) (val:=fun y=>.tuple #[.slice y.1 y.2.2.1.length y.2.1,.int .i64 (encO (bO (lasR fs rp) fs kiln days days.length (start fs)))]) (rs:=fun y=>.row 23 1 y.1 y.2.2.1.length y.2.1 (y.2.2.1.map mcell)::y.2.2.2.map mrow) J J F.ent64 (fun a w ha=>(zVu hc.w w (hF.later ha.below) (hD.later ha.below)).mono (fun e w' h=>by obtain⟨A',c',R',S',h1,h2,h3,h4⟩:=h;exact⟨(A',c',R',S'),⟨h1,h2⟩,h3,h4⟩)) ?_)))));rintro⟨A,c,R,S⟩ ⟨hcase,hRS⟩;dsimp only at hcase hRS ⊢;have hbl:=zCi (las:=(lasR fs rp)) (kiln:=kiln) (days:=days) hc.f3 days.length (start fs);have hd4:=hc.d4;have heg:=zKd (bO (lasR fs rp) fs kiln days days.length (start fs));refine zA J J (jF J J J (jF J J J (zF J J (lax J J (zG (csr (zA J J (zE J J J jY ?_))))))))
  refine lnx (zK J (fun hc1=>?_) (fun hc1=>?_))
  ·refine csr (zF J J (zF J J (lax J J (zV (zU ?_)))))
   exact zX J (fun a w ha=>xB J J J J ha) (fun a w ha=>⟨A,c,R,S,.inr (by
    rcases hcase with ⟨h1,_⟩|⟨h1,h2,_,_⟩
    ·rw[zIi h1] at hc1;omega
    ·exact⟨h1,h2,rfl⟩),hRS,ha.grown (.cons_cons _ (List.sublist_append_left _ _))⟩)
  ·have his:(bO (lasR fs rp) fs kiln days days.length (start fs)).is=true:=by
    cases h:(bO (lasR fs rp) fs kiln days days.length (start fs)).is with
    | true=>rfl
    | false =>
     refine absurd ?_ hc1;unfold encO;rw[h,if_neg Bool.false_ne_true]
     decide
   have henc:=zIi his;refine zO (zD (csr (zA J J (zA J J (zE (v:=.int .i64 (((bO (lasR fs rp) fs kiln days days.length (start fs)).f:Nat):Int)) J J J (fun w=>zH8 w (by decide) (by rw[henc,show (((100*(bO (lasR fs rp) fs kiln days days.length (start fs)).f+(bO (lasR fs rp) fs kiln days days.length (start fs)).w:Nat):Int)).tdiv 100=(((bO (lasR fs rp) fs kiln days days.length (start fs)).f:Nat):Int) from by rw[Int.tdiv_eq_ediv_of_nonneg om];omega];exact kC _ om om)) (zF J J (zF J J (lax J J (zV ?_)))))))))
   exact zX J (fun a w ha=>xB J J J J ha) (fun a w ha=>⟨A,c,R,S,.inl (by
    rcases hcase with ⟨h1,h2⟩|⟨h1,_⟩
    ·exact⟨h1,h2,rfl⟩
    ·rw[h1] at his;cases his),hRS,ha.grown (.cons_cons _ (List.sublist_append_left _ _))⟩)

end
end Go.Proofs.YteppiphdbondeaaGreat.N
