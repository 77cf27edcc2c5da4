/- Parts of the walk of the law CharCourses: YN, Y11, Y12, YP, YQ, YR, YS, Y13, Y16, Y17, YT, Y18, Y19, YO. -/
import Derived.Test.YteppiphdbondeaaGreatSCharCourses09
import Derived.Test.YteppiphdbondeaaGreatProg
import Derived.Test.YteppiphdbondeaaGreatSCharCourses08
import Derived.ArgAppend
import Derived.Deep.Upon
import Derived.Test.YteppiphdbondeaaGreatSCharCourses07
namespace Go.Proofs.YteppiphdbondeaaGreat.N
set_option linter.unusedSectionVars false
open Go.RowKit
section
variable {f:FltZ} {n:Int}
theorem w64wf (h:W64 n):(Go.Lit.int .i64 n).wf=true:=by
 unfold W64 at h;simp[Go.Lit.wf,IntKind.min,IntKind.max,IntKind.signed,IntKind.bits];omega
theorem zO9 (h:W64 n) (d:Nat):Tryz.prog.keyLits (d+1) 3 [.int .i64 n]=some [.int .i64 n]:=by
 unfold Program.keyLits;rw[Tryz.underlying3];simp[w64wf h]
def FltZ.lits (f:FltZ):List Go.Lit:=[.int .i64 f.power,.int .i64 f.gain,.int .i64 f.now,.bool f.washed]
theorem co27:Tryz.prog.cellsOf 27=4:=by kernel_rfl
theorem kt27:Tryz.prog.keyType 27=true:=by kernel_rfl
theorem jCw (h:f.wf) (d:Nat):Tryz.prog.keyLits (d+1+1) 27 f.cells=some f.lits:=by
 obtain⟨h1,h2,h3⟩:=h
 conv=>lhs;unfold Program.keyLits
 rw[Tryz.underlying27];simp[co27,co3,co4,FltZ.cells,FltZ.lits,zO9 h1,zO9 h2,zO9 h3,zR9]
theorem jAl (h:f.wf):∃x,keyOf Tryz.prog 27 (.agg f.cells.toArray)=some x:=by
 unfold keyOf;rw[Tryz.underlying27];simp only[kt27,Bool.true_and];have hf:(Value.agg f.cells.toArray).formed Tryz.prog 27=true:=by simp[Value.formed,Tryz.underlying27,co27,FltZ.cells]
 rw[if_pos hf,tszC];have:(Value.agg f.cells.toArray).cells.toList=f.cells:=rfl;rw[this,jCw h];exact⟨_,rfl⟩
theorem fltLaw:WideMaps.KeyLaw Tryz.prog 27:=deep_law (m:=4) (by omega) (by kernel_rfl) (by kernel_rfl) (by rw[Tryz.underlying27])
theorem zRb (h:f.wf) (x y:Operand) (w:World):(do eqGuard .neq 27 x y (.agg f.cells.toArray) (.agg f.cells.toArray);binOp .neq 27 (.agg f.cells.toArray) (.agg f.cells.toArray):Sem Value).run Tryz.prog w=.ok (.bool false) w:=by
 obtain⟨k1,hk1⟩:=jAl h;obtain⟨r,h1,h2⟩:=zDq (P:=Tryz.prog) (m:=4) om (k:=27) kr (by rw[Tryz.underlying27]) kr fltLaw hk1 hk1 x y w
 cases r with
 | false=>exact h1
 | true=>exact absurd rfl (h2.1 rfl)
theorem zOx {f:Flt} (h:FltOk f):f.toZ.wf:=by
 obtain⟨h1,h2,h3,h4⟩:=h;unfold Flt.toZ;exact⟨by unfold W64;dsimp only;omega,by unfold W64;dsimp only;omega,by unfold W64;dsimp only;omega⟩
instance TB.flt (a b c:Int) (d:Bool) (u:Value):TB (.agg #[.int .i64 a,.int .i64 b,.int .i64 c,.bool d]) u:=TB.agg (by
 intro x hx;simp at hx
 rcases hx with rfl|rfl|rfl|rfl
 ·exact .int _ _
 ·exact .int _ _
 ·exact .int _ _
 ·exact .bool _) u
theorem zUc (l:List Int):l.flatMap zcell=l.map (Value.int .i64):=by
 rw[List.map_eq_flatMap]
 rfl
theorem jEt (l:List Int) (j:Nat) (v:Int):(l.flatMap zcell).set j (.int .i64 v)=(l.set j v).flatMap zcell:=by
 rw[zUc,zUc,List.map_set]
theorem zQz (l:List Int):(l.flatMap zcell).length=l.length:=by rw[zUc,List.length_map]
theorem zPz (l:List FltZ):(l.flatMap FltZ.cells).length=l.length*4:=by
 induction l with
 | nil=>rfl
 | cons x l ih=>rw[List.flatMap_cons,List.length_append,ih,List.length_cons,zU3];omega
def CZ.Fine (x:CZ):Prop:=∃fs kiln days,ChV fs kiln days∧x.fz=fs.map Flt.toZ∧x.kz=((kiln:Nat):Int)∧x.dz=toZs days
end
section
variable [I:Sys]
variable {dA fA:Option Addr} {dc fc:Nat} {dz:List Int} {fz:List FltZ} {kz:Int}
theorem jEd {A:Option Addr} {c:Nat} {l:List Int} (h0:A=none->l=[]∧c=0) (hl:l.length<=1000) (w:World) (hA:RdL zcell 1 w A l):Calls Tryz.prog 55 #[.slice A l.length c] w fun e w'=>∃A' c',e=.returned (.slice A' l.length c')∧Grew w w' [.row 3 1 A' l.length c' (l.flatMap zcell)]:=by
 refine enter (N:=6) [(0,.slice A l.length c)] Tryz.func55 J Tryz.ntmps55 J J (csr (lax J J (csr (zB3 J U23 F.ti3 ?_))));intro b3;refine zAs 1 (.head _) (zA J J (zAx (cells:=zcell) J J J Tryz.underlying23 F.ti3 J J (fun _=>rfl) zZ2 (fun a w ha=>hA.later ha.below) h0 J (by unfold maxLen;omega) om ?_));intro A1 c1;refine lax J J (zT ?_);simp only[Nat.zero_add,List.nil_append];exact zY J (rsO J J) (fun a w ha=>⟨A1,c1,rfl,ha.grown sbl⟩)

theorem zWi (f0:fA=none->fz=[]∧fc=0) (d0:dA=none->dz=[]∧dc=0) (hfl:fz.length<=1000) (hdl:dz.length<=1000) (w:World) (hF:RdL FltZ.cells 4 w fA fz) (hD:RdL zcell 1 w dA dz):Calls Tryz.prog 14 #[.agg (CY fA fz.length fc kz dA dz.length dc).toArray] w fun e w'=>∃A c D dc',e=.returned (.agg #[.slice A fz.length c,.int .i64 kz,.slice D dz.length dc'])∧Grew w w' [.row 27 4 A fz.length c (fz.flatMap FltZ.cells),.row 3 1 D dz.length dc' (dz.flatMap zcell)]:=by
 refine enter (N:=13) [(0,.agg (CY fA fz.length fc kz dA dz.length dc).toArray)] Tryz.func14 J Tryz.ntmps14 J J (csr (jP J J ?_));intro b1;refine zX J F.ti25 ?_;intro b2;refine lnx (zF (jX [.b b2] F.follows 11 J (fl 11) J (zC 1 J J J (zU J F.fi25_0 F.ti22) (zC 2 J J J (jN J F.one22) (zC 4 J J J (zU J F.fi25_1 F.ti3) (zC 5 J J J (jN J F.one3) (zC 6 J J J (zU J F.fi25_2 F.ti23) (zC 7 J J J (jN J F.one23) (an1 0 J (zB3 J U22 F.ti27 ?_))))))))));intro b3;refine zAs 4 (.head _) (zB (anb (an1 3 J (zAx (cells:=FltZ.cells) J J J Tryz.underlying22 F.ti27 J J (fun _=>rfl) jCp (fun a w ha=>hF.later ha.below) f0 J (by unfold maxLen;omega) om ?_))));intro A2 c2;simp only[Nat.zero_add,List.nil_append];refine zB (anb (an1 8 J (kF (X:=Option Addr×Nat) (vs:=[_]) (p:=fun _=>True) (val:=fun y=>.slice y.1 dz.length y.2) (rs:=fun y=>[.row 3 1 y.1 dz.length y.2 (dz.flatMap zcell)]) J J F.ent55 (fun a w ha=>(jEd d0 hdl w (hD.later ha.below)).mono (fun e w' h=>by obtain⟨A',c',h1,h2⟩:=h;exact⟨(A',c'),trivial,h1,h2⟩)) ?_)));rintro⟨A3,c3⟩ -;dsimp only[List.cons_append,List.nil_append];exact zB (anb (zC 9 J J J (xY (vs:=[(0,_),(1,_),(2,_)]) (l':=[_,_,_]) J F.ti25 F.pl25 (.cons J J (.cons J J (.cons J J (.nil _)))) J) (an1 10 J (zH J J F.ti25 J (zB (anb (adn (zE (zT (zY J (fun a w ha=>by exact xB (ha:=ha) J J F.agg25 F.ti25 J) (fun a w ha=>⟨A2,c2,A3,c3,rfl,(ha.pck pkk).grown (List.Sublist.refl _)⟩)))))))))))

theorem zW4 {fA' dA':Option Addr} {fc' dc':Nat} (hw:∀f∈fz,f.wf) (hfl:fz.length<=1000) (hdl:dz.length<=1000) (w:World) (hF:RdL FltZ.cells 4 w fA fz) (hD:RdL zcell 1 w dA dz) (hF':RdL FltZ.cells 4 w fA' fz) (hD':RdL zcell 1 w dA' dz):Calls Tryz.prog 18 #[.agg (CY fA fz.length fc kz dA dz.length dc).toArray,.agg #[.slice fA' fz.length fc',.int .i64 kz,.slice dA' dz.length dc']] w fun e w'=>e=.returned (.bool true)∧Grew w w' []:=by
 refine enter (N:=46) [(0,.agg (CY fA fz.length fc kz dA dz.length dc).toArray),(1,.agg #[.slice fA' fz.length fc',.int .i64 kz,.slice dA' dz.length dc'])] Tryz.func18 J Tryz.ntmps18 J J (csr (jP J J ?_));intro b2;refine jP J J ?_;intro b3;refine lax J J (zF (csr (zK J J F.fi25_0 F.ti22 (zS J J F.one22 (jJ J J Tryz.underlying22 (zK J J F.fi25_0 F.ti22 (zS J J F.one22 (jJ J J Tryz.underlying22 (zG (v:=.bool false) J J J (fun w=>by rw[kW,decide_eq_false (fun h=>h J)]) (zA J J (zO J J (zK J J F.fi25_1 F.ti3 (zO J J (zS J J F.one3 (zO J J (zK J J F.fi25_1 F.ti3 (zO J J (zS J J F.one3 (zO J J (zG (v:=.bool false) J J J (fun w=>by rw[kW,decide_eq_false (fun h=>h J)]) (jT J J J (zA J J (zO J J (zK J J F.fi25_2 F.ti23 (zO J J (zS J J F.one23 (zO J J (zK J J F.fi25_2 F.ti23 (zO J J (zS J J F.one23 (zO J J ?_)))))))))))))))))))))))))))))))
 refine jF (v:=.bool true) (vs:=[_,_]) J J F.ent45 (fun a w ha=>by
  have h:=zN0 (ca:=dc) (cb:=dc') (l:=dz) (m:=dz) om om w (hD.later ha.below) (hD'.later ha.below);rw[decide_eq_true J] at h
  exact h) ?_
 refine zO J J (qI J J (jT J J J (lnx (kM J (zQ (zE (zF (csr (lax J J (zR (qK (G:=Nat) (fun k=>k<=fz.length) (fun k=>fz.length-k) (fun k=>[(2,pt b2),(3,pt b3),(5,.int .i64 (k:Int))]) (fun k=>[.blk b3 (.cells #[.slice fA' fz.length fc',.int .i64 kz,.slice dA' dz.length dc'] 25 (0,0)),.blk b2 (.cells (CY fA fz.length fc kz dA dz.length dc).toArray 25 (0,0))]) 0 (Nat.zero_le _) sbn sbl ?_)))))))))));intro k hk;(try dsimp only at hk ⊢);refine zF (csr (zA J J (zK J J F.fi25_0 F.ti22 (zS J J F.one22 (jJ J J U22 (zG J J J jW ?_))))))
 refine lnx (zL J (fun hc1=>?_) (fun hc1=>?_))
 ·have hk2:k<fz.length:=om;obtain⟨bf,bo,hfA,hbf,hcf⟩:=hF om;obtain⟨bg,go,hgA,hbg,hcg⟩:=hF' om;obtain⟨f,hx⟩:∃x,fz[k]?=some x:=⟨_,List.getElem?_eq_getElem hk2⟩;have hwf:=hw f (List.mem_of_getElem? hx);obtain⟨pw,gn,nw,wd⟩:=f;refine zQ (zE (zF (zR (zF (jX [] F.follows 11 J (fl 11) J (zC 0 J J J (zU J F.fi25_0 F.ti22) (zC 1 J J J (jN J F.one22) (zC 2 J J J (zJ J) (zC 3 J J J (jK (j:=k) (show _=some (Value.slice (some ⟨bf,bo,none⟩) fz.length fc) from by rw[<-hfA];rfl) J Tryz.underlying22 F.ti27 J hk2) (zC 4 J J J (qC (l:=[.int .i64 pw,.int .i64 gn,.int .i64 nw,.bool wd]) J F.agg27 F.ti27 J (fun a w ha j u hu=>ha.old (hcf k _ hx j u hu) hbf)) (zC 5 J J J (zU J F.fi25_0 F.ti22) (zC 6 J J J (jN J F.one22) (zC 7 J J J (zJ J) (zC 8 J J J (jK (j:=k) (show _=some (Value.slice (some ⟨bg,go,none⟩) fz.length fc') from by rw[<-hgA];rfl) J Tryz.underlying22 F.ti27 J hk2) (zC 9 J J J (qC (l:=[.int .i64 pw,.int .i64 gn,.int .i64 nw,.bool wd]) J F.agg27 F.ti27 J (fun a w ha j u hu=>ha.old (hcg k _ hx j u hu) hbg)) (zC 10 J J J (zK0 (v:=.bool false) J J (zRb hwf _ _)) (adn (zE (kM J (zQ (zM (zE (zI (zA J J (zG J J J bdO (zD J J (zB (kT (k+1) om tdo sbn sbl))))))))))))))))))))))))))))
 ·exact jS (zN (zN (jB (zE (csr (lax J J (zT (zY J (rsO J J) (fun a w ha=>⟨rfl,ha.grown nsl⟩)))))))))

theorem zU9 (w:World):Calls Tryz.prog 10 #[.agg (CY fA fz.length fc kz dA dz.length dc).toArray] w fun e w'=>e=.returned (.bool (decide (20<fz.length)||decide (20<dz.length)||(decide (fz.length=3)&&decide (2<dz.length))))∧Grew w w' []:=by
 refine enter (N:=25) [(0,.agg (CY fA fz.length fc kz dA dz.length dc).toArray)] Tryz.func10 J Tryz.ntmps10 J J (csr (jP J J ?_));intro b1
 refine lax J J (csr (yQ 22 24 (.bool (decide (20<fz.length)||decide (20<dz.length)||(decide (fz.length=3)&&decide (2<dz.length)))) ?_ ?_))
 ·refine zK J J F.fi25_0 F.ti22 (zS J J F.one22 (jJ J J U22 (zG J J J vK ?_)))
  refine zA J J (vD (t:=7) J (fun hg7=>?_) (fun hg7=>?_))
  ·exact zW J J J (zW J J J (zW J J J (zW J J J (jG J J J (zA J J (zW J J J (zW J J J (zW J J J (zW J J J (zW J J J (kG J J J (kG J J J (kG J J J (kG J J J (zW J J J (jG J J J (zB (qV (.cons (by simp_all[look]<;>first|omega|(rw[Bool.eq_iff_iff];simp;omega)) sbn) sbl))))))))))))))))))
  ·refine zO J J (zK J J F.fi25_2 F.ti23 (zO J J (zS J J F.one23 (zO J J (jJ J J U23 (zO J J (zG J J J vK ?_)))))))
   refine jT J J J (zA J J (vD (t:=13) J (fun hg13=>?_) (fun hg13=>?_)))
   ·exact zW J J J (zW J J J (zW J J J (zW J J J (zW J J J (kG J J J (kG J J J (kG J J J (kG J J J (zW J J J (jG J J J (zB (qV (.cons (by simp_all[look]<;>first|omega|(rw[Bool.eq_iff_iff];simp;omega)) sbn) sbl))))))))))))
   ·refine zO J J (zK J J F.fi25_0 F.ti22 (zO J J (zS J J F.one22 (zO J J (jJ J J U22 (zO J J (zG J J J kJ ?_)))))))
    refine zO J J (zA J J (vD (t:=18) J (fun hg18=>?_) (fun hg18=>?_)))
    ·exact zO J J (zK J J F.fi25_2 F.ti23 (zO J J (zS J J F.one23 (zO J J (jJ J J Tryz.underlying23 (zO J J (zG J J J vK (zO J J (jG J J J (jT J J J (zB (qV (.cons (by simp_all[look]<;>first|omega|(rw[Bool.eq_iff_iff];simp;omega)) sbn) sbl))))))))))))
    ·exact zW J J J (zW J J J (zW J J J (zW J J J (zO J J (jT J J J (jT J J J (zB (qV (.cons (by simp_all[look]<;>first|omega|(rw[Bool.eq_iff_iff];simp;omega)) sbn) sbl))))))))
 exact lax J J (zT (zY J (rsO J J) (fun a w ha=>⟨rfl,ha.grown nsl⟩)))

end
section
variable [I:Sys]
theorem zU4 {C:Ctx} {fr:LV} {T:List Res} {a:Act} {w:World} (hC:C.P=Tryz.prog) {hb tk st nc:Nat} {nA:Option Addr} {nums:List Int} (hB:C.w0.heap.size=C.B) (hN:RdL icell 1 C.w0 nA nums) (htk:tk<=700000) (hst:st<18446744073709551616) {fA dA:Option Addr} {fc dc0:Nat} {fz:List FltZ} {kz sg pw gn nw:Int} {wd:Bool} {dz:List Int} (hf:FltZ.wf ⟨pw,gn,nw,wd⟩) (ha:At C fr (.blk hb (hatO nA nums.length nc (tk) (st))::T) a w):Calls C.P 12 #[.agg #[.slice fA fz.length fc,.int .i64 kz,.slice dA dz.length dc0],.agg #[.int .i64 pw,.int .i64 gn,.int .i64 nw,.bool wd],.int .i64 sg,pt hb] w fun e w'=>(∃(tk' st' b:Nat) (own other:CZ),tk'<=tk+110∧st'<18446744073709551616∧own.Fine∧own.Ok∧other.Ok∧other.fz.length=own.fz.length∧other.dz.length=own.dz.length∧e=.returned (.slice (some ⟨b,0,none⟩) 4 4)∧At C fr (.row 25 3 (some ⟨b,0,none⟩) 4 4 ([(⟨fA,fc,fz,kz,dA,dc0,dz⟩:CZ),own,own,other].flatMap CZ.cells)::(own.rows++other.rows++.blk hb (hatO nA nums.length nc tk' st')::T)) a w'):=by
 obtain⟨P,B,w0,N0,ds⟩:=C;obtain rfl:P=Tryz.prog:=hC;(try dsimp only at hB);(try dsimp only at hN);refine vY (N:=42) [(0,.agg #[.slice fA fz.length fc,.int .i64 kz,.slice dA dz.length dc0]),(1,.agg #[.int .i64 pw,.int .i64 gn,.int .i64 nw,.bool wd]),(2,.int .i64 sg),(3,pt hb)] ha Tryz.func12 J Tryz.ntmps12 J J (csr (jP J J ?_));intro b4;refine jP J J ?_;intro b5;refine lax J J (csr (zA J J (wG (X:=Nat×Nat×Nat×List Flt×List Nat×Option Addr×Option Addr×Nat×Nat) (vs:=[_]) hb (fun y=>hatO nA nums.length nc y.1 y.2.1) (fun y=>[.row 27 4 y.2.2.2.2.2.1 y.2.2.2.1.length y.2.2.2.2.2.2.2.1 (y.2.2.2.1.flatMap Flt.cells),.row 3 1 y.2.2.2.2.2.2.1 y.2.2.2.2.1.length y.2.2.2.2.2.2.2.2 (ints y.2.2.2.2.1)]) (fun y=>y.1<=tk+101∧y.2.1<18446744073709551616∧ChV y.2.2.2.1 y.2.2.1 y.2.2.2.2.1) (fun y=>.agg #[.slice y.2.2.2.2.2.1 y.2.2.2.1.length y.2.2.2.2.2.2.2.1,.int .i64 (y.2.2.1:Int),.slice y.2.2.2.2.2.2.1 y.2.2.2.2.1.length y.2.2.2.2.2.2.2.2]) J J F.ent53 (fun a w ha=>(jD4 (C:=⟨Tryz.prog,B,w0,_,_⟩) J hB hN (tk:=tk) om hst ha).mono (fun e w' h=>by obtain⟨t',s',k',f',d',A',D',c',dc',h1,h2,h3,h4,h5⟩:=h;exact⟨(t',s',k',f',d',A',D',c',dc'),⟨h1,h2,h3⟩,h4,h5⟩)) ?_)));rintro⟨tk1,s1,kiln,fs,days,A,D,c,dc⟩ ⟨htk1,hs1,hc⟩;dsimp only[List.cons_append,List.nil_append] at htk1 hs1 hc ⊢;refine zX J F.ti25 ?_;intro b9;refine zH J J F.ti25 J (lnx (csr (jC J J F.agg25 F.ti25 (kF (X:=Option Addr×Nat×Option Addr×Nat) (vs:=[_]) (p:=fun _=>True) (val:=fun g=>.agg #[.slice g.1 fs.length g.2.1,.int .i64 (kiln:Int),.slice g.2.2.1 days.length g.2.2.2]) (rs:=fun g=>[.row 27 4 g.1 fs.length g.2.1 (fs.flatMap Flt.cells),.row 3 1 g.2.2.1 days.length g.2.2.2 (ints days)]) J J F.ent14 (fun a w ha=>(zVo hc.f1 (by have:=hc.f3;omega) hc.d1 (by have:=hc.d4;omega) w (zXi (A:=A) ha J) (zY0 (A:=D) ha J)).mono (fun e w' h=>by obtain⟨A',c',D',dc',h1,h2⟩:=h;exact⟨(A',c',D',dc'),trivial,h1,h2⟩)) ?_))));rintro⟨A2,c2,D2,dc2⟩ -;dsimp only[List.cons_append,List.nil_append];have hf1:=hc.f1;have hf3:=hc.f3;have hd1:=hc.d1;have hd4:=hc.d4;rw[<-zZ6 fs,<-zUt days];refine zX J F.ti25 ?_;intro b10;refine zH J J F.ti25 J (lnx (zF (csr (zA J J (zBy J J J hB hN hs1 om om om ?_)))));rintro s2 sb hs2
 refine lnx (qH (G:=Nat×Nat×List FltZ×List Int) (fun g=>g.1<=tk1+2∧g.2.1<18446744073709551616∧g.2.2.1.length=fs.length∧g.2.2.2.length=days.length∧∀y∈g.2.2.1,y.wf) (fun g=>[(3,pt hb),(4,pt b4),(9,pt b9),(10,pt b10)]) (fun g=>.blk hb (hatO nA nums.length nc (g.1) (g.2.1))::.blk b4 (.cells #[.slice fA fz.length fc,.int .i64 kz,.slice dA dz.length dc0] 25 (0,0))::.blk b9 (.cells #[.slice A fs.length c,.int .i64 (kiln:Int),.slice D days.length dc] 25 (0,0))::.blk b10 (.cells #[.slice A2 fs.length c2,.int .i64 (kiln:Int),.slice D2 days.length dc2] 25 (0,0))::.row 27 4 A fs.length c ((fs.map Flt.toZ).flatMap FltZ.cells)::.row 3 1 D days.length dc ((toZs days).flatMap zcell)::.row 27 4 A2 fs.length c2 (g.2.2.1.flatMap FltZ.cells)::.row 3 1 D2 days.length dc2 (g.2.2.2.flatMap zcell)::T) ?_ ?_)
 ·refine kS J (fun hc0=>?_) (fun hc0=>?_)
  ·have hfw:∀y∈fs.map Flt.toZ,y.wf:=fun y hy=>by
    obtain⟨z,hz,rfl⟩:=List.mem_map.1 hy;exact zOx (hc.ff z hz)
   refine jX [.b hb,.r A2] F.follows 11 J (fl 11) J (zC 0 J J J (zU J F.fi25_0 F.ti22) (zC 1 J J J (jN J F.one22) (zC 2 J J J (zJ J) (zC 3 J J J (zU J F.fi25_0 F.ti22) (zC 4 J J J (jN J F.one22) (zC 5 J J J (wU J U22) (zC 6 J J J (qO (v:=.int .i64 ((fs.length:Int)-1)) J J (fun w=>xJ w (kQ _ om om))) (zC 8 J J J (kU J F.agg27 F.ti27) (an1 7 J (yV J J J hB hN hs2 om om ?_))))))))));rintro s3 x1 hs3 hx1;refine zB (anb (an1 9 J ?_));have hl1:x1<fs.length:=om;refine vS A2 hf1 ?_;intro g2 hg2;exact jV (j:=x1) J (show _=some (Value.slice (some ⟨g2,0,none⟩) fs.length c2) from by rw[<-hg2];rfl) J Tryz.underlying22 F.ti27 J hl1 (zB (anb (an1 10 J (zK7 (A:=A2) (vs:=[.int .i64 pw,.int .i64 gn,.int .i64 nw,.bool wd]) (((fs.map Flt.toZ).set x1 (⟨pw,gn,nw,wd⟩:FltZ)).flatMap FltZ.cells) (show _=some (Value.pointer (some ⟨g2,0+x1*4,none⟩)) from rfl) J F.ti27 J hg2 (by rw[zPz,List.length_map];show 0+x1*4+4<=_;omega) (by rw[show 0+x1*4=x1*4 from by omega];exact zL8 zU3 (⟨pw,gn,nw,wd⟩:FltZ) _ _ (by rw[List.length_map];exact hl1)) (zB (anb (adn (jM (tk1+1+1,s3,(fs.map Flt.toZ).set x1 (⟨pw,gn,nw,wd⟩:FltZ),toZs days) ⟨by (try dsimp only);omega,hs3,by rw[List.length_set,List.length_map],yS _,fun y hy=>(List.mem_or_eq_of_mem_set hy).elim (hfw y) fun e=>e▸hf⟩ sbn pkk))))))))
  ·have hfw:∀y∈fs.map Flt.toZ,y.wf:=fun y hy=>by
    obtain⟨z,hz,rfl⟩:=List.mem_map.1 hy;exact zOx (hc.ff z hz)
   refine jX [.b hb,.r D2] F.follows 11 J (fl 11) J (zC 0 J J J (zU J F.fi25_2 F.ti23) (zC 1 J J J (jN J F.one23) (zC 2 J J J (zJ J) (zC 3 J J J (zU J F.fi25_2 F.ti23) (zC 4 J J J (jN J F.one23) (zC 5 J J J (wU J U23) (zC 6 J J J (qO (v:=.int .i64 ((days.length:Int)-1)) J J (fun w=>xJ w (kQ _ om om))) (zC 8 J J J (zJ J) (an1 7 J (yV J J J hB hN hs2 om om ?_))))))))));rintro s3 x1 hs3 hx1;refine zB (anb (an1 9 J ?_));have hl1:x1<days.length:=om;refine vS D2 hd1 ?_;intro g2 hg2;exact jV (j:=x1) J (show _=some (Value.slice (some ⟨g2,0,none⟩) days.length dc2) from by rw[<-hg2];rfl) J Tryz.underlying23 F.ti3 J hl1 (zB (anb (an1 10 J (vG (A:=D2) (((toZs days).set x1 sg).flatMap zcell) (show _=some (Value.pointer (some ⟨g2,0+x1*1,none⟩)) from rfl) J F.ti3 hg2 (by rw[zQz,yS];omega) (by rw[show 0+x1*1=x1 from by omega,jEt]) (zB (anb (adn (jM (tk1+1+1,s3,fs.map Flt.toZ,(toZs days).set x1 sg) ⟨by (try dsimp only);omega,hs3,List.length_map ..,by rw[List.length_set,yS],hfw⟩ sbn pkk))))))))
 ·rintro⟨tk2,st2,fz2,dz2⟩ ⟨htk2,hst2,hl2,hd2,hw2⟩;dsimp only at htk2 hst2 hl2 hd2 hw2 ⊢;refine zE (csr (vS A hf1 ?_));intro gA hgA;refine vS D hd1 ?_;intro gD hgD;refine vS A2 hf1 ?_;intro gA2 hgA2;refine vS D2 hd1 ?_;intro gD2 hgD2;refine jC J J F.agg25 F.ti25 (jC J J F.agg25 F.ti25 (jC J J F.agg25 F.ti25 (jC J J F.agg25 F.ti25 (vN (vs:=[(0,.agg ([.slice fA fz.length fc,.int .i64 kz,.slice dA dz.length dc0]:List Value).toArray),(1,.agg ([.slice A fs.length c,.int .i64 (kiln:Int),.slice D days.length dc]:List Value).toArray),(2,.agg ([.slice A fs.length c,.int .i64 (kiln:Int),.slice D days.length dc]:List Value).toArray),(3,.agg ([.slice A2 fs.length c2,.int .i64 (kiln:Int),.slice D2 days.length dc2]:List Value).toArray)]) [.slice fA fz.length fc,.int .i64 kz,.slice dA dz.length dc0,.slice A fs.length c,.int .i64 (kiln:Int),.slice D days.length dc,.slice A fs.length c,.int .i64 (kiln:Int),.slice D days.length dc,.slice A2 fs.length c2,.int .i64 (kiln:Int),.slice D2 days.length dc2] J J U30 F.ti25 J J J (Lit.agg (l1:=[.slice fA fz.length fc,.int .i64 kz,.slice dA dz.length dc0]) J (Lit.agg (l1:=[.slice A fs.length c,.int .i64 (kiln:Int),.slice D days.length dc]) J (Lit.agg (l1:=[.slice A fs.length c,.int .i64 (kiln:Int),.slice D days.length dc]) J (Lit.agg (l1:=[.slice A2 fs.length c2,.int .i64 (kiln:Int),.slice D2 days.length dc2]) J (rfl))))) ?_))));intro b41;refine wQ (n:=4) 3 J (by unfold maxLen;omega) (.head _) ?_
  refine lax J J (zT (zY J (rsO J J) (fun _ _ ha'=>⟨tk2,st2,b41,(⟨A,c,fs.map Flt.toZ,(kiln:Int),D,dc,toZs days⟩:CZ),(⟨A2,c2,fz2,(kiln:Int),D2,dc2,dz2⟩:CZ),by omega,hst2,⟨fs,kiln,days,hc,rfl,rfl,rfl⟩,⟨fun y hy=>?_,fun h=>?_,fun h=>?_,?_,?_⟩,⟨hw2,fun h=>?_,fun h=>?_,?_,?_⟩,?_,?_,rfl,?_⟩)))
  ·obtain⟨z,hz,rfl⟩:=List.mem_map.1 hy;exact zOx (hc.ff z hz)
  ·rw[hgA] at h;cases h
  ·rw[hgD] at h;cases h
  ·rw[List.length_map];omega
  ·rw[yS];omega
  ·rw[hgA2] at h;cases h
  ·rw[hgD2] at h;cases h
  ·rw[hl2];omega
  ·rw[hd2];omega
  ·rw[List.length_map];exact hl2
  ·rw[yS];exact hd2
  ·simp only[CZ.rows,CZ.cells,List.flatMap_cons,List.flatMap_nil,List.append_nil,List.cons_append,List.nil_append,List.length_map,yS,hl2,hd2];exact ha.back (ha'.pck pkk)

theorem Grew.nilRow {w w':World} (h:Grew w w' []) (e size:Nat):Grew w w' [.row e size Option.none 0 0 []] :=
 ⟨h.1,fun r hr=>by
  rw[List.mem_singleton] at hr;subst hr
  exact⟨by simp,.inl ⟨rfl,rfl⟩⟩,List.nodup_nil⟩
section
variable {fA dA:Option Addr} {fc dc:Nat} {fz:List FltZ} {kz:Int} {dz:List Int}
abbrev cz3 (fA dA:Option Addr) (fc dc:Nat) (fz:List FltZ) (kz:Int) (dz:List Int):Value:=.agg (CY fA fz.length fc kz dA dz.length dc).toArray
end
end
section
variable {T:List Res} {w0:World} {x:CZ}
theorem jAd {n m:Nat} (h:(decide (20<n)||decide (20<m)||(decide (n=3)&&decide (2<m)))=false):n<=20∧m<=20:=by
 simp at h;omega
def Seen (w0:World) (T:List Res) (x:CZ):Prop:=∀{N:Nat} {ds:List Deferred} {fr:LV} {hp:List Res} {a:Act} {w:World},(∀r∈T,r∈hp)->At ⟨Tryz.prog,w0.heap.size,w0,N,ds⟩ fr hp a w->x.Rd w
theorem Seen.old [I:Sys] (h:x.Rd w0):Seen w0 T x:=fun _ ha=>h.later ha.below
theorem Seen.own [I:Sys] (h:∀r∈x.rows,r∈T):Seen w0 T x:=fun hT ha=>jDj ha fun r hr=>hT r (h r hr)
theorem zRr {x0 x1 x2:CZ} {P:CZ->Prop} (h0:P x0) (h1:P x1) (h2:P x2) {k:Nat} {x:CZ} (h:([x0,x1,x1,x2]:List CZ)[k]?=some x):P x:=by
 have hm:=List.mem_of_getElem? h;simp only[List.mem_cons,List.not_mem_nil,or_false] at hm
 rcases hm with rfl|rfl|rfl|rfl
 ·exact h0
 ·exact h1
 ·exact h1
 ·exact h2
end
section
variable {d k n sg:Nat} {l:List Nat} {ls:List (List Nat)} {m m1:Mor} {o:Oc} {α:Type}
theorem zNx (n:Nat):madeCells (Value.slice none 0 0).cells (n*1)=(List.replicate n (Value.slice none 0 0)).toArray:=by
 rw[Nat.mul_one];unfold madeCells
 apply Array.toList_inj.1
 apply List.ext_getElem?
 intro i
 by_cases hi:i<n
 ·simp[Value.cells,hi,Nat.mod_one]
 ·simp[Value.cells,hi]
theorem zFi (a x y:α) (t:List α):∀n,(List.replicate n a++x::t).set n y=List.replicate n a++y::t
 | 0=>rfl
 | n+1=>by rw[List.replicate_succ,List.cons_append,List.set_cons_succ,zFi a x y t n,List.cons_append]
theorem zFe (a x:α) (t:List α):∀n,(List.replicate n a++x::t)[n]?=some x
 | 0=>rfl
 | n+1=>by rw[List.replicate_succ,List.cons_append,List.getElem?_cons_succ,zFe a x t n]
theorem zY9 (a:α) (t:List α) (n:Nat):List.replicate (n+1) a++t=List.replicate n a++a::t:=by rw[List.replicate_succ',List.append_assoc];rfl
def encO (o:Oc):Int:=if o.is then ((100*o.f+o.w:Nat):Int) else -1
def dayC (l:List Nat):Nat:=100*spF l+spW l
def rstF (a n c:Int):Int:=if 0<=n∧(a<0∨n+c<a) then n+c else a
theorem zHq (h:o.is=true):encO o=((100*o.f+o.w:Nat):Int):=if_pos h
theorem zJs (o:Oc) : -1<=encO o:=by unfold encO;split<;>omega
theorem zVj (h:o.f<=n∧o.w<=3*n):encO o<=103*n:=by unfold encO;split<;>omega
theorem jAp {r:Oc} {F W:Nat} (ho:o.w<=99) (hr:r.w+W<=99):encO (lst2 o ⟨r.f+F,r.w+W,r.is⟩)=rstF (encO o) (encO r) ((100*F+W:Nat):Int):=by
 obtain⟨f,w,b⟩:=o;obtain⟨f',w',b'⟩:=r;dsimp only at ho hr;have h1:oless ⟨f'+F,w'+W,b'⟩ ⟨f,w,b⟩=(b'&&(!b||cless (f'+F) (w'+W) f w)):=rfl;unfold lst2;rw[h1]
 cases b' with
 | false =>
  rw[Bool.false_and,if_neg Bool.false_ne_true];unfold rstF;rw[if_neg];rintro⟨h,_⟩
  exact absurd h (by show ¬(0:Int)<=-1;decide)
 | true =>
  rw[Bool.true_and];have hx:encO ⟨f',w',true⟩=((100*f'+w':Nat):Int):=rfl;have hy:encO ⟨f'+F,w'+W,true⟩=((100*(f'+F)+(w'+W):Nat):Int):=rfl;unfold rstF;rw[hx]
  cases b with
  | false =>
   have hz:encO ⟨f,w,false⟩=-1:=rfl;rw[Bool.not_false,Bool.true_or,if_pos J,hy,hz,if_pos om]
   omega
  | true =>
   have hz:encO ⟨f,w,true⟩=((100*f+w:Nat):Int):=rfl;rw[Bool.not_true,Bool.false_or,hz];unfold cless
   by_cases hl:f'+F<f∨f'+F=f∧w'+W<w
   ·rw[decide_eq_true hl,if_pos J,hy,if_pos om];omega
   ·rw[decide_eq_false hl,if_neg Bool.false_ne_true,hz,if_neg om]
theorem jD7 (o:Oc):lst2 o noOc=o:=by unfold lst2 oless noOc;simp
section
variable (las:Mor->Bool) (fs:List Flt) (kiln:Nat) (days:List Nat)
def bO (n:Nat) (m:Mor):Oc:=bstO (fun _ _=>true) las fs kiln days n m
def stO (n:Nat) (d:Nat) (m:Mor) (l:List Nat):Oc:=stpO (fun _ _=>true) fs kiln days (bO las fs kiln days n) d m l
def folO (n:Nat) (d:Nat) (m:Mor) (ls:List (List Nat)):Oc:=ls.foldl (fun o l=>lst2 o (stO las fs kiln days n d m l)) noOc
def costL (i:Nat):List Int:=(lvlL fs kiln (days.take i)).map fun m=>encO (bO las fs kiln days (days.length-i) m)
end
section
variable {las:Mor->Bool} {fs:List Flt} {kiln:Nat} {days:List Nat}
theorem jBi (h:d+(n+1)=days.length) (m:Mor):bO las fs kiln days (n+1) m=folO las fs kiln days n d m (exts [] fs.length):=by
 show (exts [] fs.length).foldl (fun o l=>lst2 o (stpO (fun _ _=>true) fs kiln days (bO las fs kiln days n) (days.length-(n+1)) m l)) noOc=_;rw[show days.length-(n+1)=d from by omega]
 rfl
theorem zFm (h3:fs.length<=3) (n:Nat) (m:Mor):(bO las fs kiln days n m).f<=n∧(bO las fs kiln days n m).w<=3*n:=zLl h3 n m
theorem zSc (hs:days[d]?=some sg) (h:(dayE fs kiln m l sg).1≠0):stO las fs kiln days n d m l=noOc:=by
 unfold stO stpO;rw[if_neg (by simp),List.getD_eq_getElem?_getD,hs];exact if_pos h
theorem zWb (hs:days[d]?=some sg) (h:dayE fs kiln m l sg=(0,m1)):stO las fs kiln days n d m l=⟨(bO las fs kiln days n m1).f+spF l,(bO las fs kiln days n m1).w+spW l,(bO las fs kiln days n m1).is⟩:=by
 unfold stO stpO;rw[if_neg (by simp),List.getD_eq_getElem?_getD,hs];show (if (dayE fs kiln m l sg).1≠0 then _ else _)=_;rw[if_neg (by rw[h];simp)];show (⟨(bO las fs kiln days n (dayE fs kiln m l sg).2).f+spF l,(bO las fs kiln days n (dayE fs kiln m l sg).2).w+spW l,(bO las fs kiln days n (dayE fs kiln m l sg).2).is⟩:Oc)=_;rw[h]
theorem jDh (h3:fs.length<=3) (hl:l.length<=3):(stO las fs kiln days n d m l).f<=n+1∧(stO las fs kiln days n d m l).w<=3*n+3:=by
 have h1:=zAe l;have h2:=zAm l;unfold stO stpO
 split
 ·exact⟨Nat.zero_le _,Nat.zero_le _⟩
 split
 ·exact⟨Nat.zero_le _,Nat.zero_le _⟩
 ·have h:=zFm (las:=las) (kiln:=kiln) (days:=days) h3 n (dayE fs kiln m l (days.getD d 0)).2;exact⟨by dsimp only;omega,by dsimp only;omega⟩
theorem jCe (h3:fs.length<=3):∀(ls:List (List Nat)),(∀l∈ls,l.length<=3)->(folO las fs kiln days n d m ls).f<=n+1∧(folO las fs kiln days n d m ls).w<=3*n+3:=by
 have key:∀(ls:List (List Nat)) (o:Oc),o.f<=n+1∧o.w<=3*n+3->(∀l∈ls,l.length<=3)->(ls.foldl (fun o l=>lst2 o (stO las fs kiln days n d m l)) o).f<=n+1∧(ls.foldl (fun o l=>lst2 o (stO las fs kiln days n d m l)) o).w<=3*n+3:=by
  intro ls
  induction ls with
  | nil=>exact fun _ h _=>h
  | cons l ls ih=>exact fun o h hl=>ih _ (zEw h (jDh h3 (hl l (List.mem_cons_self ..)))) fun x hx=>hl x (List.mem_cons_of_mem _ hx)
 exact fun ls h=>key ls _ ⟨Nat.zero_le _,Nat.zero_le _⟩ h
theorem zMi (h:ls[k]?=some l):folO las fs kiln days n d m (ls.take (k+1))=lst2 (folO las fs kiln days n d m (ls.take k)) (stO las fs kiln days n d m l):=by
 unfold folO;rw[List.take_add_one,h,List.foldl_append]
 rfl
theorem jBg (h:ls[k]?=some l) (hs:days[d]?=some sg) (he:(dayE fs kiln m l sg).1≠0):encO (folO las fs kiln days n d m (ls.take (k+1)))=encO (folO las fs kiln days n d m (ls.take k)):=by
 rw[zMi h,zSc hs he,jD7]
theorem jC3 (h3:fs.length<=3) (hn:n<=4) (hls:∀x∈ls,x.length<=3) (h:ls[k]?=some l) (hs:days[d]?=some sg) (he:dayE fs kiln m l sg=(0,m1)) :
  encO (folO las fs kiln days n d m (ls.take (k+1)))=rstF (encO (folO las fs kiln days n d m (ls.take k))) (encO (bO las fs kiln days n m1)) ((dayC l:Nat):Int):=by
 have h1:=jCe (las:=las) (kiln:=kiln) (days:=days) (n:=n) (d:=d) (m:=m) h3 (ls.take k) fun x hx=>hls x (List.mem_of_mem_take hx);have h2:=zFm (las:=las) (kiln:=kiln) (days:=days) h3 n m1;have h4:=zAm l;have h5:=hls l (List.mem_of_getElem? h);rw[zMi h,zWb hs he];exact jAp om om
theorem zQm {acts:List Nat} (hs:days[d]?=some sg) (hm:m∈lvlL fs kiln (days.take d)) (ha:acts∈exts [] fs.length) (h:dayE fs kiln m acts sg=(0,m1)):m1∈lvlL fs kiln (days.take (d+1)):=by
 rw[List.take_add_one,hs];show m1∈lvlL fs kiln (days.take d++[sg]);rw[zMc];unfold nxtL;rw[zD8];right;unfold stpL;rw[List.mem_flatMap];refine⟨m,hm,List.mem_filterMap.2 ⟨acts,ha,?_⟩⟩;rw[h]
 rfl
theorem zAn (hc:ChW fs kiln days) {i:Nat} {m:Mor} (h:m∈lvlL fs kiln (days.take i)):MOk m∧Thin fs.length m:=⟨(jFu.1 h).ok hc.f3 hc.ff _ _,(jFu.1 h).thin hc.f3 hc.ff _ _⟩
theorem zEt (hc:ChW fs kiln days) (i:Nat):(lvlL fs kiln (days.take i)).length<=1000:=zH1 (zJp _) fun _ hm=>(zAn hc hm).1
theorem zRw (hc:ChW fs kiln days) {i:Nat} {x:LZ} {m:Mor} (hx:lmor x=lvlL fs kiln (days.take i)) (hm:m∈lvlL fs kiln (days.take i)) :
  ∃j:Nat,(tabK (ten fs.length) (cods fs.length x.2.2.reverse) x.2.2.length)[cdM m fs.length]?=some (j:Int)∧(lvlL fs kiln (days.take i))[j]?=some m:=by
 obtain⟨h1,h2⟩:=zAn hc hm;have hall:∀y∈x.2.2,MOk y.2.2∧Thin fs.length y.2.2:=fun y hy=>zAn hc (i:=i) (hx▸List.mem_map_of_mem (List.mem_reverse.2 hy));have hmem:cdM m fs.length∈cods fs.length x.2.2.reverse:=(zI4 (fun y hy=>hall y (List.mem_reverse.1 hy)) h1 h2).2 (by rw[show x.2.2.reverse.map (·.2.2)=lvlL fs kiln (days.take i) from hx];exact hm)
 rcases zI0 (n:=ten fs.length) (cs:=cods fs.length x.2.2.reverse) (zDu h1 _) x.2.2.length (by simp[cods]) with ⟨_,hno⟩|⟨j,hj,hcj,hg⟩
 ·rw[List.take_of_length_le (by simp[cods])] at hno;exact absurd hmem hno
 ·refine⟨j,hg,?_⟩;unfold cods at hcj;rw[List.getElem?_map] at hcj;obtain⟨y,hy,e⟩:=Option.map_eq_some_iff.1 hcj;have hym:y∈x.2.2:=List.mem_reverse.1 (List.mem_of_getElem? hy);rw[<-hx];unfold lmor;rw[List.getElem?_map,hy,<-zVp (hall y hym).1 h1 (hall y hym).2 h2 e]
  rfl
end
abbrev OZ:Type:=Option Addr×Nat×List Int
def ocell (x:OZ):Value:=.slice x.1 x.2.2.length x.2.1
def orow (x:OZ):Res:=.row 3 1 x.1 x.2.2.length x.2.1 (zis x.2.2)
def lcel (x:LZ):List Value:=[lcell x]
structure RdLv (n:Nat) (w:World) (A:Option Addr) (LS:List LZ):Prop where
 outer:RdL lcel 1 w A LS.reverse
 inner:∀x∈LS,RdMs n w x.1 x.2.2.reverse
theorem zVa (l:List LZ):l.flatMap lcel=l.map lcell:=by rw[List.map_eq_flatMap];rfl
theorem zXj [I:Sys] {C:Ctx} {fr:LV} {hp:List Res} {a:Act} {w:World} (ha:At C fr hp a w) {n c:Nat} {A:Option Addr} {LS:List LZ} (h1:Res.row 109 1 A LS.length c (LS.reverse.map lcell)∈hp) (h2:∀r∈LS.flatMap (lrow n),r∈hp):RdLv n w A LS :=
 ⟨kE ha (cells:=lcel) (size:=1) (e:=109) (c:=c) (n:=LS.length) (l:=LS.reverse) (fun _=>rfl) (by rw[zVa];exact h1) (by rw[List.length_reverse]),fun x hx=>zAh ha fun r hr=>h2 r (List.mem_flatMap.2 ⟨x,hx,hr⟩)⟩
end
section
variable {a c n:Int} {fs:List Flt} {k:Nat} {m:Mor} {α:Type}
theorem zR0 (h3:fs.length<=3) (hm:MOk m) (hf:∀f∈fs,FltOk f) (ht:Thin fs.length m):agnL (start fs) m=true↔∀i f,fs[i]?=some f->f.now<=m.s.getD i 0∧(m.w.testBit i=true->f.washed=true):=by
 have hs:=yH h3 hf _ (Nat.le_refl _)
 have hw:∀i,i<3->((m.w &&& (7-(start fs).w)).testBit i=true↔m.w.testBit i=true∧(start fs).w.testBit i=false):=fun i hi=>by
  have h8:(start fs).w<8:=hs.w;rw[Nat.testBit_and,Bool.and_eq_true];refine and_congr_right fun _=>?_;have key:∀w,w<8->∀i,i<3->((7-w).testBit i=true↔w.testBit i=false):=by decide
  exact key _ h8 i hi
 have hz:(m.w &&& (7-(start fs).w))=0↔∀i,i<3->m.w.testBit i=true->(start fs).w.testBit i=true:=by
  constructor
  ·intro h i hi h1
   cases h2:(start fs).w.testBit i with
   | true=>rfl
   | false =>
    have:=(hw i hi).2 ⟨h1,h2⟩;rw[h] at this;simp at this
  ·intro h
   apply Nat.eq_of_testBit_eq
   intro i;rw[Nat.zero_testBit]
   rcases Nat.lt_or_ge i 3 with hi|hi
   ·cases h1:(m.w &&& (7-(start fs).w)).testBit i with
    | false=>rfl
    | true =>
     obtain⟨a,b⟩:=(hw i hi).1 h1;rw[h i hi a] at b
     cases b
   ·have:m.w<2^i:=Nat.lt_of_lt_of_le hm.w (Nat.pow_le_pow_right (n:=2) (by decide) hi);rw[Nat.testBit_and,Nat.testBit_lt_two_pow this]
    rfl
 unfold agnL;simp only[Bool.and_eq_true,List.all_eq_true,decide_eq_true_eq,List.mem_range]
 constructor
 ·rintro⟨h1,h2⟩ i f hx;have hi:i<fs.length:=(List.getElem?_eq_some_iff.1 hx).1
  refine⟨?_,fun hb=>?_⟩
  ·rw[<-zG9 hx];exact h1 i om
  ·rw[<-zGt hx];exact hz.1 (by first|exact h2|simpa using h2) i om hb
 ·intro h
  refine⟨fun i hi=>?_,?_⟩
  ·rcases Nat.lt_or_ge i fs.length with h4|h4
   ·obtain⟨f,hx⟩:∃f,fs[i]?=some f:=⟨_,List.getElem?_eq_getElem h4⟩;rw[zG9 hx];exact (h i f hx).1
   ·rw[zJ5 fs h3 i h4];exact Nat.zero_le _
  ·have h5:=hz.2 fun i hi hb=>by
    rcases Nat.lt_or_ge i fs.length with h4|h4
    ·obtain⟨f,hx⟩:∃f,fs[i]?=some f:=⟨_,List.getElem?_eq_getElem h4⟩;rw[zGt hx];exact (h i f hx).2 hb
    ·rw[(ht i h4).2] at hb
     cases hb
   first|exact h5|simpa using h5
theorem jAn {f:Flt} (h3:fs.length<=3) (hm:MOk m) (hf:∀f∈fs,FltOk f) (ht:Thin fs.length m) (hx:fs[k]?=some f) (h:¬(f.now<=m.s.getD k 0∧(m.w.testBit k=true->f.washed=true))):agnL (start fs) m=false:=by
 cases h1:agnL (start fs) m with
 | false=>rfl
 | true=>exact absurd ((zR0 h3 hm hf ht).1 h1 k f hx) h
def lasR (fs:List Flt) (rp:Bool):Mor->Bool:=if rp then agnL (start fs) else fun _=>true
theorem zI5 {kiln:Nat} {days:List Nat} {las:Mor->Bool}:encO (bO las fs kiln days 0 m)=if las m then 0 else -1:=by
 show (if las m=true then _ else _)=_
 split<;>rfl
theorem zPb (a x y:α) (t:List α):∀n,(List.replicate n a++x::y::t)[n+1]?=some y
 | 0=>rfl
 | n+1=>by rw[List.replicate_succ,List.cons_append,List.getElem?_cons_succ,zPb a x y t n]
theorem zF9 (l:List Int) (v:Int):zis (l++[v])=zis l++[.int .i64 v]:=by unfold zis;rw[List.map_append];rfl
theorem zHm {l:List Int} {x:Int} (h:l[k]?=some x):(zis l)[k]?=some (.int .i64 x):=by unfold zis;rw[List.getElem?_map,h];rfl
theorem jAo (h:0<=n∧(a<0∨n+c<a)):rstF a n c=n+c:=if_pos h
theorem jC9 (h:¬(0<=n∧(a<0∨n+c<a))):rstF a n c=a:=if_neg h
theorem zRy {l:List Nat} (h:l.length<=3):dayC l<=103:=by
 have h1:=zAe l;have h2:=zAm l;unfold dayC;omega
theorem zBb {β:Type} {f:α->β} {l:List α} {x:α} {xs:List β} (hx:l[k]?=some x) (h:xs=(l.take k).map f):xs++[f x]=(l.take (k+1)).map f:=by
 rw[List.take_add_one,hx,List.map_append,<-h]
 rfl
end
section
variable [I:Sys]
theorem F.ent10:Enters Tryz.prog 10:=jD Tryz.func10 rfl kr
theorem F.ent12:Enters Tryz.prog 12:=jD Tryz.func12 rfl kr
theorem F.ent18:Enters Tryz.prog 18:=jD Tryz.func18 rfl kr
theorem zH9 {aA:Option Addr} {ac:Nat} {acts:List Nat} (hl:acts.length<=3) (w:World) (hA:RdL ncell 1 w aA acts):Calls Tryz.prog 79 #[.slice aA acts.length ac] w fun e w'=>e=.returned (.int .i64 ((dayC acts:Nat):Int))∧Grew w w' []:=by
 refine enter (N:=25) [(0,.slice aA acts.length ac)] Tryz.func79 J Tryz.ntmps79 J J (csr (lax J J (csr (zD J J (lax J J (zF (csr (lax J J (zR (qK (G:=Nat) (fun k=>k<=acts.length) (fun k=>acts.length-k) (fun k=>[(0,.slice aA acts.length ac),(3,.int .i64 ((100*spF (acts.take k):Nat):Int)),(4,.int .i64 ((spW (acts.take k):Nat):Int)),(5,.int .i64 (k:Int))]) (fun k=>[]) 0 (Nat.zero_le _) sbn sbl ?_))))))))));intro k hk;(try dsimp only at hk ⊢);refine zF (csr (zA J J (zA J J (jJ J J U23 (zG J J J jW ?_)))))
 refine lnx (zL J (fun hc0=>?_) (fun hc0=>?_))
 ·have hk':k<acts.length:=om;obtain⟨b,o,rfl,hb,hcell⟩:=hA om;obtain⟨x,hx⟩:∃x,acts[k]?=some x:=⟨_,List.getElem?_eq_getElem hk'⟩;obtain⟨hf1,hw1⟩:=zSa hx;have hwl:=zAm (acts.take k);have hfl:=zAe (acts.take k);rw[List.length_take] at hwl;refine zQ (zE (zF (zR (csr (zA J J (zA J J (jV (j:=k) J J J U23 F.ti3 J hk' (jU (v:=.int .i64 (x:Int)) J J F.one3 (fun a w ha=>ha.old (hcell k x hx 0 _ J) hb) (lnx (zR (csr (zG J J J kJ ?_))))))))))))
  refine lax J J (zL J (fun hc1=>?_) (fun hc1=>?_))
  ·refine zI (zD J J (zB (zM (zM (zE (zI (zA J J (zG J J J bdO (zD J J (zB (kT (k+1) om tdo (by (try dsimp only);rw[hf1,hw1];rw[if_pos om,if_neg om];simp only[Nat.add_zero];exact sbn) sbl)))))))))))
  ·refine csr (zG J J J kJ ?_)
   refine lax J J (zL J (fun hc2=>?_) (fun hc2=>?_))
   ·refine zI (zA J J (zG (v:=.int .i64 ((spW (acts.take k)+1:Nat):Int)) J J J bdP (zD J J (zB (zM (zM (zE (zI (zA J J (zG J J J bdO (zD J J (zB (kT (k+1) om tdo (by (try dsimp only);rw[hf1,hw1];rw[if_neg om,if_pos om];exact sbn) sbl)))))))))))))
   ·refine zQ (zM (zM (zE (zI (zA J J (zG J J J bdO (zD J J (zB (kT (k+1) om tdo (by (try dsimp only);rw[hf1,hw1];rw[if_neg om,if_neg om];simp only[Nat.add_zero];exact sbn) sbl)))))))))
 ·obtain rfl:k=acts.length:=om;simp only[List.take_length];have hwl:=zAm acts;have hfl:=zAe acts;exact jS (zN (zN (jB (zE (csr (zA J J (zA J J (zG (v:=.int .i64 ((dayC acts:Nat):Int)) J J J (fun w=>zAq w (by unfold dayC;rw[kQ _ om om];omega)) (lax J J (zT (zY J (rsO J J) (fun a w ha=>⟨rfl,ha.grown nsl⟩))))))))))))

theorem zYi {fA dA:Option Addr} {fc dc kiln:Nat} {fs:List Flt} {days:List Nat} {sA wA:Option Addr} {sc wc:Nat} {mo:Mor} (h3:fs.length<=3) (hff:∀f∈fs,FltOk f) (hmok:MOk mo) (hth:Thin fs.length mo) (w:World) (hF:RdL Flt.cells 4 w fA fs) (hM:RdMM fs.length w ((sA,sc),(wA,wc),mo)):Calls Tryz.prog 118 #[.agg (CA fA fs.length fc kiln dA days.length dc).toArray,.agg #[.slice sA fs.length sc,.slice wA fs.length wc]] w fun e w'=>e=.returned (.bool (agnL (start fs) mo))∧Grew w w' []:=by
 refine enter (N:=41) [(0,.agg (CA fA fs.length fc kiln dA days.length dc).toArray),(1,.agg #[.slice sA fs.length sc,.slice wA fs.length wc])] Tryz.func118 J Tryz.ntmps118 J J (csr (jP J J ?_));intro b2;refine jP J J ?_;intro b3;refine lax J J (zF (csr (lax J J (zR (qK (G:=Nat) (fun k=>k<=fs.length∧∀i f,i<k->fs[i]?=some f->f.now<=mo.s.getD i 0∧(mo.w.testBit i=true->f.washed=true)) (fun k=>fs.length-k) (fun k=>[(2,pt b2),(3,pt b3),(5,.int .i64 (k:Int))]) (fun k=>[.blk b3 (.cells #[.slice sA fs.length sc,.slice wA fs.length wc] 112 (0,0)),.blk b2 (.cells (CA fA fs.length fc kiln dA days.length dc).toArray 25 (0,0))]) 0 ⟨Nat.zero_le _,fun i f h=>absurd h (Nat.not_lt_zero _)⟩ sbn sbl ?_)))));rintro k ⟨hk0,hall⟩;dsimp only;refine zF (csr (zA J J (zK J J F.fi25_0 F.ti22 (zS J J F.one22 (jJ J J U22 (zG J J J jW ?_))))))
 refine lnx (zL J (fun hc0=>?_) (fun hc0=>?_))
 ·have hk:k<fs.length:=om;obtain⟨f,hx⟩:∃x,fs[k]?=some x:=⟨_,List.getElem?_eq_getElem hk⟩;obtain⟨bf,bo,hfA,hbf,hcf⟩:=hF om;obtain⟨bs,os,hsA,hbs,hcs⟩:=hM.s (by rw[zB6];omega);obtain⟨bw,ow,hwA,hbw,hcw⟩:=hM.w (by rw[zH6];omega);have hno:=jAn (m:=mo) h3 hmok hff hth hx;obtain⟨pw,gn,nw,wd⟩:=f;dsimp only at hno hsA hwA hcs hcw
  refine zQ (zE (zF (zR (zF (qH (G:=Bool) (fun b=>b=(decide ((mo.s.getD k 0:Int)<(nw:Int))||(mo.w.testBit k && !wd))) (fun b=>[(40,.bool b),(2,pt b2),(3,pt b3),(5,.int .i64 (k:Int))]) (fun _=>[.blk b3 (.cells #[.slice sA fs.length sc,.slice wA fs.length wc] 112 (0,0)),.blk b2 (.cells (CA fA fs.length fc kiln dA days.length dc).toArray 25 (0,0))]) ?_ ?_)))))
  ·refine jX [] F.follows 28 J (fl 28) J (zC 0 J J J (zU J F.fi112_0 F.ti23) (zC 1 J J J (jN J F.one23) (zC 2 J J J (zJ J) (zC 3 J J J (jK (j:=k) (show _=some (Value.slice (some ⟨bs,os,none⟩) fs.length sc) from by rw[<-hsA];rfl) J Tryz.underlying23 F.ti3 J hk) (zC 4 J J J (jL (v:=.int .i64 ((mo.s.getD k 0:Nat):Int)) J F.one3 (fun a w ha=>ha.old (hcs k _ (zKm hk) 0 _ J) hbs)) (zC 5 J J J (zU J F.fi25_0 F.ti22) (zC 6 J J J (jN J F.one22) (zC 7 J J J (zJ J) (zC 8 J J J (jK (j:=k) (show _=some (Value.slice (some ⟨bf,bo,none⟩) fs.length fc) from by rw[<-hfA];rfl) J Tryz.underlying22 F.ti27 J hk) (zC 9 J J J (xG J F.fi27_2 F.ti3) (zC 10 J J J (jL (v:=.int .i64 (nw:Int)) J F.one3 (fun a w ha=>ha.old (hcf k _ hx 2 _ J) hbf)) (zC 11 J J J (qO J J jW) (zC 12 J J J (zJ J) ?_)))))))))))))
   refine zL5 (t:=25) J (fun hg25=>?_) (fun hg25=>?_)
   ·refine kI 13 J J J J J kr kr kr sbl J (kI 14 J J J J J kr kr kr sbl J (kI 15 J J J J J kr kr kr sbl J (kI 16 J J J J J kr kr kr sbl J (kI 17 J J J J J kr kr kr sbl J (kI 18 J J J J J kr kr kr sbl J (yP 19 J J J J J kr kr kr sbl J (yP 20 J J J J J kr kr kr sbl J (yP 21 J J J J J kr kr kr sbl J (yP 22 J J J J J kr kr kr sbl J (yP 23 J J J J J kr kr kr sbl J (yP 24 J J J J J kr kr kr sbl J (yP 25 J J J J J kr kr kr sbl J (kI 26 J J J J J kr kr kr sbl J (zC 27 J J J (zA8 J J) (adn (jM _ ?_ sbn pkk))))))))))))))))
    first|(rw[decide_eq_true hg25]<;>rfl)|(rw[decide_eq_false hg25,hg31]<;>rfl)
   ·refine jH 13 J J J J J kr kr kr sbl (zU J F.fi112_1 F.ti107) J (jH 14 J J J J J kr kr kr sbl (jN J F.one107) J (jH 15 J J J J J kr kr kr sbl (zJ J) J (jH 16 J J J J J kr kr kr sbl (jK (j:=k) (show _=some (Value.slice (some ⟨bw,ow,none⟩) fs.length wc) from by rw[<-hwA];rfl) J Tryz.underlying107 F.ti4 J hk) J (jH 17 J J J J J kr kr kr sbl (jL (v:=.bool (mo.w.testBit k)) J F.one4 (fun a w ha=>ha.old (hcw k _ (zQl hk) 0 _ J) hbw)) J (jH 18 J J J J J kr kr kr sbl (zJ J) J ?_)))))
    refine zEv (t:=31) J (fun hg31=>?_) (fun hg31=>?_)
    ·refine jH 19 J J J J J kr kr kr sbl (zU J F.fi25_0 F.ti22) J (jH 20 J J J J J kr kr kr sbl (jN J F.one22) J (jH 21 J J J J J kr kr kr sbl (zJ J) J (jH 22 J J J J J kr kr kr sbl (jK (j:=k) (show _=some (Value.slice (some ⟨bf,bo,none⟩) fs.length fc) from by rw[<-hfA];rfl) J Tryz.underlying22 F.ti27 J hk) J (jH 23 J J J J J kr kr kr sbl (xG J F.fi27_3 F.ti4) J (jH 24 J J J J J kr kr kr sbl (jL (v:=.bool wd) J F.one4 (fun a w ha=>ha.old (hcf k _ hx 3 _ J) hbf)) J (jH 25 J J J J J kr kr kr sbl (zBp J) J (jH 26 J J J J J kr kr kr sbl (zA8 J J) J (zC 27 J J J (xN J J) (adn (jM _ ?_ sbn pkk))))))))))
     first|(rw[decide_eq_true hg25]<;>rfl)|(rw[decide_eq_false hg25,hg31]<;>rfl)
    ·refine kI 19 J J J J J kr kr kr sbl J (kI 20 J J J J J kr kr kr sbl J (kI 21 J J J J J kr kr kr sbl J (kI 22 J J J J J kr kr kr sbl J (kI 23 J J J J J kr kr kr sbl J (kI 24 J J J J J kr kr kr sbl J (kI 25 J J J J J kr kr kr sbl J (jH 26 J J J J J kr kr kr sbl (xN J J) J (zC 27 J J J (xN J J) (adn (jM _ ?_ sbn pkk))))))))))
     first|(rw[decide_eq_true hg25]<;>rfl)|(rw[decide_eq_false hg25,hg31]<;>rfl)
  ·rintro b hb
   refine zE (kS J (fun hc1=>?_) (fun hc1=>?_))
   ·refine csr (lax J J (zT (jR (zP (zP (jR (zP ?_)))))))
    exact zY J (rsO J J) (fun a w ha=>⟨by
     rw[show agnL (start fs) mo=false from hno (by
      rintro⟨h1,h2⟩;rw[hc1,decide_eq_false om,Bool.false_or] at hb
      cases hw:mo.w.testBit k with
      | false=>rw[hw] at hb;cases hb
      | true=>rw[hw,h2 hw] at hb;cases hb)],ha.grown nsl⟩)
   ·refine zQ (zM (zE (zI (zA J J (zG J J J bdO (zD J J (zB (kT (k+1) ⟨by omega,fun i f hi hf=>?_⟩ tdo sbn sbl))))))))
    rcases Nat.lt_or_ge i k with h|h
    ·exact hall i f h hf
    ·obtain rfl:k=i:=om;rw[hx] at hf
     cases hf
     rw[hc1] at hb;obtain⟨h1,h2⟩:=Bool.or_eq_false_iff.1 hb.symm;refine⟨by have:=of_decide_eq_false h1;show nw<=_;omega,fun hw=>?_⟩;rw[hw,Bool.true_and] at h2;show wd=true
     cases wd with
     | true=>rfl
     | false=>cases h2
 ·obtain rfl:k=fs.length:=om;exact jS (zN (zN (jB (zE (csr (lax J J (zT (zY J (rsO J J) (fun a w ha=>⟨by rw[(zR0 h3 hmok hff hth).2 fun i f hx=>hall i f (List.getElem?_eq_some_iff.1 hx).1 hx],ha.grown nsl⟩)))))))))

theorem F.ent118:Enters Tryz.prog 118:=jD Tryz.func118 rfl kr
theorem F.ent79:Enters Tryz.prog 79:=jD Tryz.func79 rfl kr
theorem jBl {fA dA lA:Option Addr} {fc dc lc kiln:Nat} {fs:List Flt} {days:List Nat} (hc:ChW fs kiln days) {LS:List LZ} {rp:Bool} (hLS:LS.reverse.map lmor=(List.range (days.length+1)).map (fun i=>lvlL fs kiln (days.take i))) (w:World) (hF:RdL Flt.cells 4 w fA fs) (hD:RdL ncell 1 w dA days) (hL:RdLv fs.length w lA LS):Calls Tryz.prog 98 #[.agg (CA fA fs.length fc kiln dA days.length dc).toArray,.slice lA LS.length lc,.bool rp] w fun e w'=>∃(A:Option Addr) (c:Nat) (W:List OZ),W.length=days.length+1∧(∀i o,W[i]?=some o->o.2.2=costL (lasR fs rp) fs kiln days i)∧e=.returned (.slice A W.length c)∧Grew w w' (.row 23 1 A W.length c (W.map ocell)::W.map orow):=by
 refine enter (N:=169) [(0,.agg (CA fA fs.length fc kiln dA days.length dc).toArray),(1,.slice lA LS.length lc),(2,.bool rp)] Tryz.func98 J Tryz.ntmps98 J J (zF (zI ?_));have hd4:=hc.d4;have hd1:=hc.d1;have hf3:=hc.f3;have hten:=zHo hc.f3;have hLl:LS.length=days.length+1:=by have h:=congrArg List.length hLS;simpa using h
 obtain⟨bl,ol,hlA,hbl,hcl⟩:=hL.outer (by simp;omega);obtain⟨x0,hx0⟩:∃y,LS.reverse[days.length]?=some y:=⟨_,List.getElem?_eq_getElem (by simp;omega)⟩;have hx0L:x0∈LS:=List.mem_reverse.1 (List.mem_of_getElem? hx0)
 have hx0m:lmor x0=lvlL fs kiln (days.take (days.length)):=by
  have h:=xO hLS hx0;rw[List.getElem?_map,List.getElem?_range om] at h;injection h with h;exact h.symm
 have hx0n:x0.2.2.length<=1000:=by
  rw[<-wB,hx0m];exact zEt hc _
 have hx0k:∀y∈x0.2.2,MOk y.2.2∧Thin fs.length y.2.2:=fun y hy=>by
  have h:y.2.2∈lvlL fs kiln (days.take (days.length)):=hx0m▸List.mem_map_of_mem (List.mem_reverse.2 hy);exact zAn hc h
 refine jP J J ?_;intro b3;refine lax J J (csr (zA J J (jJ J J U104 (zFn (n:=LS.length) (zNx _) J J J U35 F.ti23 om om om ?_))));intro b21;rw[show List.replicate LS.length (Value.slice none 0 0)=List.replicate days.length (Value.slice none 0 0)++[(Value.slice none 0 0)] from by rw[hLl,List.replicate_succ']];refine lax J J (csr (zA J J (jJ J J Tryz.underlying104 (zG (v:=.int .i64 (days.length:Int)) J J J (fun w=>xJ w (by rw[kQ _ om om];omega)) (lax J J (zF (csr (lax J J (zR (vZ 3 1 (qU (G:=Nat×OZ) (fun g=>g.1<=x0.2.2.length∧g.2.2.2=((lmor x0).take g.1).map (fun m=>encO (bO (lasR fs rp) fs kiln days 0 m))) (fun g=>x0.2.2.length-g.1) (fun g=>[(1,.slice lA LS.length lc),(2,.bool rp),(3,pt b3),(7,.slice (some ⟨b21,0,none⟩) LS.length LS.length),(8,.int .i64 (days.length:Int)),(9,.int .i64 (g.1:Int))]) (fun g=>[.row 3 1 g.2.1 g.2.2.2.length g.2.2.1 (zis g.2.2.2),.row 23 1 (some ⟨b21,0,none⟩) LS.length LS.length (List.replicate days.length (Value.slice none 0 0)++[.slice g.2.1 g.2.2.2.length g.2.2.1]),.blk b3 (.cells (CA fA fs.length fc kiln dA days.length dc).toArray 25 (0,0))]) (0,none,0,[]) ⟨Nat.zero_le _,rfl⟩ sbn (by dsimp only[List.length_nil];simp only[zis,List.map_nil];exact pkk) ?_)))))))))));rintro⟨k,A,c,xs⟩ ⟨hk0,hxs⟩;dsimp only at hk0 hxs ⊢;refine zF (csr (zA J J (zA J J (zA J J (jV (j:=days.length) J (show _=some (Value.slice (some ⟨bl,ol,none⟩) LS.length lc) from by rw[<-hlA];rfl) J Tryz.underlying104 F.ti109 om om (jU (v:=.slice x0.1 x0.2.2.length x0.2.1) J J F.one109 (fun a w ha=>ha.old (hcl (days.length) _ hx0 0 _ J) hbl) (jJ J J Tryz.underlying109 (zG J J J jW ?_))))))))
 refine lnx (zL J (fun hc0=>?_) (fun hc0=>?_))
 ·have hk:k<x0.2.2.length:=om;have hxl:xs.length=k:=by rw[hxs,List.length_map,List.length_take,wB];omega
  obtain⟨y,hy⟩:∃y,x0.2.2.reverse[k]?=some y:=⟨_,List.getElem?_eq_getElem (by simp;omega)⟩;have hyx:y∈x0.2.2:=List.mem_reverse.1 (List.mem_of_getElem? hy);have hml:(lmor x0)[k]?=some y.2.2:=by unfold lmor;rw[List.getElem?_map,hy];rfl
  have hmv:=hx0m▸List.mem_of_getElem? hml;obtain⟨hmok,hmth⟩:=zAn hc hmv;have hin:=(hL.inner x0 hx0L).inner y (List.mem_reverse.2 hyx);obtain⟨bx,ox9,hxA,hbx,hcx⟩:=(hL.inner x0 hx0L).outer (by simp;omega);obtain⟨⟨sA,sc⟩,⟨wA,wc⟩,mo⟩:=y;dsimp only at hml hmv hmok hmth;refine zQ (zE (zF (zR (zF ?_))))
  cases rp
  ·refine jX [] F.follows 13 J (fl 13) J (zC 0 J J J (zJ J) (zC 1 J J J (zJ J) (kI 2 J J J J J kr kr kr sbl J (kI 3 J J J J J kr kr kr sbl J (kI 4 J J J J J kr kr kr sbl J (kI 5 J J J J J kr kr kr sbl J (kI 6 J J J J J kr kr kr sbl J (kI 7 J J J J J kr kr kr sbl J (kI 8 J J J J J kr kr kr sbl J (kI 9 J J J J J kr kr kr sbl J (kI 10 J J J J J kr kr kr sbl J (kI 11 J J J J J kr kr kr sbl J (zC 12 J J J (xN J J) (adn (zE (kM J (zI (zA J J (zA J J (zA J J (zA J J (jV (j:=days.length) J J J Tryz.underlying35 F.ti23 om om (jU (v:=.slice A xs.length c) J J F.one23 (fun a w ha=>kV ha (InR.mem (A:=some ⟨b21,0,none⟩)) J (by rw[show 0+days.length*1=days.length from by omega];exact zFe _ _ _ _)) (kC (vs:=[(0,_)]) J J Tryz.underlying23 F.ti3 J J J ?_))))))))))))))))))))))));intro b62;refine kD J J J Tryz.underlying23 F.ti3 J J J (by unfold maxLen;omega) om ?_;intro A9 c9;refine jV (j:=days.length) J J J Tryz.underlying35 F.ti23 om om (vG (A:=some ⟨b21,0,none⟩) (List.replicate days.length (Value.slice none 0 0)++.slice A9 (xs.length+1) c9::[]) (show _=some (Value.pointer (some ⟨b21,0+days.length*1,none⟩)) from rfl) J F.ti23 J (by simp only[List.length_append,List.length_replicate,List.length_cons];omega) (by rw[show 0+days.length*1=days.length from by omega];exact zFi _ _ _ _ _) (zB (zM (zE (zI (zA J J (zG J J J bdO (zD J J (zB (kZ (k+1,A9,c9,xs++[0]) ⟨by (try dsimp only);omega,?_⟩ tdo sbn (by dsimp only;rw[List.length_append,List.length_singleton,zF9];exact pkk)))))))))));(try dsimp only);rw[<-zBb (f:=fun m=>encO (bO _ fs kiln days 0 m)) hml hxs];(try dsimp only);rw[zI5]
   rfl
  ·refine jX [] F.follows 13 J (fl 13) J (zC 0 J J J (zJ J) (zC 1 J J J (zJ J) (jH 2 J J J J J kr kr kr sbl (kU J F.agg25 F.ti25) J (jH 3 J J J J J kr kr kr sbl (zJ J) J (jH 4 J J J J J kr kr kr sbl (zJ J) J (jH 5 J J J J J kr kr kr sbl (jK (j:=days.length) (show _=some (Value.slice (some ⟨bl,ol,none⟩) LS.length lc) from by rw[<-hlA];rfl) J Tryz.underlying104 F.ti109 om om) J (jH 6 J J J J J kr kr kr sbl (jL (v:=.slice x0.1 x0.2.2.length x0.2.1) J F.one109 (fun a w ha=>ha.old (hcl (days.length) _ hx0 0 _ J) hbl)) J (jH 7 J J J J J kr kr kr sbl (zJ J) J (jH 8 J J J J J kr kr kr sbl (jK (j:=k) (show _=some (Value.slice (some ⟨bx,ox9,none⟩) x0.2.2.length x0.2.1) from by rw[<-hxA];rfl) J Tryz.underlying109 F.ti112 J hk) J (jH 9 J J J J J kr kr kr sbl (qC (l:=[.slice sA fs.length sc,.slice wA fs.length wc]) J F.agg112 F.ti112 J (fun a w ha j u hu=>ha.old (hcx k _ hy j u hu) hbx)) J (an1 10 J (zO J J (jF (v:=.bool (agnL (start fs) mo)) (vs:=[_,_]) J J F.ent118 (fun a w ha=>zYi hc.f3 hc.ff hmok hmth w (hF.later ha.below) (hin.later ha.below)) (zB (anb (jH 11 J J J J J kr kr kr sbl (zBp J) J (zC 12 J J J (zA8 J J) ?_)))))))))))))))))
   refine adn (zE (kS J (fun hc1=>?_) (fun hc1=>?_)))
   ·refine zI (zA J J (zA J J (zA J J (zA J J (jV (j:=days.length) J J J Tryz.underlying35 F.ti23 om om (jU (v:=.slice A xs.length c) J J F.one23 (fun a w ha=>kV ha (InR.mem (A:=some ⟨b21,0,none⟩)) J (by rw[show 0+days.length*1=days.length from by omega];exact zFe _ _ _ _)) (kC (vs:=[(0,_)]) J J Tryz.underlying23 F.ti3 J J J ?_)))))));intro b53;refine kD J J J Tryz.underlying23 F.ti3 J J J (by unfold maxLen;omega) om ?_;intro A9 c9;refine jV (j:=days.length) J J J Tryz.underlying35 F.ti23 om om (vG (A:=some ⟨b21,0,none⟩) (List.replicate days.length (Value.slice none 0 0)++.slice A9 (xs.length+1) c9::[]) (show _=some (Value.pointer (some ⟨b21,0+days.length*1,none⟩)) from rfl) J F.ti23 J (by simp only[List.length_append,List.length_replicate,List.length_cons];omega) (by rw[show 0+days.length*1=days.length from by omega];exact zFi _ _ _ _ _) (zB (zM (zE (zI (zA J J (zG J J J bdO (zD J J (zB (kZ (k+1,A9,c9,xs++[-1]) ⟨by (try dsimp only);omega,?_⟩ tdo sbn (by dsimp only;rw[List.length_append,List.length_singleton,zF9];exact pkk)))))))))));(try dsimp only);rw[<-zBb (f:=fun m=>encO (bO _ fs kiln days 0 m)) hml hxs];(try dsimp only);rw[zI5];rw[if_neg (by show ¬agnL (start fs) mo=true;intro h;rw[h] at hc1;cases hc1)]
   ·refine zI (zA J J (zA J J (zA J J (zA J J (jV (j:=days.length) J J J Tryz.underlying35 F.ti23 om om (jU (v:=.slice A xs.length c) J J F.one23 (fun a w ha=>kV ha (InR.mem (A:=some ⟨b21,0,none⟩)) J (by rw[show 0+days.length*1=days.length from by omega];exact zFe _ _ _ _)) (kC (vs:=[(0,_)]) J J Tryz.underlying23 F.ti3 J J J ?_)))))));intro b62;refine kD J J J Tryz.underlying23 F.ti3 J J J (by unfold maxLen;omega) om ?_;intro A9 c9;refine jV (j:=days.length) J J J Tryz.underlying35 F.ti23 om om (vG (A:=some ⟨b21,0,none⟩) (List.replicate days.length (Value.slice none 0 0)++.slice A9 (xs.length+1) c9::[]) (show _=some (Value.pointer (some ⟨b21,0+days.length*1,none⟩)) from rfl) J F.ti23 J (by simp only[List.length_append,List.length_replicate,List.length_cons];omega) (by rw[show 0+days.length*1=days.length from by omega];exact zFi _ _ _ _ _) (zB (zM (zE (zI (zA J J (zG J J J bdO (zD J J (zB (kZ (k+1,A9,c9,xs++[0]) ⟨by (try dsimp only);omega,?_⟩ tdo sbn (by dsimp only;rw[List.length_append,List.length_singleton,zF9];exact pkk)))))))))));(try dsimp only);rw[<-zBb (f:=fun m=>encO (bO _ fs kiln days 0 m)) hml hxs];(try dsimp only);rw[zI5]
    rw[if_pos (by show agnL (start fs) mo=true;cases h:agnL (start fs) mo with
     | true=>rfl
     | false=>rw[h] at hc1;cases hc1)]
 ·obtain rfl:k=x0.2.2.length:=om;rw[List.take_of_length_le (by rw[wB];exact Nat.le_refl _)] at hxs;refine jS (zN (zN (jB (zE (csr (zK J J F.fi25_0 F.ti22 (zS J J F.one22 (jJ J J U22 (kF (X:=Option Addr×Nat×List Meta) (vs:=[_]) (p:=fun y=>y.2.2.reverse.map (·.2.2)=exts [] fs.length) (val:=fun y=>.slice y.1 y.2.2.length y.2.1) (rs:=fun y=>.row 23 1 y.1 y.2.2.length y.2.1 (y.2.2.reverse.map mcell)::y.2.2.map mrow) J J F.ent75 (fun a w ha=>(zKa fs.length hc.f3 w).mono (fun e w' h=>by obtain⟨A',c',S',h1,h2,h3⟩:=h;exact⟨(A',c',S'),h1,h2,h3⟩)) ?_)))))))));rintro⟨A4,c4,S⟩ hS;dsimp only at hS ⊢;have hSl:S.length=4^fs.length:=by have h:=congrArg List.length hS;rw[vO] at h;simpa using h
  have hS64:=Nat.pow_le_pow_right (n:=4) (by decide) hc.f3;have hS0:0<4^fs.length:=Nat.pow_pos (by decide);refine xT (List.Perm.cons _ List.perm_append_comm) ?_;simp only[List.cons_append,List.nil_append];refine vS A4 om ?_;intro g4 hg4;refine lax J J (zF (csr (zA J J (zG J J J (fun w=>xJ w (kQ _ om om)) ?_))))
  refine lax J J (zR (qU (G:=Nat×List OZ) (fun g=>g.1<=days.length∧g.2.length+g.1=days.length+1∧∀i o,g.2[i]?=some o->o.2.2=costL (lasR fs rp) fs kiln days (g.1+i)) (fun g=>g.1) (fun g=>[(1,.slice lA LS.length lc),(3,pt b3),(7,.slice (some ⟨b21,0,none⟩) LS.length LS.length),(10,.slice A4 S.length c4),(11,.int .i64 ((g.1:Int)-1))]) (fun g=>.row 23 1 A4 S.length c4 (S.reverse.map mcell)::.row 23 1 (some ⟨b21,0,none⟩) LS.length LS.length (List.replicate g.1 (Value.slice none 0 0)++g.2.map ocell)::.blk b3 (.cells (CA fA fs.length fc kiln dA days.length dc).toArray 25 (0,0))::(g.2.map orow++S.map mrow)) (days.length,[(A,c,xs)]) ⟨Nat.le_refl _,by simp;omega,fun i o ho=>?_⟩ sbn (by dsimp only;simp only[List.map_cons,List.map_nil,orow,ocell,List.cons_append,List.nil_append];exact pkk) ?_))
  ·cases i with
   | zero =>
    injection ho with ho;subst ho;show xs=costL _ _ _ _ (days.length+0);unfold costL
    rw[Nat.add_zero,Nat.sub_self,hxs,hx0m]
   | succ i=>simp at ho
  rintro⟨D,W⟩ ⟨hD0,hWl,hW⟩;dsimp only at hD0 hWl hW ⊢;refine zF (csr (zA J J (zG J J J zH2 ?_)))
  refine lnx (zL J (fun hc2=>?_) (fun hc2=>?_))
  ·obtain⟨d,rfl⟩:∃d,D=d+1:=⟨D-1,by omega⟩;have em:(((d+1:Nat):Int)-1)=(d:Int):=om;rw[em];have hd:d<days.length:=om;obtain⟨bd,bo,hdA,hbd,hcd⟩:=hD om;obtain⟨sg,hsg⟩:∃y,days[d]?=some y:=⟨_,List.getElem?_eq_getElem hd⟩;have hsg12:=hc.dd sg (List.mem_of_getElem? hsg);obtain⟨x1,hx1⟩:∃y,LS.reverse[d]?=some y:=⟨_,List.getElem?_eq_getElem (by simp;omega)⟩;have hx1L:x1∈LS:=List.mem_reverse.1 (List.mem_of_getElem? hx1)
   have hx1m:lmor x1=lvlL fs kiln (days.take (d)):=by
    have h:=xO hLS hx1;rw[List.getElem?_map,List.getElem?_range om] at h;injection h with h;exact h.symm
   have hx1n:x1.2.2.length<=1000:=by
    rw[<-wB,hx1m];exact zEt hc _
   have hx1k:∀y∈x1.2.2,MOk y.2.2∧Thin fs.length y.2.2:=fun y hy=>by
    have h:y.2.2∈lvlL fs kiln (days.take (d)):=hx1m▸List.mem_map_of_mem (List.mem_reverse.2 hy);exact zAn hc h
   obtain⟨x2,hx2⟩:∃y,LS.reverse[d+1]?=some y:=⟨_,List.getElem?_eq_getElem (by simp;omega)⟩;have hx2L:x2∈LS:=List.mem_reverse.1 (List.mem_of_getElem? hx2)
   have hx2m:lmor x2=lvlL fs kiln (days.take (d+1)):=by
    have h:=xO hLS hx2;rw[List.getElem?_map,List.getElem?_range om] at h;injection h with h;exact h.symm
   have hx2n:x2.2.2.length<=1000:=by
    rw[<-wB,hx2m];exact zEt hc _
   have hx2k:∀y∈x2.2.2,MOk y.2.2∧Thin fs.length y.2.2:=fun y hy=>by
    have h:y.2.2∈lvlL fs kiln (days.take (d+1)):=hx2m▸List.mem_map_of_mem (List.mem_reverse.2 hy);exact zAn hc h
   obtain⟨⟨oA,oc,ox⟩,W,rfl⟩:∃o W',W=o::W':=by
    cases W with
    | nil=>simp at hWl;omega
    | cons o W=>exact⟨o,W,rfl⟩
   have hoc:ox=costL (lasR fs rp) fs kiln days (d+1):=hW 0 _ J;simp only[List.map_cons,orow,ocell,List.cons_append];rw[zY9];refine zQ (zE (zF (zR (zF (jX [] F.follows 10 J (fl 10) J (zC 0 J J J (zJ J) (zC 1 J J J (zJ J) (zC 2 J J J (qO (v:=.int .i64 ((d+1:Nat):Int)) J J bdP) (zC 3 J J J (jK (j:=d+1) (show _=some (Value.slice (some ⟨bl,ol,none⟩) LS.length lc) from by rw[<-hlA];rfl) J Tryz.underlying104 F.ti109 om om) (zC 4 J J J (jL (v:=.slice x2.1 x2.2.2.length x2.2.1) J F.one109 (fun a w ha=>ha.old (hcl (d+1) _ hx2 0 _ J) hbl)) (zC 5 J J J (zU J F.fi25_0 F.ti22) (zC 6 J J J (jN J F.one22) (zC 7 J J J (wU J Tryz.underlying22) (an1 8 J ?_))))))))))))))
   refine kF (X:=Nat) (vs:=[_,_]) (p:=fun _=>True) (val:=fun y=>.slice (some ⟨y,0,none⟩) (ten fs.length) (ten fs.length)) (rs:=fun y=>[.row 3 1 (some ⟨y,0,none⟩) (ten fs.length) (ten fs.length) (zis (tabK (ten fs.length) (cods fs.length x2.2.2.reverse) x2.2.2.length))]) J J F.ent76 (fun a w ha=>?_) ?_
   ·have h:=zJj (l:=x2.2.2.reverse) (A:=x2.1) (c:=x2.2.1) hc.f3 (fun y hy=>(hx2k y (List.mem_reverse.1 hy)).1) (by rw[List.length_reverse];omega) w ((hL.inner x2 hx2L).later ha.below);rw[List.length_reverse] at h;exact h.mono (fun e w' h=>by obtain⟨b,h1,h2⟩:=h;exact⟨b,trivial,h1,h2⟩)
   rintro bt -;dsimp only[List.cons_append,List.nil_append];refine zB (anb (zC 9 J J J (jY J) (adn (zE (csr (lax J J (zR (vZ 3 1 (qU (G:=Nat×OZ) (fun g=>g.1<=x1.2.2.length∧g.2.2.2=((lmor x1).take g.1).map (fun m=>encO (bO (lasR fs rp) fs kiln days (days.length-d) m))) (fun g=>x1.2.2.length-g.1) (fun g=>[(1,.slice lA LS.length lc),(3,pt b3),(7,.slice (some ⟨b21,0,none⟩) LS.length LS.length),(10,.slice A4 S.length c4),(11,.int .i64 (d:Int)),(12,.slice (some ⟨bt,0,none⟩) (ten fs.length) (ten fs.length)),(13,.int .i64 (g.1:Int))]) (fun g=>.row 3 1 g.2.1 g.2.2.2.length g.2.2.1 (zis g.2.2.2)::.row 3 1 (some ⟨bt,0,none⟩) (ten fs.length) (ten fs.length) (zis (tabK (ten fs.length) (cods fs.length x2.2.2.reverse) x2.2.2.length))::.row 23 1 A4 S.length c4 (S.reverse.map mcell)::.row 23 1 (some ⟨b21,0,none⟩) LS.length LS.length (List.replicate d (Value.slice none 0 0)++.slice g.2.1 g.2.2.2.length g.2.2.1::.slice oA ox.length oc::W.map ocell)::.blk b3 (.cells (CA fA fs.length fc kiln dA days.length dc).toArray 25 (0,0))::.row 3 1 oA ox.length oc (zis ox)::(W.map orow++S.map mrow)) (0,none,0,[]) ⟨Nat.zero_le _,rfl⟩ sbn (by dsimp only[List.length_nil];simp only[zis,List.map_nil];exact pkk) ?_)))))))));rintro⟨i,A,c,xs⟩ ⟨hi0,hxs⟩;dsimp only at hi0 hxs ⊢;refine zF (csr (zA J J (zA J J (zA J J (jV (j:=d) J (show _=some (Value.slice (some ⟨bl,ol,none⟩) LS.length lc) from by rw[<-hlA];rfl) J Tryz.underlying104 F.ti109 om om (jU (v:=.slice x1.1 x1.2.2.length x1.2.1) J J F.one109 (fun a w ha=>ha.old (hcl (d) _ hx1 0 _ J) hbl) (jJ J J Tryz.underlying109 (zG J J J jW ?_))))))))
   refine lnx (zL J (fun hc3=>?_) (fun hc3=>?_))
   ·have hi:i<x1.2.2.length:=om;have hxl:xs.length=i:=by rw[hxs,List.length_map,List.length_take,wB];omega
    obtain⟨y,hy⟩:∃y,x1.2.2.reverse[i]?=some y:=⟨_,List.getElem?_eq_getElem (by simp;omega)⟩;have hyx:y∈x1.2.2:=List.mem_reverse.1 (List.mem_of_getElem? hy);have hml:(lmor x1)[i]?=some y.2.2:=by unfold lmor;rw[List.getElem?_map,hy];rfl
    have hmv:=hx1m▸List.mem_of_getElem? hml;obtain⟨hmok,hmth⟩:=zAn hc hmv;have hin:=(hL.inner x1 hx1L).inner y (List.mem_reverse.2 hyx);obtain⟨bx,ox9,hxA,hbx,hcx⟩:=(hL.inner x1 hx1L).outer (by simp;omega);obtain⟨⟨sA,sc⟩,⟨wA,wc⟩,mo⟩:=y;dsimp only at hml hmv hmok hmth;refine zQ (zE (zF (zR (csr (lax J J (zF (csr (lax J J (zR (qK (G:=Nat) (fun k=>k<=S.length) (fun k=>S.length-k) (fun k=>[(1,.slice lA LS.length lc),(3,pt b3),(7,.slice (some ⟨b21,0,none⟩) LS.length LS.length),(10,.slice A4 S.length c4),(11,.int .i64 (d:Int)),(12,.slice (some ⟨bt,0,none⟩) (ten fs.length) (ten fs.length)),(13,.int .i64 (i:Int)),(14,.int .i64 (encO (folO (lasR fs rp) fs kiln days (days.length-(d+1)) d mo ((exts [] fs.length).take k)))),(15,.int .i64 (k:Int))]) (fun k=>.row 3 1 A xs.length c (zis xs)::.row 3 1 (some ⟨bt,0,none⟩) (ten fs.length) (ten fs.length) (zis (tabK (ten fs.length) (cods fs.length x2.2.2.reverse) x2.2.2.length))::.row 23 1 A4 S.length c4 (S.reverse.map mcell)::.row 23 1 (some ⟨b21,0,none⟩) LS.length LS.length (List.replicate d (Value.slice none 0 0)++.slice A xs.length c::.slice oA ox.length oc::W.map ocell)::.blk b3 (.cells (CA fA fs.length fc kiln dA days.length dc).toArray 25 (0,0))::.row 3 1 oA ox.length oc (zis ox)::(W.map orow++S.map mrow)) 0 (Nat.zero_le _) sbn sbl ?_))))))))));intro k hk0;(try dsimp only at hk0 ⊢);refine zF (csr (zA J J (zA J J (jJ J J U35 (zG J J J jW ?_)))))
    refine lnx (zL J (fun hc4=>?_) (fun hc4=>?_))
    ·have hk:k<S.length:=om;obtain⟨s,hs⟩:∃y,S.reverse[k]?=some y:=⟨_,List.getElem?_eq_getElem (by simp;omega)⟩;have hsS:s∈S:=List.mem_reverse.1 (List.mem_of_getElem? hs);have hsl:(exts [] fs.length)[k]?=some s.2.2:=xO hS hs;have hsn:s.2.2.length=fs.length:=by rw[vX _ _ _ (List.mem_of_getElem? hsl),List.length_nil];omega
     have hs3:s.2.2.length<=3:=by have:=hc.f3;omega
     have hdc:=zRy hs3;refine zQ (zE (zF (zR (zF ?_))));rcases hDy:dayE fs kiln mo s.2.2 sg with ⟨e,m1⟩
     obtain rfl|⟨er,rfl⟩:e=0∨∃er,e=er+1:=by
      cases e with
      | zero=>exact .inl rfl
      | succ er=>exact .inr ⟨er,rfl⟩
     ·refine qH (G:=Nat×(Option Addr×Nat)×(Option Addr×Nat)) (fun _=>True) (fun g=>[(16,.pointer (some ⟨g.1,0,none⟩)),(17,.int .i64 0),(1,.slice lA LS.length lc),(3,pt b3),(7,.slice (some ⟨b21,0,none⟩) LS.length LS.length),(10,.slice A4 S.length c4),(11,.int .i64 (d:Int)),(12,.slice (some ⟨bt,0,none⟩) (ten fs.length) (ten fs.length)),(13,.int .i64 (i:Int)),(14,.int .i64 (encO (folO (lasR fs rp) fs kiln days (days.length-(d+1)) d mo ((exts [] fs.length).take k)))),(15,.int .i64 (k:Int))]) (fun g=>.row 3 1 g.2.1.1 fs.length g.2.1.2 (ints (sts fs.length m1))::.row 4 1 g.2.2.1 fs.length g.2.2.2 (bools (wbs fs.length m1))::.blk g.1 (.cells #[.slice g.2.1.1 fs.length g.2.1.2,.slice g.2.2.1 fs.length g.2.2.2] 112 (0,0))::.row 3 1 A xs.length c (zis xs)::.row 3 1 (some ⟨bt,0,none⟩) (ten fs.length) (ten fs.length) (zis (tabK (ten fs.length) (cods fs.length x2.2.2.reverse) x2.2.2.length))::.row 23 1 A4 S.length c4 (S.reverse.map mcell)::.row 23 1 (some ⟨b21,0,none⟩) LS.length LS.length (List.replicate d (Value.slice none 0 0)++.slice A xs.length c::.slice oA ox.length oc::W.map ocell)::.blk b3 (.cells (CA fA fs.length fc kiln dA days.length dc).toArray 25 (0,0))::.row 3 1 oA ox.length oc (zis ox)::(W.map orow++S.map mrow)) ?_ ?_
      ·refine jX [] F.follows 24 J (fl 24) J (zC 0 J J J (kU J F.agg25 F.ti25) (zC 1 J J J (zU J F.fi25_2 F.ti23) (zC 2 J J J (jN J F.one23) (zC 3 J J J (zJ J) (zC 4 J J J (jK (j:=d) (show _=some (Value.slice (some ⟨bd,bo,none⟩) days.length dc) from by rw[<-hdA];rfl) J Tryz.underlying23 F.ti3 J hd) (zC 5 J J J (jL (v:=.int .i64 (sg:Int)) J F.one3 (fun a w ha=>ha.old (hcd d _ hsg 0 _ J) hbd)) (zC 6 J J J (zJ J) (zC 7 J J J (zJ J) (zC 8 J J J (jK (j:=d) (show _=some (Value.slice (some ⟨bl,ol,none⟩) LS.length lc) from by rw[<-hlA];rfl) J Tryz.underlying104 F.ti109 om om) (zC 9 J J J (jL (v:=.slice x1.1 x1.2.2.length x1.2.1) J F.one109 (fun a w ha=>ha.old (hcl (d) _ hx1 0 _ J) hbl)) (zC 10 J J J (zJ J) (zC 11 J J J (jK (j:=i) (show _=some (Value.slice (some ⟨bx,ox9,none⟩) x1.2.2.length x1.2.1) from by rw[<-hxA];rfl) J Tryz.underlying109 F.ti112 J hi) (zC 12 J J J (qC (l:=[.slice sA fs.length sc,.slice wA fs.length wc]) J F.agg112 F.ti112 J (fun a w ha j u hu=>ha.old (hcx i _ hy j u hu) hbx)) (zC 13 J J J (zJ J) (zC 14 J J J (zJ J) (zC 15 J J J (jK (j:=k) (show _=some (Value.slice (some ⟨g4,0,none⟩) S.length c4) from by rw[<-hg4];rfl) J Tryz.underlying35 F.ti23 J hk) (zC 16 J J J (jL (v:=.slice s.1 s.2.2.length s.2.1) J F.one23 (fun a w ha=>kV ha (InR.mem (A:=A4)) hg4 (by rw[show 0+k*1=k from by omega];exact yL hs))) ?_)))))))))))))))))
       refine qE 17 21 kr J J J J ?_ ?_
       ·refine kF (X:=(Option Addr×Nat)×(Option Addr×Nat)) (vs:=[_,_,_,_]) (p:=fun _=>True) (val:=fun y=>.tuple #[.agg (mmc fs.length (y.1,y.2,m1)).toArray,.int .i64 0]) (rs:=fun y=>mmr fs.length (y.1,y.2,m1)) J J F.ent77 (fun a w ha=>(vR (nd:=days.length) (dA:=dA) (dc:=dc) hc.f3 hc.ff hmok hsn om w (hF.later ha.below) (hin.later ha.below) (vT ha (by repeat (first|exact List.mem_map_of_mem hsS|exact List.mem_append_right _ (List.mem_map_of_mem hsS)|apply List.Mem.tail)))).mono (fun e w' h=>by
         rw[hDy] at h;rcases h with ⟨_,sA,sc,wA,wc,h1,h2⟩|⟨h0,_⟩
         ·exact⟨((sA,sc),(wA,wc)),trivial,h1,h2⟩
         ·exact absurd J h0)) ?_
        rintro⟨⟨qA,qc⟩,⟨uA,uc⟩⟩ -;dsimp only[mmc,mmr,List.cons_append,List.nil_append];refine zB (anb (zC 18 J J J (zJ J) (zC 19 J J J (jQ J J) (zC 20 J J J (jQ J J) (an1 21 J (zX J F.ti112 ?_))))));intro b16;exact zB (anb (an1 22 J (zH J J F.ti112 J (zB (anb (zC 23 J J J (jY J) (adn (jM (b16,(qA,qc),(uA,uc)) trivial sbn pkk))))))))
       ·refine zX J F.ti112 ?_;intro b16;refine zB (anb (an1 17 J ?_))
        refine kF (X:=(Option Addr×Nat)×(Option Addr×Nat)) (vs:=[_,_,_,_]) (p:=fun _=>True) (val:=fun y=>.tuple #[.agg (mmc fs.length (y.1,y.2,m1)).toArray,.int .i64 0]) (rs:=fun y=>mmr fs.length (y.1,y.2,m1)) J J F.ent77 (fun a w ha=>(vR (nd:=days.length) (dA:=dA) (dc:=dc) hc.f3 hc.ff hmok hsn om w (hF.later ha.below) (hin.later ha.below) (vT ha (by repeat (first|exact List.mem_map_of_mem hsS|exact List.mem_append_right _ (List.mem_map_of_mem hsS)|apply List.Mem.tail)))).mono (fun e w' h=>by
         rw[hDy] at h;rcases h with ⟨_,sA,sc,wA,wc,h1,h2⟩|⟨h0,_⟩
         ·exact⟨((sA,sc),(wA,wc)),trivial,h1,h2⟩
         ·exact absurd J h0)) ?_
        rintro⟨⟨qA,qc⟩,⟨uA,uc⟩⟩ -;dsimp only[mmc,mmr,List.cons_append,List.nil_append];exact zB (anb (zC 18 J J J (zJ J) (zC 19 J J J (jQ J J) (zC 20 J J J (jQ J J) (an1 22 J (zH J J F.ti112 J (zB (anb (zC 23 J J J (jY J) (adn (jM (b16,(qA,qc),(uA,uc)) trivial sbn pkk)))))))))))
      ·rintro⟨b16,⟨qA,qc⟩,⟨uA,uc⟩⟩ -;(try dsimp only)
       have h1ok:MOk m1:=by
        have h:=(yN (kiln:=kiln) (acts:=s.2.2) (sugar:=sg) hc.ff hmok om hc.f3).1;rw[hDy] at h;exact h
       refine zE (zF (csr (zA J J (zG (v:=.bool false) J J J (fun w=>by rw[kW,decide_eq_false om]) (lnx (kM J (zQ (zE (zF (jX [] F.follows 13 J (fl 13) J (zC 0 J J J (zJ J) (zC 1 J J J (zJ J) (zC 2 J J J (qO (v:=.int .i64 ((d+1:Nat):Int)) J J bdP) (zC 3 J J J (jK (j:=d+1) J J Tryz.underlying35 F.ti23 om om) (zC 4 J J J (jL (v:=.slice oA ox.length oc) J F.one23 (fun a w ha=>kV ha (InR.mem (A:=some ⟨b21,0,none⟩)) J (by rw[show 0+(d+1)*1=d+1 from by omega];exact zPb _ _ _ _ _))) (zC 5 J J J (zJ J) (zC 6 J J J (kU J F.agg112 F.ti112) (an1 7 J (jF (v:=.int .i64 ((cdM m1 fs.length:Nat):Int)) (vs:=[_]) J J F.ent78 (fun a w ha=>zDn hc.f3 h1ok w (zCd ha (x:=((qA,qc),(uA,uc),m1)) (by intro r hr;simp only[mmr,List.mem_cons,List.not_mem_nil,or_false] at hr;rcases hr with rfl|rfl<;>simp))) (zB (anb (an1 8 J ?_))))))))))))))))))))));have hm1v:=zQm hsg hmv (List.mem_of_getElem? hsl) hDy;obtain⟨jj,hjt,hjl⟩:=zRw hc hx2m hm1v;have hlt:cdM m1 fs.length<ten fs.length:=zDu h1ok _
       have hoj:ox[jj]?=some (encO (bO (lasR fs rp) fs kiln days (days.length-(d+1)) m1)):=by
        rw[hoc];unfold costL;rw[List.getElem?_map,hjl]
        rfl
       have hjx:jj<ox.length:=(List.getElem?_eq_some_iff.1 hoj).1;refine vS oA om ?_;intro go hgo;have hbl9:=zFm (las:=(lasR fs rp)) (kiln:=kiln) (days:=days) hf3 (days.length-(d+1)) m1;have hnv1:=zJs (bO (lasR fs rp) fs kiln days (days.length-(d+1)) m1);have hnv2:=zVj hbl9;have hfk:=jC3 (las:=(lasR fs rp)) (kiln:=kiln) (m:=mo) (n:=(days.length-(d+1))) hf3 om (fun x hx=>by rw[zF6 x hx];exact hf3) hsl hsg hDy;refine jV (j:=cdM m1 fs.length) J J J Tryz.underlying23 F.ti3 J hlt (zB (anb (an1 9 J (jU (v:=.int .i64 (jj:Int)) J J F.one3 (fun a w ha=>kV ha (InR.mem (A:=some ⟨bt,0,none⟩)) J (by rw[show 0+cdM m1 fs.length*1=cdM m1 fs.length from by omega];exact zHm hjt)) (zB (anb (an1 10 J (jV (j:=jj) J (show _=some (Value.slice (some ⟨go,0,none⟩) ox.length oc) from by rw[<-hgo];rfl) J Tryz.underlying23 F.ti3 J hjx (zB (anb (an1 11 J (jU (v:=.int .i64 (encO (bO (lasR fs rp) fs kiln days (days.length-(d+1)) m1))) J J F.one3 (fun a w ha=>kV ha (InR.mem (A:=oA)) hgo (by rw[show 0+jj*1=jj from by omega];exact zHm hoj)) (zB (anb (zC 12 J J J (jY J) ?_)))))))))))))))
       refine adn (zE (csr (yQ 17 150 (.bool (decide (0<=encO (bO (lasR fs rp) fs kiln days (days.length-(d+1)) m1)∧((encO (folO (lasR fs rp) fs kiln days (days.length-(d+1)) d mo ((exts [] fs.length).take k)))<0∨encO (bO (lasR fs rp) fs kiln days (days.length-(d+1)) m1)+((dayC s.2.2:Nat):Int)<(encO (folO (lasR fs rp) fs kiln days (days.length-(d+1)) d mo ((exts [] fs.length).take k))))))) ?_ ?_)))
       ·refine zA J J (zG J J J zH2 ?_)
        refine zA J J (vD (t:=136) J (fun hg136=>?_) (fun hg136=>?_))
        ·refine zO J J (zA J J (zO J J (zG J J J jW ?_)))
         refine zO J J (zA J J (vD (t:=139) J (fun hg139=>?_) (fun hg139=>?_)))
         ·exact zW J J J (zW J J J (zW J J J (zW J J J (zW J J J (zW J J J (zW J J J (zW J J J (zW J J J (zO J J (jG J J J (jG J J J (zB (qV (.cons (by refine congrArg (fun b=>some (Value.bool b)) ?_;first|exact (decide_eq_true om).symm|exact (decide_eq_false om).symm|exact decide_eq_decide.2 om) sbn) sbl)))))))))))))
         ·exact zO J J (zA J J (zO J J (zA J J (zO J J (zA J J (zO J J (jV (j:=k) J (show _=some (Value.slice (some ⟨g4,0,none⟩) S.length c4) from by rw[<-hg4];rfl) J Tryz.underlying35 F.ti23 J hk (zO J J (jU (v:=.slice s.1 s.2.2.length s.2.1) J J F.one23 (fun a w ha=>kV ha (InR.mem (A:=A4)) hg4 (by rw[show 0+k*1=k from by omega];exact yL hs)) (zO J J (jF (v:=.int .i64 ((dayC s.2.2:Nat):Int)) (vs:=[_]) J J F.ent79 (fun a w ha=>zH9 hs3 w (vT ha (by repeat (first|exact List.mem_map_of_mem hsS|exact List.mem_append_right _ (List.mem_map_of_mem hsS)|apply List.Mem.tail)))) (zO J J (zG J J J bdO (zO J J (zA J J (zO J J (zG J J J jW (zO J J (jT J J J (jG J J J (zB (qV (.cons (by refine congrArg (fun b=>some (Value.bool b)) ?_;first|exact (decide_eq_true om).symm|exact (decide_eq_false om).symm|exact decide_eq_decide.2 om) sbn) sbl))))))))))))))))))))))
        ·exact zW J J J (zW J J J (zW J J J (kG J J J (kG J J J (kG J J J (kG J J J (kG J J J (kG J J J (kG J J J (kG J J J (kG J J J (zW J J J (jT J J J (zB (qV (.cons (by refine congrArg (fun b=>some (Value.bool b)) ?_;first|exact (decide_eq_true om).symm|exact (decide_eq_false om).symm|exact decide_eq_decide.2 om) sbn) sbl)))))))))))))))
       refine lnx (zL J (fun hc6=>?_) (fun hc6=>?_))
       ·refine zI (zA J J (zA J J (zA J J (jV (j:=k) J (show _=some (Value.slice (some ⟨g4,0,none⟩) S.length c4) from by rw[<-hg4];rfl) J Tryz.underlying35 F.ti23 J hk (jU (v:=.slice s.1 s.2.2.length s.2.1) J J F.one23 (fun a w ha=>kV ha (InR.mem (A:=A4)) hg4 (by rw[show 0+k*1=k from by omega];exact yL hs)) (jF (v:=.int .i64 ((dayC s.2.2:Nat):Int)) (vs:=[_]) J J F.ent79 (fun a w ha=>zH9 hs3 w (vT ha (by repeat (first|exact List.mem_map_of_mem hsS|exact List.mem_append_right _ (List.mem_map_of_mem hsS)|apply List.Mem.tail)))) (zG J J J bdO (zD J J (zB (zM (zE (zI (zA J J (zG J J J bdO (zD J J (zB (kT (k+1) om tdo (by (try dsimp only);rw[hfk,jAo hc6];exact sbn) sbl)))))))))))))))))
       ·refine zQ (zM (zE (zI (zA J J (zG J J J bdO (zD J J (zB (kT (k+1) om tdo (by (try dsimp only);rw[hfk,jC9 hc6];exact sbn) sbl))))))))
     ·refine qH (G:=Nat) (fun _=>True) (fun g=>[(16,pt g),(17,.int .i64 ((er+1:Nat):Int)),(1,.slice lA LS.length lc),(3,pt b3),(7,.slice (some ⟨b21,0,none⟩) LS.length LS.length),(10,.slice A4 S.length c4),(11,.int .i64 (d:Int)),(12,.slice (some ⟨bt,0,none⟩) (ten fs.length) (ten fs.length)),(13,.int .i64 (i:Int)),(14,.int .i64 (encO (folO (lasR fs rp) fs kiln days (days.length-(d+1)) d mo ((exts [] fs.length).take k)))),(15,.int .i64 (k:Int))]) (fun g=>.blk g (.cells #[.slice none 0 0,.slice none 0 0] 112 (0,0))::.row 3 1 A xs.length c (zis xs)::.row 3 1 (some ⟨bt,0,none⟩) (ten fs.length) (ten fs.length) (zis (tabK (ten fs.length) (cods fs.length x2.2.2.reverse) x2.2.2.length))::.row 23 1 A4 S.length c4 (S.reverse.map mcell)::.row 23 1 (some ⟨b21,0,none⟩) LS.length LS.length (List.replicate d (Value.slice none 0 0)++.slice A xs.length c::.slice oA ox.length oc::W.map ocell)::.blk b3 (.cells (CA fA fs.length fc kiln dA days.length dc).toArray 25 (0,0))::.row 3 1 oA ox.length oc (zis ox)::(W.map orow++S.map mrow)) ?_ ?_
      ·refine jX [] F.follows 24 J (fl 24) J (zC 0 J J J (kU J F.agg25 F.ti25) (zC 1 J J J (zU J F.fi25_2 F.ti23) (zC 2 J J J (jN J F.one23) (zC 3 J J J (zJ J) (zC 4 J J J (jK (j:=d) (show _=some (Value.slice (some ⟨bd,bo,none⟩) days.length dc) from by rw[<-hdA];rfl) J Tryz.underlying23 F.ti3 J hd) (zC 5 J J J (jL (v:=.int .i64 (sg:Int)) J F.one3 (fun a w ha=>ha.old (hcd d _ hsg 0 _ J) hbd)) (zC 6 J J J (zJ J) (zC 7 J J J (zJ J) (zC 8 J J J (jK (j:=d) (show _=some (Value.slice (some ⟨bl,ol,none⟩) LS.length lc) from by rw[<-hlA];rfl) J Tryz.underlying104 F.ti109 om om) (zC 9 J J J (jL (v:=.slice x1.1 x1.2.2.length x1.2.1) J F.one109 (fun a w ha=>ha.old (hcl (d) _ hx1 0 _ J) hbl)) (zC 10 J J J (zJ J) (zC 11 J J J (jK (j:=i) (show _=some (Value.slice (some ⟨bx,ox9,none⟩) x1.2.2.length x1.2.1) from by rw[<-hxA];rfl) J Tryz.underlying109 F.ti112 J hi) (zC 12 J J J (qC (l:=[.slice sA fs.length sc,.slice wA fs.length wc]) J F.agg112 F.ti112 J (fun a w ha j u hu=>ha.old (hcx i _ hy j u hu) hbx)) (zC 13 J J J (zJ J) (zC 14 J J J (zJ J) (zC 15 J J J (jK (j:=k) (show _=some (Value.slice (some ⟨g4,0,none⟩) S.length c4) from by rw[<-hg4];rfl) J Tryz.underlying35 F.ti23 J hk) (zC 16 J J J (jL (v:=.slice s.1 s.2.2.length s.2.1) J F.one23 (fun a w ha=>kV ha (InR.mem (A:=A4)) hg4 (by rw[show 0+k*1=k from by omega];exact yL hs))) ?_)))))))))))))))))
       refine qE 17 21 kr J J J J ?_ ?_
       ·refine jF (v:=.tuple #[.agg ([.slice none 0 0,.slice none 0 0]:List Value).toArray,.int .i64 ((er+1:Nat):Int)]) (vs:=[_,_,_,_]) J J F.ent77 (fun a w ha=>(vR (nd:=days.length) (dA:=dA) (dc:=dc) hc.f3 hc.ff hmok hsn om w (hF.later ha.below) (hin.later ha.below) (vT ha (by repeat (first|exact List.mem_map_of_mem hsS|exact List.mem_append_right _ (List.mem_map_of_mem hsS)|apply List.Mem.tail)))).mono (fun e w' h=>by
         rw[hDy] at h;rcases h with ⟨h0,_⟩|⟨_,h1,h2⟩
         ·exact absurd h0 (Nat.succ_ne_zero er)
         ·exact⟨h1,h2⟩)) ?_
        refine zB (anb (zC 18 J J J (zJ J) (zC 19 J J J (jQ J J) (zC 20 J J J (jQ J J) (an1 21 J (zX J F.ti112 ?_))))));intro b16;exact zB (anb (an1 22 J (zH J J F.ti112 J (zB (anb (zC 23 J J J (jY J) (adn (jM b16 trivial sbn pkk))))))))
       ·refine zX J F.ti112 ?_;intro b16;refine zB (anb (an1 17 J ?_))
        refine jF (v:=.tuple #[.agg ([.slice none 0 0,.slice none 0 0]:List Value).toArray,.int .i64 ((er+1:Nat):Int)]) (vs:=[_,_,_,_]) J J F.ent77 (fun a w ha=>(vR (nd:=days.length) (dA:=dA) (dc:=dc) hc.f3 hc.ff hmok hsn om w (hF.later ha.below) (hin.later ha.below) (vT ha (by repeat (first|exact List.mem_map_of_mem hsS|exact List.mem_append_right _ (List.mem_map_of_mem hsS)|apply List.Mem.tail)))).mono (fun e w' h=>by
         rw[hDy] at h;rcases h with ⟨h0,_⟩|⟨_,h1,h2⟩
         ·exact absurd h0 (Nat.succ_ne_zero er)
         ·exact⟨h1,h2⟩)) ?_
        exact zB (anb (zC 18 J J J (zJ J) (zC 19 J J J (jQ J J) (zC 20 J J J (jQ J J) (an1 22 J (zH J J F.ti112 J (zB (anb (zC 23 J J J (jY J) (adn (jM b16 trivial sbn pkk)))))))))))
      ·rintro b16 -;(try dsimp only);refine zE (zF (csr (zA J J (zG (v:=.bool true) J J J (fun w=>by rw[kW,decide_eq_true om]) (lnx (qG J (jS (zN (jB (zE (zI (zA J J (zG J J J bdO (zD J J (zB (kT (k+1) om tdo (by (try dsimp only);rw[jBg hsl hsg (by rw[hDy];exact Nat.succ_ne_zero er)];exact sbn) sbl))))))))))))))))
    ·obtain rfl:k=S.length:=om;rw[List.take_of_length_le (by rw[vO,hSl];exact Nat.le_refl _),<-jBi om,show days.length-(d+1)+1=days.length-d from by omega];refine jS (zN (zN (jB (zE (zI (zA J J (zA J J (zA J J (zA J J (jV (j:=d) J J J Tryz.underlying35 F.ti23 om om (jU (v:=.slice A xs.length c) J J F.one23 (fun a w ha=>kV ha (InR.mem (A:=some ⟨b21,0,none⟩)) J (by rw[show 0+d*1=d from by omega];exact zFe _ _ _ _)) (zA J J (kC (vs:=[(0,_)]) J J Tryz.underlying23 F.ti3 J J J ?_)))))))))))));intro b165;refine kD J J J Tryz.underlying23 F.ti3 J J J (by unfold maxLen;omega) om ?_;intro A9 c9;refine jV (j:=d) J J J Tryz.underlying35 F.ti23 om om (vG (A:=some ⟨b21,0,none⟩) (List.replicate d (Value.slice none 0 0)++.slice A9 (xs.length+1) c9::.slice oA ox.length oc::W.map ocell) (show _=some (Value.pointer (some ⟨b21,0+d*1,none⟩)) from rfl) J F.ti23 J (by simp only[List.length_append,List.length_replicate,List.length_cons];omega) (by rw[show 0+d*1=d from by omega];exact zFi _ _ _ _ _) (zB (zM (zE (zI (zA J J (zG J J J bdO (zD J J (zB (kZ (i+1,A9,c9,xs++[encO (bO (lasR fs rp) fs kiln days (days.length-d) mo)]) ⟨by (try dsimp only);omega,?_⟩ tdo sbn (by dsimp only;rw[List.length_append,List.length_singleton,zF9];exact pkk)))))))))));(try dsimp only);exact zBb hml hxs
   ·obtain rfl:i=x1.2.2.length:=om;rw[List.take_of_length_le (by rw[wB];exact Nat.le_refl _),hx1m] at hxs;refine jS (zN (zN (jB (zM (zE (zI (zA J J (zG J J J (fun w=>xJ w (kQ _ om om)) (zD J J (zB (kZ (d,(A,c,xs)::(oA,oc,ox)::W) ⟨by (try dsimp only);omega,by simp only[List.length_cons] at hWl ⊢;omega,fun i o ho=>?_⟩ tdo sbn (by dsimp only;simp only[List.map_cons,orow,ocell,List.cons_append];exact pkk))))))))))))
    cases i with
    | zero =>
     injection ho with ho;subst ho
     exact hxs
    | succ i =>
     have h:=hW i o ho;rw[h,show d+(i+1)=d+1+i from by omega]
  ·obtain rfl:D=0:=om;have hWL:LS.length=W.length:=om;rw[hWL];exact jS (zN (zN (jB (zE (csr (zA J J (lax J J (zT (zY J (rsO J J) (fun a w ha=>⟨some ⟨b21,0,none⟩,W.length,W,by omega,fun i o h=>by have h:=hW i o h;rwa[Nat.zero_add] at h,rfl,ha.grown (.cons _ (.cons_cons _ (.cons _ (List.sublist_append_left _ _))))⟩))))))))))

end
section
variable {d n sg:Nat} {l:List Nat} {m m1:Mor}
section
variable {las:Mor->Bool} {fs:List Flt} {kiln:Nat} {days:List Nat}
def srO (las:Mor->Bool) (fs:List Flt) (kiln:Nat) (days:List Nat):Srch:=⟨none,none,0,0,kiln,fs,days,0,0,[],[],fun _ _=>true,las⟩
theorem zLh (n:Nat) (m:Mor):(srO las fs kiln days).bst n m=bO las fs kiln days n m:=rfl
theorem zRz (h:d+(n+1)=days.length) (m:Mor) (l:List Nat):(srO las fs kiln days).stp n m l=stO las fs kiln days n d m l:=by
 show stpO (fun _ _=>true) fs kiln days (bO las fs kiln days n) (days.length-(n+1)) m l=_;rw[show days.length-(n+1)=d from by omega]
 rfl
theorem jAz (h:d+(n+1)=days.length) (his:(bO las fs kiln days (n+1) m).is=true) (hs:days[d]?=some sg) (he:(dayE fs kiln m l sg).1≠0):(srO las fs kiln days).stp n m l≠(srO las fs kiln days).bst (n+1) m:=by
 rw[zRz h,zSc hs he,zLh];intro e;rw[<-e] at his
 cases his
theorem jB9 (h3:fs.length<=3) (hn:n+1<=4) (hl:l.length<=3) (h:d+(n+1)=days.length) (his:(bO las fs kiln days (n+1) m).is=true) (hs:days[d]?=some sg) (he:dayE fs kiln m l sg=(0,m1)) :
  ((srO las fs kiln days).stp n m l=(srO las fs kiln days).bst (n+1) m)↔(0<=encO (bO las fs kiln days n m1)∧encO (bO las fs kiln days n m1)+((dayC l:Nat):Int)=encO (bO las fs kiln days (n+1) m)):=by
 rw[zRz h,zWb hs he,zLh];have h1:=zFm (las:=las) (kiln:=kiln) (days:=days) h3 n m1;have h2:=zFm (las:=las) (kiln:=kiln) (days:=days) h3 (n+1) m;have h4:=zAm l;have h5:=zAe l;rw[zHq his];unfold dayC
 generalize hr:bO las fs kiln days n m1=r at *
 generalize ho:bO las fs kiln days (n+1) m=o at *
 obtain⟨f,w,b⟩:=r;obtain⟨f',w',b'⟩:=o;dsimp only at h1 h2 his ⊢;subst his
 cases b with
 | false =>
  constructor
  ·intro e;injection e with _ _ e
   cases e
  ·rintro⟨e,_⟩
   exact absurd e (by show ¬(0:Int)<=-1;decide)
 | true =>
  have he:encO ⟨f,w,true⟩=((100*f+w:Nat):Int):=rfl;rw[he]
  constructor
  ·intro e;injection e with e1 e2 _;omega
  ·rintro⟨_,e⟩;have e1:f+spF l=f':=om;have e2:w+spW l=w':=om;rw[e1,e2]
theorem zSq {α:Type} {p:α->Bool}:∀{l:List α} {k:Nat} {x:α},l[k]?=some x->(∀j y,j<k->l[j]?=some y->p y=false)->p x=true->l.find? p=some x
 | [],k,x,h,_,_=>by simp at h
 | a::l,0,x,h,_,hp=>by
  simp at h;subst h
  rw[List.find?_cons,hp]
 | a::l,k+1,x,h,hno,hp=>by
  rw[List.find?_cons,hno 0 a om J];exact zSq (by simpa using h) (fun j y hj hy=>hno (j+1) y om (by simpa using hy)) hp
theorem jBu {k:Nat} (hl:(exts [] fs.length)[k]?=some l) (hno:∀j x,j<k->(exts [] fs.length)[j]?=some x->(srO las fs kiln days).stp n m x≠(srO las fs kiln days).bst (n+1) m) (hy:(srO las fs kiln days).stp n m l=(srO las fs kiln days).bst (n+1) m):(srO las fs kiln days).pick n m=l:=by
 unfold Srch.pick;show ((exts [] fs.length).find? _).getD []=l;rw[zSq hl (fun j y hj h=>decide_eq_false (hno j y hj h)) (decide_eq_true hy)]
 rfl
def planN (las:Mor->Bool) (fs:List Flt) (kiln:Nat) (days:List Nat):List (List Nat):=(srO las fs kiln days).planL days.length (start fs)
def isAt (las:Mor->Bool) (fs:List Flt) (kiln:Nat) (days:List Nat) (d:Nat) (done:List (List Nat)) (m:Mor):Prop :=
 planN las fs kiln days=done++(srO las fs kiln days).planL (days.length-d) m∧done.length=d∧(bO las fs kiln days (days.length-d) m).is=true
theorem zS3 (h:(bO las fs kiln days days.length (start fs)).is=true):isAt las fs kiln days 0 [] (start fs):=⟨by rw[Nat.sub_zero];rfl,rfl,by rw[Nat.sub_zero];exact h⟩
theorem zW0 {done:List (List Nat)} (hd:d<days.length) (h:isAt las fs kiln days d done m) (hs:days[d]?=some sg) (hp:(srO las fs kiln days).pick (days.length-(d+1)) m=l) (he:dayE fs kiln m l sg=(0,m1)) (hi:0<=encO (bO las fs kiln days (days.length-(d+1)) m1)):isAt las fs kiln days (d+1) (done++[l]) m1:=by
 obtain⟨h1,h2,h3⟩:=h
 refine⟨?_,by rw[List.length_append,h2];rfl,?_⟩
 ·rw[h1,List.append_assoc]
  congr 1
  obtain⟨n,hn⟩:∃n,days.length-d=n+1:=⟨days.length-d-1,by omega⟩;rw[show days.length-(d+1)=n from by omega] at hp ⊢;rw[hn];show (srO las fs kiln days).pick n m::(srO las fs kiln days).planL n ((srO las fs kiln days).nxt n m ((srO las fs kiln days).pick n m)).2=l::(srO las fs kiln days).planL n m1;rw[hp]
  congr 2
  show (dayE fs kiln m l (days.getD (days.length-(n+1)) 0)).2=m1;rw[show days.length-(n+1)=d from by omega,List.getD_eq_getElem?_getD,hs];show (dayE fs kiln m l sg).2=m1;rw[he]
 ·unfold encO at hi
  split at hi
  ·assumption
  ·omega
theorem zYb (hd:d<days.length) (his:(bO las fs kiln days (days.length-d) m).is=true):∃(k:Nat) (l:List Nat),(exts [] fs.length)[k]?=some l∧(srO las fs kiln days).stp (days.length-(d+1)) m l=(srO las fs kiln days).bst (days.length-(d+1)+1) m:=by
 obtain⟨l,hl,h⟩:=Srch.has (s:=srO las fs kiln days) (n:=days.length-(d+1)) (m:=m) (by rw[zLh,show days.length-(d+1)+1=days.length-d from by omega];exact his);obtain⟨k,hk⟩:=List.getElem?_of_mem hl;exact⟨k,l,hk,h⟩
end
end
section
variable [I:Sys]
theorem F.ent98:Enters Tryz.prog 98:=jD Tryz.func98 rfl kr
set_option maxHeartbeats 1000000 in
theorem zWl {fA dA:Option Addr} {fc dc kiln:Nat} {fs:List Flt} {days:List Nat} (hc:ChW fs kiln days) {rp:Bool} (w:World) (hF:RdL Flt.cells 4 w fA fs) (hD:RdL ncell 1 w dA days):Calls Tryz.prog 64 #[.agg (CA fA fs.length fc kiln dA days.length dc).toArray,.bool rp] w fun e w'=>∃(A:Option Addr) (c:Nat) (R S:List Meta),(((bO (lasR fs rp) fs kiln days days.length (start fs)).is=true∧R.map (·.2.2)=planN (lasR fs rp) fs kiln days)∨((bO (lasR fs rp) fs kiln days days.length (start fs)).is=false∧R=[]∧A=none∧c=0))∧(∀m∈R,m∈S)∧e=.returned (.tuple #[.slice A R.length c,.int .i64 (encO (bO (lasR fs rp) fs kiln days days.length (start fs)))])∧Grew w w' (.row 23 1 A R.length c (R.map mcell)::S.map mrow):=by
 refine enter (N:=120) [(0,.agg (CA fA fs.length fc kiln dA days.length dc).toArray),(1,.bool rp)] Tryz.func64 J Tryz.ntmps64 J J (csr (jP J J ?_));intro b2;refine zD J J (lax J J (csr (jC J J F.agg25 F.ti25 (kF (X:=Option Addr×Nat×List LZ) (vs:=[_]) (p:=fun y=>y.2.2.reverse.map lmor=(List.range (days.length+1)).map (fun i=>lvlL fs kiln (days.take i))) (val:=fun y=>.slice y.1 y.2.2.length y.2.1) (rs:=fun y=>.row 109 1 y.1 y.2.2.length y.2.1 (y.2.2.reverse.map lcell)::y.2.2.flatMap (lrow fs.length)) J J F.ent73 (fun a w ha=>(zXg hc w (hF.later ha.below) (hD.later ha.below)).mono (fun e w' h=>by obtain⟨A',c',L',h1,h2,h3⟩:=h;exact⟨(A',c',L'),h1,h2,h3⟩)) ?_))));rintro⟨oA,oc,LS⟩ hLS;dsimp only at hLS ⊢;have hLl:LS.length=days.length+1:=by have h:=congrArg List.length hLS;simpa using h
 refine xT (List.Perm.cons _ List.perm_append_comm) ?_;simp only[List.cons_append,List.nil_append];refine vS oA om ?_;intro g3 hg3;have hd4:=hc.d4;have hd1:=hc.d1;have hf3:=hc.f3;have hten:=zHo hc.f3;refine lax J J (csr (jC J J F.agg25 F.ti25 (zA J J (zA J J (kF (X:=Option Addr×Nat×List OZ) (vs:=[_,_,_]) (p:=fun y=>y.2.2.length=days.length+1∧∀i o,y.2.2[i]?=some o->o.2.2=costL (lasR fs rp) fs kiln days i) (val:=fun y=>.slice y.1 y.2.2.length y.2.1) (rs:=fun y=>.row 23 1 y.1 y.2.2.length y.2.1 (y.2.2.map ocell)::y.2.2.map orow) J J F.ent98 (fun a w ha=>(jBl hc hLS w (hF.later ha.below) (hD.later ha.below) (zXj (c:=oc) ha (InR.mem (A:=oA)) (by intro r hr;repeat (first|exact hr|apply List.Mem.tail)))).mono (fun e w' h=>by obtain⟨A',c',W',h1,h2,h3,h4⟩:=h;exact⟨(A',c',W'),⟨h1,h2⟩,h3,h4⟩)) ?_)))));rintro⟨kA,kc,W⟩ ⟨hWl,hW⟩;dsimp only at hWl hW ⊢;refine xT (List.Perm.cons _ List.perm_append_comm) ?_;simp only[List.cons_append];refine vS kA om ?_;intro gk hgk;obtain⟨o0,ho0⟩:∃o,W[0]?=some o:=⟨_,List.getElem?_eq_getElem om⟩;have ho1W:=List.mem_of_getElem? ho0;have ho0x:o0.2.2[0]?=some (encO (bO (lasR fs rp) fs kiln days days.length (start fs))):=by rw[hW 0 o0 ho0];rfl
 have ho0l:0<o0.2.2.length:=(List.getElem?_eq_some_iff.1 ho0x).1;refine yB (fun a w ha=>yR (ha.own _ ((show orow o0∈_ from (by (repeat apply List.mem_cons_of_mem);first|exact List.mem_append_right _ (List.mem_map_of_mem ho1W)|exact List.mem_append_left _ (List.mem_append_right _ (List.mem_map_of_mem ho1W)))):Res.row 3 1 o0.1 o0.2.2.length o0.2.1 (zis o0.2.2)∈_)) ho0l) ?_;rintro⟨go,hgo⟩;refine lax J J (csr (zA J J (jV (j:=0) J (show _=some (Value.slice (some ⟨gk,0,none⟩) W.length kc) from by rw[<-hgk];rfl) J Tryz.underlying35 F.ti23 J om (jU (v:=.slice o0.1 o0.2.2.length o0.2.1) J J F.one23 (fun a w ha=>kV ha (InR.mem (A:=kA)) hgk (by rw[List.getElem?_map,show 0+0*1=0 from rfl,ho0];rfl)) ?_))));refine jV (j:=0) J (show _=some (Value.slice (some ⟨go,0,none⟩) o0.2.2.length o0.2.1) from by rw[<-hgo];rfl) J Tryz.underlying23 F.ti3 J ho0l (jU (v:=.int .i64 (encO (bO (lasR fs rp) fs kiln days days.length (start fs)))) J J F.one3 (fun a w ha=>kV ha ((show orow o0∈_ from (by (repeat apply List.mem_cons_of_mem);first|exact List.mem_append_right _ (List.mem_map_of_mem ho1W)|exact List.mem_append_left _ (List.mem_append_right _ (List.mem_map_of_mem ho1W)))):Res.row 3 1 o0.1 o0.2.2.length o0.2.1 (zis o0.2.2)∈_) hgo (zHm ho0x)) (lax J J (zF (csr (zA J J (zG J J J jW ?_))))))
 refine lnx (zL J (fun hc0=>?_) (fun hc0=>?_))
 ·refine csr (zD J J (lax J J (zT (zP ?_))))
  exact zY J (fun a w ha=>xQ J J J ha) (fun a w ha=>⟨none,0,[],[],.inr ⟨by
   cases h:(bO (lasR fs rp) fs kiln days days.length (start fs)).is with
   | false=>rfl
   | true=>rw[zHq h] at hc0;omega,rfl,rfl,rfl⟩,fun _ h=>(nomatch h),by
   have h9:=zJs (bO (lasR fs rp) fs kiln days days.length (start fs));rw[show (encO (bO (lasR fs rp) fs kiln days days.length (start fs)))=-1 from by omega]
   rfl,(ha.add_nil 23 1).grown (.cons_cons _ nsl)⟩)
 ·refine zQ (zE (csr (lax J J (csr (zA J J (zD J J (lax J J (csr (zK J J F.fi25_0 F.ti22 (zS J J F.one22 (jJ J J U22 (kF (X:=Option Addr×Nat×List Meta) (vs:=[_]) (p:=fun y=>y.2.2.reverse.map (·.2.2)=exts [] fs.length) (val:=fun y=>.slice y.1 y.2.2.length y.2.1) (rs:=fun y=>.row 23 1 y.1 y.2.2.length y.2.1 (y.2.2.reverse.map mcell)::y.2.2.map mrow) J J F.ent75 (fun a w ha=>(zKa fs.length hc.f3 w).mono (fun e w' h=>by obtain⟨A',c',S',h1,h2,h3⟩:=h;exact⟨(A',c',S'),h1,h2,h3⟩)) ?_))))))))))));rintro⟨A4,c4,S⟩ hS;dsimp only at hS ⊢;have hSl:S.length=4^fs.length:=by have h:=congrArg List.length hS;rw[vO] at h;simpa using h
  have hS64:=Nat.pow_le_pow_right (n:=4) (by decide) hc.f3;have hS0:0<4^fs.length:=Nat.pow_pos (by decide);refine xT (List.Perm.cons _ List.perm_append_comm) ?_;simp only[List.cons_append];refine vS A4 om ?_;intro g4 hg4;refine lax J J (zF (csr (lax J J (zR ?_))))
  have his:(bO (lasR fs rp) fs kiln days days.length (start fs)).is=true:=by
   cases h:(bO (lasR fs rp) fs kiln days days.length (start fs)).is with
   | true=>rfl
   | false =>
    refine absurd ?_ hc0;unfold encO;rw[h,if_neg Bool.false_ne_true]
    decide
  refine vZ 23 1 (qU (G:=Nat×Nat×Mor×Option Addr×Nat×List Meta) (fun g=>g.1<=days.length∧isAt (lasR fs rp) fs kiln days g.1 (g.2.2.2.2.2.map (·.2.2)) g.2.2.1∧(lvlL fs kiln (days.take g.1))[g.2.1]?=some g.2.2.1∧∀m∈g.2.2.2.2.2,m∈S) (fun g=>days.length-g.1) (fun g=>[(2,pt b2),(6,.slice oA LS.length oc),(7,.slice kA W.length kc),(8,.int .i64 (encO (bO (lasR fs rp) fs kiln days days.length (start fs)))),(9,.slice g.2.2.2.1 g.2.2.2.2.2.length g.2.2.2.2.1),(10,.int .i64 (g.2.1:Int)),(11,.int .i64 (encO (bO (lasR fs rp) fs kiln days (days.length-g.1) g.2.2.1))),(12,.slice A4 S.length c4),(13,.int .i64 (g.1:Int))]) (fun g=>.row 23 1 g.2.2.2.1 g.2.2.2.2.2.length g.2.2.2.2.1 (g.2.2.2.2.2.map mcell)::.row 23 1 A4 S.length c4 (S.reverse.map mcell)::.row 23 1 kA W.length kc (W.map ocell)::.row 109 1 oA LS.length oc (LS.reverse.map lcell)::.blk b2 (.cells (CA fA fs.length fc kiln dA days.length dc).toArray 25 (0,0))::((LS.flatMap (lrow fs.length)++W.map orow)++S.map mrow)) (0,0,start fs,none,0,[]) ⟨Nat.zero_le _,zS3 his,rfl,fun _ h=>(nomatch h)⟩ sbn pkk ?_);rintro⟨d,a9,mo,pA,pc,R⟩ ⟨hd0,hat,hla,hRS⟩;dsimp only at hd0 hat hla hRS ⊢;refine zF (csr (zA J J (zK J J F.fi25_2 F.ti23 (zS J J F.one23 (jJ J J U23 (zG J J J jW ?_))))))
  refine lnx (zL J (fun hc1=>?_) (fun hc1=>?_))
  ·have hd:d<days.length:=om;have hRl:R.length=d:=by have h:=hat.2.1;rwa[List.length_map] at h
   obtain⟨bd,bo,hdA,hbd,hcd⟩:=hD om;obtain⟨sg,hsg⟩:∃y,days[d]?=some y:=⟨_,List.getElem?_eq_getElem hd⟩;have hsg12:=hc.dd sg (List.mem_of_getElem? hsg);obtain⟨x1,hx1⟩:∃y,LS.reverse[d]?=some y:=⟨_,List.getElem?_eq_getElem (by simp;omega)⟩;have hx1L:x1∈LS:=List.mem_reverse.1 (List.mem_of_getElem? hx1)
   have hx1m:lmor x1=lvlL fs kiln (days.take (d)):=by
    have h:=xO hLS hx1;rw[List.getElem?_map,List.getElem?_range om] at h;injection h with h;exact h.symm
   have hx1n:x1.2.2.length<=1000:=by
    rw[<-wB,hx1m];exact zEt hc _
   have hx1k:∀y∈x1.2.2,MOk y.2.2∧Thin fs.length y.2.2:=fun y hy=>by
    have h:y.2.2∈lvlL fs kiln (days.take (d)):=hx1m▸List.mem_map_of_mem (List.mem_reverse.2 hy);exact zAn hc h
   obtain⟨x2,hx2⟩:∃y,LS.reverse[d+1]?=some y:=⟨_,List.getElem?_eq_getElem (by simp;omega)⟩;have hx2L:x2∈LS:=List.mem_reverse.1 (List.mem_of_getElem? hx2)
   have hx2m:lmor x2=lvlL fs kiln (days.take (d+1)):=by
    have h:=xO hLS hx2;rw[List.getElem?_map,List.getElem?_range om] at h;injection h with h;exact h.symm
   have hx2n:x2.2.2.length<=1000:=by
    rw[<-wB,hx2m];exact zEt hc _
   have hx2k:∀y∈x2.2.2,MOk y.2.2∧Thin fs.length y.2.2:=fun y hy=>by
    have h:y.2.2∈lvlL fs kiln (days.take (d+1)):=hx2m▸List.mem_map_of_mem (List.mem_reverse.2 hy);exact zAn hc h
   obtain⟨y,hy,hym⟩:∃y,x1.2.2.reverse[a9]?=some y∧y.2.2=mo:=by
    rw[<-hx1m] at hla;unfold lmor at hla;rw[List.getElem?_map] at hla;exact Option.map_eq_some_iff.1 hla
   have hla2:a9<x1.2.2.length:=by have h:=(List.getElem?_eq_some_iff.1 hy).1;simpa using h
   have hyx:y∈x1.2.2:=List.mem_reverse.1 (List.mem_of_getElem? hy);have hmv:mo∈lvlL fs kiln (days.take d):=List.mem_of_getElem? hla;obtain⟨hmok,hmth⟩:=zAn hc hmv;obtain⟨⟨sA,sc⟩,⟨wA,wc⟩,mo'⟩:=y;dsimp only at hym;subst hym;obtain⟨o1,ho1⟩:∃o,W[d+1]?=some o:=⟨_,List.getElem?_eq_getElem om⟩;have ho1W:=List.mem_of_getElem? ho1;have hoc:=hW (d+1) o1 ho1;refine zQ (zE (zF (zR (zF (jX [] F.follows 10 J (fl 10) J (zC 0 J J J (zJ J) (zC 1 J J J (zJ J) (zC 2 J J J (qO (v:=.int .i64 ((d+1:Nat):Int)) J J bdP) (zC 3 J J J (jK (j:=d+1) (show _=some (Value.slice (some ⟨g3,0,none⟩) LS.length oc) from by rw[<-hg3];rfl) J Tryz.underlying104 F.ti109 om om) (zC 4 J J J (jL (v:=.slice x2.1 x2.2.2.length x2.2.1) J F.one109 (fun a w ha=>kV ha (InR.mem (A:=oA)) hg3 (by rw[show 0+(d+1)*1=(d+1) from by omega];exact zBk hx2))) (zC 5 J J J (zU J F.fi25_0 F.ti22) (zC 6 J J J (jN J F.one22) (zC 7 J J J (wU J Tryz.underlying22) (an1 8 J ?_))))))))))))))
   refine kF (X:=Nat) (vs:=[_,_]) (p:=fun _=>True) (val:=fun y=>.slice (some ⟨y,0,none⟩) (ten fs.length) (ten fs.length)) (rs:=fun y=>[.row 3 1 (some ⟨y,0,none⟩) (ten fs.length) (ten fs.length) (zis (tabK (ten fs.length) (cods fs.length x2.2.2.reverse) x2.2.2.length))]) J J F.ent76 (fun a w ha=>?_) ?_
   ·have h:=zJj (l:=x2.2.2.reverse) (A:=x2.1) (c:=x2.2.1) hc.f3 (fun y hy=>(hx2k y (List.mem_reverse.1 hy)).1) (by rw[List.length_reverse];omega) w (zAh ha (x:=x2) (n:=fs.length) (by intro r hr;(repeat apply List.mem_cons_of_mem);exact List.mem_append_left _ (List.mem_append_left _ (List.mem_flatMap.2 ⟨x2,hx2L,hr⟩))));rw[List.length_reverse] at h;exact h.mono (fun e w' h=>by obtain⟨b,h1,h2⟩:=h;exact⟨b,trivial,h1,h2⟩)
   rintro bt -;dsimp only[List.cons_append,List.nil_append];refine zB (anb (zC 9 J J J (jY J) (adn (zE (csr (lax J J (zR (qK (G:=Nat) (fun k=>k<=S.length∧∀j x,j<k->(exts [] fs.length)[j]?=some x->(srO (lasR fs rp) fs kiln days).stp (days.length-(d+1)) mo' x≠(srO (lasR fs rp) fs kiln days).bst ((days.length-(d+1))+1) mo') (fun k=>S.length-k) (fun k=>[(2,pt b2),(6,.slice oA LS.length oc),(7,.slice kA W.length kc),(8,.int .i64 (encO (bO (lasR fs rp) fs kiln days days.length (start fs)))),(9,.slice pA R.length pc),(10,.int .i64 (a9:Int)),(11,.int .i64 (encO (bO (lasR fs rp) fs kiln days (days.length-d) mo'))),(12,.slice A4 S.length c4),(13,.int .i64 (d:Int)),(14,.slice (some ⟨bt,0,none⟩) (ten fs.length) (ten fs.length)),(15,.int .i64 (k:Int))]) (fun k=>.row 3 1 (some ⟨bt,0,none⟩) (ten fs.length) (ten fs.length) (zis (tabK (ten fs.length) (cods fs.length x2.2.2.reverse) x2.2.2.length))::.row 23 1 pA R.length pc (R.map mcell)::.row 23 1 A4 S.length c4 (S.reverse.map mcell)::.row 23 1 kA W.length kc (W.map ocell)::.row 109 1 oA LS.length oc (LS.reverse.map lcell)::.blk b2 (.cells (CA fA fs.length fc kiln dA days.length dc).toArray 25 (0,0))::((LS.flatMap (lrow fs.length)++W.map orow)++S.map mrow)) 0 ⟨Nat.zero_le _,fun j _ h=>absurd h (Nat.not_lt_zero _)⟩ sbn sbl ?_))))))));rintro k ⟨hk0,hno⟩;(try dsimp only);refine zF (csr (yB (fun a w ha=>yR (ha.own _ ((show ∀r∈lrow fs.length x1,r∈_ from (by intro r hr;(repeat apply List.mem_cons_of_mem);exact List.mem_append_left _ (List.mem_append_left _ (List.mem_flatMap.2 ⟨x1,hx1L,hr⟩)))) _ (List.mem_cons_self ..))) om) ?_));rintro⟨gx,hgx⟩;refine zA J J (zA J J (jJ J J U35 (zG J J J jW ?_)))
   refine lnx (zL J (fun hc2=>?_) (fun hc2=>?_))
   ·have hk:k<S.length:=om;obtain⟨s,hs⟩:∃y,S.reverse[k]?=some y:=⟨_,List.getElem?_eq_getElem (by simp;omega)⟩;have hsS:s∈S:=List.mem_reverse.1 (List.mem_of_getElem? hs);have hsl:(exts [] fs.length)[k]?=some s.2.2:=xO hS hs;have hsn:s.2.2.length=fs.length:=by rw[vX _ _ _ (List.mem_of_getElem? hsl),List.length_nil];omega
    have hs3:s.2.2.length<=3:=by have:=hc.f3;omega
    have hdc:=zRy hs3;have hnd:d+((days.length-(d+1))+1)=days.length:=om
    have hbi:(bO (lasR fs rp) fs kiln days ((days.length-(d+1))+1) mo').is=true:=by
     have h:=hat.2.2
     rwa[show days.length-d=(days.length-(d+1))+1 from by omega] at h
    refine zQ (zE (zF (zR (zF ?_))));rcases hDy:dayE fs kiln mo' s.2.2 sg with ⟨e,m1⟩
    obtain rfl|⟨er,rfl⟩:e=0∨∃er,e=er+1:=by
     cases e with
     | zero=>exact .inl rfl
     | succ er=>exact .inr ⟨er,rfl⟩
    ·refine qH (G:=Nat×(Option Addr×Nat)×(Option Addr×Nat)) (fun _=>True) (fun g=>[(16,.pointer (some ⟨g.1,0,none⟩)),(17,.int .i64 0),(2,pt b2),(6,.slice oA LS.length oc),(7,.slice kA W.length kc),(8,.int .i64 (encO (bO (lasR fs rp) fs kiln days days.length (start fs)))),(9,.slice pA R.length pc),(10,.int .i64 (a9:Int)),(11,.int .i64 (encO (bO (lasR fs rp) fs kiln days (days.length-d) mo'))),(12,.slice A4 S.length c4),(13,.int .i64 (d:Int)),(14,.slice (some ⟨bt,0,none⟩) (ten fs.length) (ten fs.length)),(15,.int .i64 (k:Int))]) (fun g=>.row 3 1 g.2.1.1 fs.length g.2.1.2 (ints (sts fs.length m1))::.row 4 1 g.2.2.1 fs.length g.2.2.2 (bools (wbs fs.length m1))::.blk g.1 (.cells #[.slice g.2.1.1 fs.length g.2.1.2,.slice g.2.2.1 fs.length g.2.2.2] 112 (0,0))::.row 3 1 (some ⟨bt,0,none⟩) (ten fs.length) (ten fs.length) (zis (tabK (ten fs.length) (cods fs.length x2.2.2.reverse) x2.2.2.length))::.row 23 1 pA R.length pc (R.map mcell)::.row 23 1 A4 S.length c4 (S.reverse.map mcell)::.row 23 1 kA W.length kc (W.map ocell)::.row 109 1 oA LS.length oc (LS.reverse.map lcell)::.blk b2 (.cells (CA fA fs.length fc kiln dA days.length dc).toArray 25 (0,0))::((LS.flatMap (lrow fs.length)++W.map orow)++S.map mrow)) ?_ ?_
     ·refine jX [] F.follows 24 J (fl 24) J (zC 0 J J J (kU J F.agg25 F.ti25) (zC 1 J J J (zU J F.fi25_2 F.ti23) (zC 2 J J J (jN J F.one23) (zC 3 J J J (zJ J) (zC 4 J J J (jK (j:=d) (show _=some (Value.slice (some ⟨bd,bo,none⟩) days.length dc) from by rw[<-hdA];rfl) J Tryz.underlying23 F.ti3 J hd) (zC 5 J J J (jL (v:=.int .i64 (sg:Int)) J F.one3 (fun a w ha=>ha.old (hcd d _ hsg 0 _ J) hbd)) (zC 6 J J J (zJ J) (zC 7 J J J (zJ J) (zC 8 J J J (jK (j:=d) (show _=some (Value.slice (some ⟨g3,0,none⟩) LS.length oc) from by rw[<-hg3];rfl) J Tryz.underlying104 F.ti109 om om) (zC 9 J J J (jL (v:=.slice x1.1 x1.2.2.length x1.2.1) J F.one109 (fun a w ha=>kV ha (InR.mem (A:=oA)) hg3 (by rw[show 0+(d)*1=(d) from by omega];exact zBk hx1))) (zC 10 J J J (zJ J) (zC 11 J J J (jK (j:=a9) (show _=some (Value.slice (some ⟨gx,0,none⟩) x1.2.2.length x1.2.1) from by rw[<-hgx];rfl) J Tryz.underlying109 F.ti112 J hla2) ?_))))))))))))
      refine yT 12 J J J kr kr kr sbl (qC (l:=[.slice sA fs.length sc,.slice wA fs.length wc]) J F.agg112 F.ti112 J (fun a w ha j u hu=>by
       obtain⟨b9,o9,h1,_,h3⟩:=(zAh ha (x:=x1) (n:=fs.length) (by intro r hr;(repeat apply List.mem_cons_of_mem);exact List.mem_append_left _ (List.mem_append_left _ (List.mem_flatMap.2 ⟨x1,hx1L,hr⟩)))).outer (by simp;omega);rw[hgx] at h1
       cases h1
       exact h3 a9 _ hy j u hu)) J ?_
      refine zC 13 J J J (zJ J) (zC 14 J J J (zJ J) (zC 15 J J J (jK (j:=k) (show _=some (Value.slice (some ⟨g4,0,none⟩) S.length c4) from by rw[<-hg4];rfl) J Tryz.underlying35 F.ti23 J hk) (zC 16 J J J (jL (v:=.slice s.1 s.2.2.length s.2.1) J F.one23 (fun a w ha=>kV ha (InR.mem (A:=A4)) hg4 (by rw[show 0+k*1=k from by omega];exact yL hs))) ?_)))
      refine qE 17 21 kr J J J J ?_ ?_
      ·refine kF (X:=(Option Addr×Nat)×(Option Addr×Nat)) (vs:=[_,_,_,_]) (p:=fun _=>True) (val:=fun y=>.tuple #[.agg (mmc fs.length (y.1,y.2,m1)).toArray,.int .i64 0]) (rs:=fun y=>mmr fs.length (y.1,y.2,m1)) J J F.ent77 (fun a w ha=>(vR (nd:=days.length) (dA:=dA) (dc:=dc) hc.f3 hc.ff hmok hsn om w (hF.later ha.below) ((zAh ha (x:=x1) (n:=fs.length) (by intro r hr;(repeat apply List.mem_cons_of_mem);exact List.mem_append_left _ (List.mem_append_left _ (List.mem_flatMap.2 ⟨x1,hx1L,hr⟩)))).inner _ (List.mem_reverse.2 hyx)) (vT ha (by (repeat apply List.mem_cons_of_mem);exact List.mem_append_right _ (List.mem_map_of_mem hsS)))).mono (fun e w' h=>by
        rw[hDy] at h;rcases h with ⟨_,sA,sc,wA,wc,h1,h2⟩|⟨h0,_⟩
        ·exact⟨((sA,sc),(wA,wc)),trivial,h1,h2⟩
        ·exact absurd J h0)) ?_
       rintro⟨⟨qA,qc⟩,⟨uA,uc⟩⟩ -;dsimp only[mmc,mmr,List.cons_append,List.nil_append];refine zB (anb (zC 18 J J J (zJ J) (zC 19 J J J (jQ J J) (zC 20 J J J (jQ J J) (an1 21 J (zX J F.ti112 ?_))))));intro b16;exact zB (anb (an1 22 J (zH J J F.ti112 J (zB (anb (zC 23 J J J (jY J) (adn (jM (b16,(qA,qc),(uA,uc)) trivial sbn pkk))))))))
      ·refine zX J F.ti112 ?_;intro b16;refine zB (anb (an1 17 J ?_))
       refine kF (X:=(Option Addr×Nat)×(Option Addr×Nat)) (vs:=[_,_,_,_]) (p:=fun _=>True) (val:=fun y=>.tuple #[.agg (mmc fs.length (y.1,y.2,m1)).toArray,.int .i64 0]) (rs:=fun y=>mmr fs.length (y.1,y.2,m1)) J J F.ent77 (fun a w ha=>(vR (nd:=days.length) (dA:=dA) (dc:=dc) hc.f3 hc.ff hmok hsn om w (hF.later ha.below) ((zAh ha (x:=x1) (n:=fs.length) (by intro r hr;(repeat apply List.mem_cons_of_mem);exact List.mem_append_left _ (List.mem_append_left _ (List.mem_flatMap.2 ⟨x1,hx1L,hr⟩)))).inner _ (List.mem_reverse.2 hyx)) (vT ha (by (repeat apply List.mem_cons_of_mem);exact List.mem_append_right _ (List.mem_map_of_mem hsS)))).mono (fun e w' h=>by
        rw[hDy] at h;rcases h with ⟨_,sA,sc,wA,wc,h1,h2⟩|⟨h0,_⟩
        ·exact⟨((sA,sc),(wA,wc)),trivial,h1,h2⟩
        ·exact absurd J h0)) ?_
       rintro⟨⟨qA,qc⟩,⟨uA,uc⟩⟩ -;dsimp only[mmc,mmr,List.cons_append,List.nil_append];exact zB (anb (zC 18 J J J (zJ J) (zC 19 J J J (jQ J J) (zC 20 J J J (jQ J J) (an1 22 J (zH J J F.ti112 J (zB (anb (zC 23 J J J (jY J) (adn (jM (b16,(qA,qc),(uA,uc)) trivial sbn pkk)))))))))))
     ·rintro⟨b16,⟨qA,qc⟩,⟨uA,uc⟩⟩ -;(try dsimp only)
      have h1ok:MOk m1:=by
       have h:=(yN (kiln:=kiln) (acts:=s.2.2) (sugar:=sg) hc.ff hmok om hc.f3).1;rw[hDy] at h;exact h
      refine zE (zF (csr (zA J J (zG (v:=.bool false) J J J (fun w=>by rw[kW,decide_eq_false om]) (lnx (kM J (zQ (zE (csr (zA J J (jC J J F.agg112 F.ti112 (jF (v:=.int .i64 ((cdM m1 fs.length:Nat):Int)) (vs:=[_]) J J F.ent78 (fun a w ha=>zDn hc.f3 h1ok w (zCd ha (x:=((qA,qc),(uA,uc),m1)) (by intro r hr;simp only[mmr,List.mem_cons,List.not_mem_nil,or_false] at hr;rcases hr with rfl|rfl<;>simp))) ?_))))))))))));have hm1v:=zQm hsg hmv (List.mem_of_getElem? hsl) hDy;obtain⟨jj,hjt,hjl⟩:=zRw hc hx2m hm1v;have hlt:cdM m1 fs.length<ten fs.length:=zDu h1ok _
      have hoj:o1.2.2[jj]?=some (encO (bO (lasR fs rp) fs kiln days (days.length-(d+1)) m1)):=by
       rw[hoc];unfold costL;rw[List.getElem?_map,hjl]
       rfl
      have hjx:jj<o1.2.2.length:=(List.getElem?_eq_some_iff.1 hoj).1
      
      have hbl9:=zFm (las:=(lasR fs rp)) (kiln:=kiln) (days:=days) hf3 (days.length-(d+1)) m1;have hnv1:=zJs (bO (lasR fs rp) fs kiln days (days.length-(d+1)) m1);have hnv2:=zVj hbl9;have hpk:=jB9 (las:=(lasR fs rp)) (kiln:=kiln) (m:=mo') hf3 om hs3 hnd hbi hsg hDy;rw[show (days.length-(d+1))+1=days.length-d from by omega] at hpk;refine yB (fun a w ha=>yR (ha.own _ ((show orow o1∈_ from (by (repeat apply List.mem_cons_of_mem);first|exact List.mem_append_right _ (List.mem_map_of_mem ho1W)|exact List.mem_append_left _ (List.mem_append_right _ (List.mem_map_of_mem ho1W)))):Res.row 3 1 o1.1 o1.2.2.length o1.2.1 (zis o1.2.2)∈_)) om) ?_;rintro⟨go,hgo⟩;refine jV (j:=cdM m1 fs.length) J J J Tryz.underlying23 F.ti3 J hlt (jU (v:=.int .i64 (jj:Int)) J J F.one3 (fun a w ha=>kV ha (InR.mem (A:=some ⟨bt,0,none⟩)) J (by rw[show 0+cdM m1 fs.length*1=cdM m1 fs.length from by omega];exact zHm hjt)) (lax J J (csr (zA J J (zA J J (zG (v:=.int .i64 ((d+1:Nat):Int)) J J J bdP (jV (j:=d+1) J (show _=some (Value.slice (some ⟨gk,0,none⟩) W.length kc) from by rw[<-hgk];rfl) J Tryz.underlying35 F.ti23 om om (jU (v:=.slice o1.1 o1.2.2.length o1.2.1) J J F.one23 (fun a w ha=>kV ha (InR.mem (A:=kA)) hgk (by rw[List.getElem?_map,show 0+(d+1)*1=d+1 from by omega,ho1];rfl)) ?_))))))));refine zA J J (jV (j:=jj) J (show _=some (Value.slice (some ⟨go,0,none⟩) o1.2.2.length o1.2.1) from by rw[<-hgo];rfl) J Tryz.underlying23 F.ti3 J hjx (jU (v:=.int .i64 (encO (bO (lasR fs rp) fs kiln days (days.length-(d+1)) m1))) J J F.one3 (fun a w ha=>kV ha ((show orow o1∈_ from (by (repeat apply List.mem_cons_of_mem);first|exact List.mem_append_right _ (List.mem_map_of_mem ho1W)|exact List.mem_append_left _ (List.mem_append_right _ (List.mem_map_of_mem ho1W)))):Res.row 3 1 o1.1 o1.2.2.length o1.2.1 (zis o1.2.2)∈_) hgo (by rw[show 0+jj*1=jj from by omega];exact zHm hoj)) ?_))
      refine lax J J (csr (yQ 13 108 (.bool (decide (0<=encO (bO (lasR fs rp) fs kiln days (days.length-(d+1)) m1)∧encO (bO (lasR fs rp) fs kiln days (days.length-(d+1)) m1)+((dayC s.2.2:Nat):Int)=(encO (bO (lasR fs rp) fs kiln days (days.length-d) mo'))))) ?_ ?_))
      ·refine zA J J (zG J J J zH2 ?_)
       refine zA J J (vD (t:=98) J (fun hg98=>?_) (fun hg98=>?_))
       ·exact zO J J (zA J J (zO J J (zA J J (zO J J (zA J J (zO J J (jV (j:=k) J (show _=some (Value.slice (some ⟨g4,0,none⟩) S.length c4) from by rw[<-hg4];rfl) J Tryz.underlying35 F.ti23 J hk (zO J J (jU (v:=.slice s.1 s.2.2.length s.2.1) J J F.one23 (fun a w ha=>kV ha (InR.mem (A:=A4)) hg4 (by rw[show 0+k*1=k from by omega];exact yL hs)) (zO J J (jF (v:=.int .i64 ((dayC s.2.2:Nat):Int)) (vs:=[_]) J J F.ent79 (fun a w ha=>zH9 hs3 w (vT ha (by (repeat apply List.mem_cons_of_mem);exact List.mem_append_right _ (List.mem_map_of_mem hsS)))) (zO J J (zG J J J bdO (zO J J (zA J J (zO J J (zG J J J kJ (jG J J J (zB (qV (.cons (by refine congrArg (fun b=>some (Value.bool b)) ?_;first|exact (decide_eq_true om).symm|exact (decide_eq_false om).symm|exact decide_eq_decide.2 om) sbn) sbl))))))))))))))))))))
       ·exact zW J J J (zW J J J (zW J J J (zW J J J (zW J J J (zW J J J (zW J J J (zW J J J (zW J J J (jT J J J (zB (qV (.cons (by refine congrArg (fun b=>some (Value.bool b)) ?_;first|exact (decide_eq_true om).symm|exact (decide_eq_false om).symm|exact decide_eq_decide.2 om) sbn) sbl)))))))))))
      refine lnx (zL J (fun hc4=>?_) (fun hc4=>?_))
      ·refine csr (zA J J (zA J J (zA J J (jV (j:=k) J (show _=some (Value.slice (some ⟨g4,0,none⟩) S.length c4) from by rw[<-hg4];rfl) J Tryz.underlying35 F.ti23 J hk (jU (v:=.slice s.1 s.2.2.length s.2.1) J J F.one23 (fun a w ha=>kV ha (InR.mem (A:=A4)) hg4 (by rw[show 0+k*1=k from by omega];exact yL hs)) (kC (vs:=[(0,_)]) J J Tryz.underlying35 F.ti23 J J J ?_))))));intro b114;refine kD J J J Tryz.underlying35 F.ti23 J J J (by unfold maxLen;omega) om ?_;intro A9 c9;refine lax J J (csr (zA J J (zA J J (zD J J (lax J J (jS (yZ J (zN (zN (jB (zM (zE (zI (zA J J (zG J J J bdO (zD J J (zB ?_)))))))))))))))));have hpick:(srO (lasR fs rp) fs kiln days).pick (days.length-(d+1)) mo'=s.2.2:=jBu hsl hno (by rw[show (days.length-(d+1))+1=days.length-d from by omega];exact hpk.2 hc4)
       refine kZ (d+1,jj,m1,A9,c9,R++[s]) ⟨by (try dsimp only);omega,?_,?_,fun m hm=>?_⟩ tdo (by dsimp only;rw[List.length_append,List.length_singleton];exact sbn) (by dsimp only;rw[List.length_append,List.length_singleton,List.map_append];exact pkk)
       ·(try dsimp only);rw[List.map_append];exact zW0 hd hat hsg hpick hDy hc4.1
       ·exact hjl
       ·rcases List.mem_append.1 hm with hm|hm
        ·exact hRS m hm
        ·rw[List.mem_singleton] at hm;rw[hm];exact hsS
      ·refine zQ (zM (zE (zI (zA J J (zG J J J bdO (zD J J (zB (kT (k+1) ⟨by (try dsimp only);omega,fun j x hj hx=>?_⟩ tdo sbn sbl))))))))
       rcases Nat.lt_or_ge j k with h|h
       ·exact hno j x h hx
       ·obtain rfl:k=j:=om;rw[hsl] at hx
        cases hx
        rw[show (days.length-(d+1))+1=days.length-d from by omega];exact fun h=>hc4 (hpk.1 h)
    ·refine qH (G:=Nat) (fun _=>True) (fun g=>[(16,pt g),(17,.int .i64 ((er+1:Nat):Int)),(2,pt b2),(6,.slice oA LS.length oc),(7,.slice kA W.length kc),(8,.int .i64 (encO (bO (lasR fs rp) fs kiln days days.length (start fs)))),(9,.slice pA R.length pc),(10,.int .i64 (a9:Int)),(11,.int .i64 (encO (bO (lasR fs rp) fs kiln days (days.length-d) mo'))),(12,.slice A4 S.length c4),(13,.int .i64 (d:Int)),(14,.slice (some ⟨bt,0,none⟩) (ten fs.length) (ten fs.length)),(15,.int .i64 (k:Int))]) (fun g=>.blk g (.cells #[.slice none 0 0,.slice none 0 0] 112 (0,0))::.row 3 1 (some ⟨bt,0,none⟩) (ten fs.length) (ten fs.length) (zis (tabK (ten fs.length) (cods fs.length x2.2.2.reverse) x2.2.2.length))::.row 23 1 pA R.length pc (R.map mcell)::.row 23 1 A4 S.length c4 (S.reverse.map mcell)::.row 23 1 kA W.length kc (W.map ocell)::.row 109 1 oA LS.length oc (LS.reverse.map lcell)::.blk b2 (.cells (CA fA fs.length fc kiln dA days.length dc).toArray 25 (0,0))::((LS.flatMap (lrow fs.length)++W.map orow)++S.map mrow)) ?_ ?_
     ·refine jX [] F.follows 24 J (fl 24) J (zC 0 J J J (kU J F.agg25 F.ti25) (zC 1 J J J (zU J F.fi25_2 F.ti23) (zC 2 J J J (jN J F.one23) (zC 3 J J J (zJ J) (zC 4 J J J (jK (j:=d) (show _=some (Value.slice (some ⟨bd,bo,none⟩) days.length dc) from by rw[<-hdA];rfl) J Tryz.underlying23 F.ti3 J hd) (zC 5 J J J (jL (v:=.int .i64 (sg:Int)) J F.one3 (fun a w ha=>ha.old (hcd d _ hsg 0 _ J) hbd)) (zC 6 J J J (zJ J) (zC 7 J J J (zJ J) (zC 8 J J J (jK (j:=d) (show _=some (Value.slice (some ⟨g3,0,none⟩) LS.length oc) from by rw[<-hg3];rfl) J Tryz.underlying104 F.ti109 om om) (zC 9 J J J (jL (v:=.slice x1.1 x1.2.2.length x1.2.1) J F.one109 (fun a w ha=>kV ha (InR.mem (A:=oA)) hg3 (by rw[show 0+(d)*1=(d) from by omega];exact zBk hx1))) (zC 10 J J J (zJ J) (zC 11 J J J (jK (j:=a9) (show _=some (Value.slice (some ⟨gx,0,none⟩) x1.2.2.length x1.2.1) from by rw[<-hgx];rfl) J Tryz.underlying109 F.ti112 J hla2) ?_))))))))))))
      refine yT 12 J J J kr kr kr sbl (qC (l:=[.slice sA fs.length sc,.slice wA fs.length wc]) J F.agg112 F.ti112 J (fun a w ha j u hu=>by
       obtain⟨b9,o9,h1,_,h3⟩:=(zAh ha (x:=x1) (n:=fs.length) (by intro r hr;(repeat apply List.mem_cons_of_mem);exact List.mem_append_left _ (List.mem_append_left _ (List.mem_flatMap.2 ⟨x1,hx1L,hr⟩)))).outer (by simp;omega);rw[hgx] at h1
       cases h1
       exact h3 a9 _ hy j u hu)) J ?_
      refine zC 13 J J J (zJ J) (zC 14 J J J (zJ J) (zC 15 J J J (jK (j:=k) (show _=some (Value.slice (some ⟨g4,0,none⟩) S.length c4) from by rw[<-hg4];rfl) J Tryz.underlying35 F.ti23 J hk) (zC 16 J J J (jL (v:=.slice s.1 s.2.2.length s.2.1) J F.one23 (fun a w ha=>kV ha (InR.mem (A:=A4)) hg4 (by rw[show 0+k*1=k from by omega];exact yL hs))) ?_)))
      refine qE 17 21 kr J J J J ?_ ?_
      ·refine jF (v:=.tuple #[.agg ([.slice none 0 0,.slice none 0 0]:List Value).toArray,.int .i64 ((er+1:Nat):Int)]) (vs:=[_,_,_,_]) J J F.ent77 (fun a w ha=>(vR (nd:=days.length) (dA:=dA) (dc:=dc) hc.f3 hc.ff hmok hsn om w (hF.later ha.below) ((zAh ha (x:=x1) (n:=fs.length) (by intro r hr;(repeat apply List.mem_cons_of_mem);exact List.mem_append_left _ (List.mem_append_left _ (List.mem_flatMap.2 ⟨x1,hx1L,hr⟩)))).inner _ (List.mem_reverse.2 hyx)) (vT ha (by (repeat apply List.mem_cons_of_mem);exact List.mem_append_right _ (List.mem_map_of_mem hsS)))).mono (fun e w' h=>by
        rw[hDy] at h;rcases h with ⟨h0,_⟩|⟨_,h1,h2⟩
        ·exact absurd h0 (Nat.succ_ne_zero er)
        ·exact⟨h1,h2⟩)) ?_
       refine zB (anb (zC 18 J J J (zJ J) (zC 19 J J J (jQ J J) (zC 20 J J J (jQ J J) (an1 21 J (zX J F.ti112 ?_))))));intro b16;exact zB (anb (an1 22 J (zH J J F.ti112 J (zB (anb (zC 23 J J J (jY J) (adn (jM b16 trivial sbn pkk))))))))
      ·refine zX J F.ti112 ?_;intro b16;refine zB (anb (an1 17 J ?_))
       refine jF (v:=.tuple #[.agg ([.slice none 0 0,.slice none 0 0]:List Value).toArray,.int .i64 ((er+1:Nat):Int)]) (vs:=[_,_,_,_]) J J F.ent77 (fun a w ha=>(vR (nd:=days.length) (dA:=dA) (dc:=dc) hc.f3 hc.ff hmok hsn om w (hF.later ha.below) ((zAh ha (x:=x1) (n:=fs.length) (by intro r hr;(repeat apply List.mem_cons_of_mem);exact List.mem_append_left _ (List.mem_append_left _ (List.mem_flatMap.2 ⟨x1,hx1L,hr⟩)))).inner _ (List.mem_reverse.2 hyx)) (vT ha (by (repeat apply List.mem_cons_of_mem);exact List.mem_append_right _ (List.mem_map_of_mem hsS)))).mono (fun e w' h=>by
        rw[hDy] at h;rcases h with ⟨h0,_⟩|⟨_,h1,h2⟩
        ·exact absurd h0 (Nat.succ_ne_zero er)
        ·exact⟨h1,h2⟩)) ?_
       exact zB (anb (zC 18 J J J (zJ J) (zC 19 J J J (jQ J J) (zC 20 J J J (jQ J J) (an1 22 J (zH J J F.ti112 J (zB (anb (zC 23 J J J (jY J) (adn (jM b16 trivial sbn pkk)))))))))))
     ·rintro b16 -;(try dsimp only);refine zE (zF (csr (zA J J (zG (v:=.bool true) J J J (fun w=>by rw[kW,decide_eq_true om]) (lnx (qG J (jS (zN (jB (zE (zI (zA J J (zG J J J bdO (zD J J (zB (kT (k+1) ⟨by (try dsimp only);omega,fun j x hj hx=>?_⟩ tdo sbn sbl))))))))))))))))
      rcases Nat.lt_or_ge j k with h|h
      ·exact hno j x h hx
      ·obtain rfl:k=j:=om;rw[hsl] at hx
       cases hx
       exact jAz hnd hbi hsg (by rw[hDy];exact Nat.succ_ne_zero er)
   ·exfalso;obtain⟨k9,l9,h1,h2⟩:=zYb (las:=(lasR fs rp)) (fs:=fs) (kiln:=kiln) hd hat.2.2
    exact hno k9 l9 (by
     have h3:=(List.getElem?_eq_some_iff.1 h1).1;rw[vO] at h3
     omega) h1 h2
    done
  ·obtain rfl:d=days.length:=om;refine jS (zN (zN (jB (zE (csr (zA J J (zA J J (zD J J (lax J J (zT ?_))))))))))
   exact zY J (fun a w ha=>xQ J J J ha) (fun a w ha=>⟨pA,pc,R,S,.inl ⟨his,by
    have h:=hat.1;rw[Nat.sub_self] at h;rw[h]
    exact (List.append_nil _).symm⟩,hRS,rfl,ha.grown (.cons_cons _ (.cons _ (.cons _ (.cons _ (.cons _ (List.sublist_append_right _ _))))))⟩)

variable {dA fA:Option Addr} {dc fc:Nat} {dz:List Int} {fz:List FltZ} {kz:Int}
theorem F.ent64:Enters Tryz.prog 64:=jD Tryz.func64 rfl kr
theorem jFt (hfl:fz.length<1000000) (hdl:dz.length<1000000) (hk:chk fz kz dz≠0) (w:World) (hF:RdL FltZ.cells 4 w fA fz) (hD:RdL zcell 1 w dA dz):Calls Tryz.prog 15 #[.agg (CY fA fz.length fc kz dA dz.length dc).toArray] w fun e w'=>e=.returned (.tuple #[.slice none 0 0,.int .i64 0,.int .i64 ((chk fz kz dz:Nat):Int)])∧Grew w w' []:=by
 refine enter (N:=26) [(0,.agg (CY fA fz.length fc kz dA dz.length dc).toArray)] Tryz.func15 J Tryz.ntmps15 J J (csr (jP J J ?_));intro b1;refine zD J J (zD J J (lax J J (zF (csr (jC J J F.agg25 F.ti25 (jF (v:=.int .i64 ((chk fz kz dz:Nat):Int)) (vs:=[_]) J J F.ent33 (fun a w ha=>wS hfl hdl w (hF.later ha.below) (hD.later ha.below)) (lax J J (csr (zA J J (zG J J J kW ?_))))))))))
 refine lnx (zL J (fun hc0=>?_) (fun hc0=>?_))
 ·exact csr (zA J J (zD J J (zD J J (lax J J (zT (zP (zY J (fun a w ha=>qR J J J J ha) (fun a w ha=>⟨rfl,ha.grown nsl⟩))))))))
 ·exfalso;omega
  done

theorem jAc (hfl:fz.length<1000000) (hdl:dz.length<1000000) {rp:Bool} (hk:chk fz kz dz≠0) (w:World) (hF:RdL FltZ.cells 4 w fA fz) (hD:RdL zcell 1 w dA dz):Calls Tryz.prog 58 #[.agg (CY fA fz.length fc kz dA dz.length dc).toArray,.bool rp] w fun e w'=>e=.returned (.tuple #[.slice none 0 0,.int .i64 0,.int .i64 ((chk fz kz dz:Nat):Int)])∧Grew w w' []:=by
 refine enter (N:=26) [(0,.agg (CY fA fz.length fc kz dA dz.length dc).toArray),(1,.bool rp)] Tryz.func58 J Tryz.ntmps58 J J (csr (jP J J ?_));intro b2;refine zD J J (zD J J (lax J J (zF (csr (jC J J F.agg25 F.ti25 (jF (v:=.int .i64 ((chk fz kz dz:Nat):Int)) (vs:=[_]) J J F.ent34 (fun a w ha=>zDr hfl hdl w (hF.later ha.below) (hD.later ha.below)) (lax J J (csr (zA J J (zG J J J kW ?_))))))))))
 refine lnx (zL J (fun hc0=>?_) (fun hc0=>?_))
 ·exact csr (zA J J (zD J J (zD J J (lax J J (zT (zP (zY J (fun a w ha=>qR J J J J ha) (fun a w ha=>⟨rfl,ha.grown nsl⟩))))))))
 ·exfalso;omega
  done

theorem jCc {kiln:Nat} {fs:List Flt} {days:List Nat} (hc:ChV fs kiln days) {rp:Bool} (w:World) (hF:RdL Flt.cells 4 w fA fs) (hD:RdL ncell 1 w dA days):Calls Tryz.prog 58 #[.agg (CA fA fs.length fc kiln dA days.length dc).toArray,.bool rp] w fun e w'=>∃(A:Option Addr) (c:Nat) (R S:List Meta),(((bO (lasR fs rp) fs kiln days days.length (start fs)).is=true∧R.map (·.2.2)=planN (lasR fs rp) fs kiln days∧e=.returned (.tuple #[.slice A R.length c,.int .i64 (((bO (lasR fs rp) fs kiln days days.length (start fs)).f:Nat):Int),.int .i64 0]))∨((bO (lasR fs rp) fs kiln days days.length (start fs)).is=false∧R=[]∧e=.returned (.tuple #[.slice none 0 0,.int .i64 0,.int .i64 11])))∧(∀m∈R,m∈S)∧Grew w w' (.row 23 1 A R.length c (R.map mcell)::S.map mrow):=by
 refine enter (N:=26) [(0,.agg (CA fA fs.length fc kiln dA days.length dc).toArray),(1,.bool rp)] Tryz.func58 J Tryz.ntmps58 J J (csr (jP J J ?_));intro b2;refine zD J J (zD J J (lax J J (zF (csr (jC J J F.agg25 F.ti25 ?_)))))
 refine jF (v:=.int .i64 0) (vs:=[_]) J J F.ent34 (fun a w ha=>by
  have h:=zDr (fA:=fA) (dA:=dA) (fc:=fc) (dc:=dc) (fs:=fs.map Flt.toZ) (kiln:=(kiln:Int)) (days:=toZs days) (by have:=hc.f3;simp;omega) (by have:=hc.d4;simp[toZs];omega) w (RdL.mapped Flt.toZ (hF.later ha.below) (fun _=>rfl)) (RdL.mapped (fun (n:Nat)=>(n:Int)) (hD.later ha.below) (fun _=>rfl));rw[chk0 hc] at h
  simpa[toZs] using h) ?_
 refine lax J J (csr (zA J J (zG J J J kW ?_)))
 refine lnx (zL J (fun hc0=>?_) (fun hc0=>?_))
 ·exact absurd J hc0
  done
 ·refine zQ (zE (csr (jC J J F.agg25 F.ti25 (zA J J (kF (X:=Option Addr×Nat×List Meta×List Meta) (vs:=[_,_]) (p:=fun y=>(((bO (lasR fs rp) fs kiln days days.length (start fs)).is=true∧y.2.2.1.map (·.2.2)=planN (lasR fs rp) fs kiln days)∨((bO (lasR fs rp) fs kiln days days.length (start fs)).is=false∧y.2.2.1=[]∧y.1=none∧y.2.1=0))∧∀m∈y.2.2.1,m∈y.2.2.2) (val:=fun y=>.tuple #[.slice y.1 y.2.2.1.length y.2.1,.int .i64 (encO (bO (lasR fs rp) fs kiln days days.length (start fs)))]) (rs:=fun y=>.row 23 1 y.1 y.2.2.1.length y.2.1 (y.2.2.1.map mcell)::y.2.2.2.map mrow) J J F.ent64 (fun a w ha=>(zWl hc.w w (hF.later ha.below) (hD.later ha.below)).mono (fun e w' h=>by obtain⟨A',c',R',S',h1,h2,h3,h4⟩:=h;exact⟨(A',c',R',S'),⟨h1,h2⟩,h3,h4⟩)) ?_)))));rintro⟨A,c,R,S⟩ ⟨hcase,hRS⟩;dsimp only at hcase hRS ⊢;have hbl:=zFm (las:=(lasR fs rp)) (kiln:=kiln) (days:=days) hc.f3 days.length (start fs);have hd4:=hc.d4;have heg:=zJs (bO (lasR fs rp) fs kiln days days.length (start fs));refine zA J J (zZ J J J (zZ J J J (zD J J (lax J J (zF (csr (zA J J (zG J J J jW ?_))))))))
  refine lnx (zL J (fun hc1=>?_) (fun hc1=>?_))
  ·refine csr (zD J J (zD J J (lax J J (zT (zP ?_)))))
   exact zY J (fun a w ha=>qR J J J J ha) (fun a w ha=>⟨A,c,R,S,.inr (by
    rcases hcase with ⟨h1,_⟩|⟨h1,h2,_,_⟩
    ·rw[zHq h1] at hc1;omega
    ·exact⟨h1,h2,rfl⟩),hRS,ha.grown (.cons_cons _ (List.sublist_append_left _ _))⟩)
  ·have his:(bO (lasR fs rp) fs kiln days days.length (start fs)).is=true:=by
    cases h:(bO (lasR fs rp) fs kiln days days.length (start fs)).is with
    | true=>rfl
    | false =>
     refine absurd ?_ hc1;unfold encO;rw[h,if_neg Bool.false_ne_true]
     decide
   have henc:=zHq his;refine zQ (zE (csr (zA J J (zA J J (zG (v:=.int .i64 (((bO (lasR fs rp) fs kiln days days.length (start fs)).f:Nat):Int)) J J J (fun w=>zLd w (by decide) (by rw[henc,show (((100*(bO (lasR fs rp) fs kiln days days.length (start fs)).f+(bO (lasR fs rp) fs kiln days days.length (start fs)).w:Nat):Int)).tdiv 100=(((bO (lasR fs rp) fs kiln days days.length (start fs)).f:Nat):Int) from by rw[Int.tdiv_eq_ediv_of_nonneg om];omega];exact kQ _ om om)) (zD J J (zD J J (lax J J (zT ?_)))))))))
   exact zY J (fun a w ha=>qR J J J J ha) (fun a w ha=>⟨A,c,R,S,.inl (by
    rcases hcase with ⟨h1,h2⟩|⟨h1,_⟩
    ·exact⟨h1,h2,rfl⟩
    ·rw[h1] at his;cases his),hRS,ha.grown (.cons_cons _ (List.sublist_append_left _ _))⟩)

end
section
variable {l:List Int} {m n:Nat}
def jobC (n:Nat) (l:List Int):Nat:=if szd l.length n n≠0 then szd l.length n n else if badK l=true then 8 else 0
theorem zJh:szd m n n=if m<n then 7 else if n<m then 6 else 0:=by
 unfold szd
 by_cases h:m<n
 ·rw[if_pos h,if_pos om]
 ·rw[if_neg h,if_neg om]
  by_cases h1:n<m
  ·rw[if_pos h1,if_pos om]
  ·rw[if_neg h1,if_neg om]
theorem jFv:szd m n n=0↔m=n:=by
 rw[zJh]
 split
 ·omega
 ·split<;>omega
theorem zSl (h:m<n):szd m n n=7:=by rw[zJh,if_pos h]
theorem zPk (h:n<m):szd m n n=6:=by rw[zJh,if_neg (by omega),if_pos h]
theorem zNw (h:l.length<n):jobC n l=7:=by
 unfold jobC;rw[zSl h]
 rfl
theorem zMw (h:n<l.length):jobC n l=6:=by
 unfold jobC;rw[zPk h]
 rfl
theorem zPf (h:l.length=n) (h1:badK l=true):jobC n l=8:=by
 unfold jobC;rw[jFv.2 h,if_neg om,if_pos h1]
theorem zGz (h:l.length=n) (h1:badK l=false):jobC n l=0:=by
 unfold jobC;rw[jFv.2 h,if_neg om,if_neg (by rw[h1];simp)]
theorem zL3 (h:jobC n l=0):szd l.length n n=0∧l.length=n∧badK l=false:=by
 unfold jobC at h
 split at h
 ·omega
 ·split at h
  ·cases h
  ·rename_i h1 h2;have h3:szd l.length n n=0:=om;exact⟨h3,jFv.1 h3,by simpa using h2⟩
theorem jCi (n:Nat) (l:List Int):jobC n l<=8:=by
 rcases Nat.lt_trichotomy l.length n with h|h|h
 ·rw[zNw h];decide
 ·cases hb:badK l with
  | false=>rw[zGz h hb];decide
  | true=>rw[zPf h hb];decide
 ·rw[zMw h];decide
theorem WkI.job {fs:List Flt} {kiln:Nat} {days:List Nat} {plan:List (List Int)} {k:Nat} {m:Mor} {fires:Nat} {out:List (List Nat)} (h:WkI fs kiln days plan k m fires out) (hl:plan[k]?=some l) (h1:jobC fs.length l≠0):(wk fs kiln days plan 0 (start fs)).1=jobC fs.length l:=by
 unfold jobC at h1 ⊢
 by_cases h2:szd l.length fs.length fs.length≠0
 ·rw[if_pos h2];exact h.short hl h2
 ·rw[if_neg h2] at h1 ⊢
  by_cases h3:badK l=true
  ·rw[if_pos h3];exact h.sort hl h2 h3
  ·rw[if_neg h3] at h1;exact absurd J h1
end
end Go.Proofs.YteppiphdbondeaaGreat.N
