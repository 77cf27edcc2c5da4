/- Parts of the walk of the law CharAgains: Y1, YA, V4b, Y2, ChAH, YB, Y3, ChAI, YC, Y4, ChAJ, ChAL, ChAN, ChAO, YD, Y5, YE, Y6, YF, YG, YH, Y7, YI, YJ, Y8, Y9, YK, Y10. -/
import Derived.Test.YteppiphdbondeaaGreatSCharAgains08
import Derived.Test.YteppiphdbondeaaGreatProg
import Derived.ArgAppend
import Derived.Deep.Upon
import Derived.Test.YteppiphdbondeaaGreatSCharAgains00
import Derived.Test.YteppiphdbondeaaGreatSCharAgains01
import Derived.Deep.AppendSrc
namespace Go.Proofs.YteppiphdbondeaaGreat.N
set_option linter.unusedSectionVars false
open Go.RowKit
section
variable [I:Sys]
theorem F.ent63:Enters TP 63:=jD Tryz.func63 rfl kr
theorem F.ent72:Enters TP 72:=jD Tryz.func72 rfl kr
theorem F.ent83:Enters TP 83:=jD Tryz.func83 rfl kr
theorem wB (n lo hi:Int) (w:World):Calls TP 72 #[.int .i64 n,.int .i64 lo,.int .i64 hi] w fun e w'=>e=.returned (.bool (btw n lo hi))∧Grew w w' []:=by
 refine enter (N:=15) [(0,.int .i64 n),(1,.int .i64 lo),(2,.int .i64 hi)] Tryz.func72 J Tryz.ntmps72 J J ?_
 refine csr (lax J J (csr (vU 8 14 (.bool (btw n lo hi)) ?_ ?_)))
 ·refine zA J J (zA J J (zE J J J zFb ?_))
  refine zA J J (xU (t:=10) J (fun hg10=>?_) (fun hg10=>?_))
  ·exact zM J J (zA J J (zM J J (zA J J (zM J J (zE J J J zEw (jH J J J (zB (qN (.cons (by unfold btw;simp_all[look]<;>omega) sbn) sbl))))))))
  ·exact zR J J J (zR J J J (zR J J J (jU J J J (zB (qN (.cons (by unfold btw;simp_all[look]<;>omega) sbn) sbl)))))
 exact lax J J (zV (zX J (rsO J J) (fun a w ha=>⟨rfl,ha.grown nsl⟩)))

theorem zOt (n hi:Int) (h0:0<=n) (w:World):Calls TP 83 #[.int .i64 n,.int .i64 hi] w fun e w'=>e=.returned (.int .i64 ((szd n 1 hi:Nat):Int))∧Grew w w' []:=by
 refine enter (N:=10) [(0,.int .i64 n),(1,.int .i64 hi)] Tryz.func83 J Tryz.ntmps83 J J (csr (lax J J (zG (csr (zA J J (zE J J J kD ?_))))))
 refine lnx (zK J (fun hc0=>?_) (fun hc0=>?_))
 ·exact csr (lax J J (zV (zU (zX J (rsO J J) (fun a w ha=>⟨by unfold szd;rw[if_pos om];rfl,ha.grown nsl⟩)))))
 ·refine zO (zD (zG (csr (zA J J (zA J J (zE J J J wM ?_))))))
  refine lnx (zK J (fun hc1=>?_) (fun hc1=>?_))
  ·exact csr (lax J J (zV (zU (zX J (rsO J J) (fun a w ha=>⟨by unfold szd;rw[if_neg om,if_pos hc1];rfl,ha.grown nsl⟩)))))
  ·exact zO (zD (csr (lax J J (zV (zX J (rsO J J) (fun a w ha=>⟨by unfold szd;rw[if_neg om,if_neg hc1];rfl,ha.grown nsl⟩))))))

theorem zLg (p g n:Int) (wd:Bool) (w:World):Calls TP 63 #[.agg #[.int .i64 p,.int .i64 g,.int .i64 n,.bool wd]] w fun e w'=>e=.returned (.int .i64 ((chkF ⟨p,g,n,wd⟩:Nat):Int))∧Grew w w' []:=by
 refine enter (N:=23) [(0,.agg #[.int .i64 p,.int .i64 g,.int .i64 n,.bool wd])] Tryz.func63 J Tryz.ntmps63 J J (csr (jT J J ?_));intro b1
 refine lax J J (zG (csr (vU 20 22 (.bool (!(btw p 1 4&&btw g 0 p&&btw n 0 p))) ?_ ?_)))
 ·refine zI J J F.fi27_0 F.ti3 (zS J J F.one3 (jE (v:=.bool (btw p (1) (4))) (vs:=[_,_,_]) J J F.ent72 (fun a w ha=>wB (p) (1) (4) w) ?_))
  refine qC J J (zA J J (vE (t:=7) J (fun hg7=>?_) (fun hg7=>?_)))
  ·exact zR J J J (zR J J J (zR J J J (zR J J J (zR J J J (zR J J J (jH J J J (zA J J (zR J J J (zR J J J (zR J J J (zR J J J (zR J J J (zR J J J (jH J J J (zB (qN (.cons (by simp_all[look]) sbn) sbl))))))))))))))))
  ·refine zM J J (zI J J F.fi27_1 F.ti3 (zM J J (zS J J F.one3 (zM J J (zI J J F.fi27_0 F.ti3 (zM J J (zS J J F.one3 (zM J J (jE (v:=.bool (btw g (0) (p))) (vs:=[_,_,_]) J J F.ent72 (fun a w ha=>wB (g) (0) (p) w) ?_)))))))))
   refine zM J J (qC J J (jU J J J (zA J J (vE (t:=15) J (fun hg15=>?_) (fun hg15=>?_)))))
   ·exact zR J J J (zR J J J (zR J J J (zR J J J (zR J J J (zR J J J (jH J J J (zB (qN (.cons (by simp_all[look]) sbn) sbl))))))))
   ·exact zM J J (zI J J F.fi27_2 F.ti3 (zM J J (zS J J F.one3 (zM J J (zI J J F.fi27_0 F.ti3 (zM J J (zS J J F.one3 (zM J J (jE (v:=.bool (btw n (0) (p))) (vs:=[_,_,_]) J J F.ent72 (fun a w ha=>wB (n) (0) (p) w) (zM J J (qC J J (jU J J J (zB (qN (.cons (by simp_all[look]) sbn) sbl))))))))))))))
 refine lnx (kH J (fun hc0=>?_) (fun hc0=>?_))
 ·exact csr (lax J J (zV (zU (zX J (rsO J J) (fun a w ha=>⟨by unfold chkF;rw[if_neg (by intro h;rw[h] at hc0;cases hc0)];rfl,ha.grown nsl⟩)))))
 ·exact zO (zD (csr (lax J J (zV (zX J (rsO J J) (fun a w ha=>⟨by unfold chkF;rw[if_pos (by simpa using hc0)];rfl,ha.grown nsl⟩))))))

theorem zJa {fA dA:Option Addr} {fc dc:Nat} {fs:List FltZ} {kiln:Int} {days:List Int} (hfl:fs.length<1000000) (hdl:days.length<1000000) (w:World) (hF:RdL FltZ.cells 4 w fA fs) (hD:RdL zcell 1 w dA days):Calls TP 34 #[.agg #[.slice fA fs.length fc,.int .i64 kiln,.slice dA days.length dc]] w fun e w'=>e=.returned (.int .i64 ((chk fs kiln days:Nat):Int))∧Grew w w' []:=by
 refine enter (N:=56) [(0,.agg #[.slice fA fs.length fc,.int .i64 kiln,.slice dA days.length dc])] Tryz.func34 J Tryz.ntmps34 J J (csr (jT J J ?_));intro b1;refine lax J J (zG (csr (zI J J F.fi25_0 F.ti22 (zS J J F.one22 (jR J J U22 (jE (v:=.int .i64 ((szd fs.length 1 (3):Nat):Int)) (vs:=[_,_]) J J F.ent83 (fun a w ha=>zOt (fs.length) (3) om w) (lax J J (csr (zA J J (zE J J J kT ?_))))))))))
 refine lnx (zK J (fun hc0=>?_) (fun hc0=>?_))
 ·exact csr (zA J J (lax J J (zV (zU (zX J (rsO J J) (fun a w ha=>⟨by unfold chk;rw[if_pos om],ha.grown nsl⟩))))))
 ·refine zO (zD (zG (csr (lax J J (zQ (qT (G:=Nat) (fun k=>k<=fs.length∧(fs.take k).any (fun f=>chkF f != 0)=false) (fun k=>fs.length-k) (fun k=>[(1,pt b1),(4,.int .i64 (k:Int))]) (fun k=>[.blk b1 (.cells #[.slice fA fs.length fc,.int .i64 kiln,.slice dA days.length dc] 25 (0,0))]) 0 ⟨Nat.zero_le _,rfl⟩ sbn sbl ?_))))));intro k hk;(try dsimp only at hk ⊢);refine zG (csr (zA J J (zI J J F.fi25_0 F.ti22 (zS J J F.one22 (jR J J U22 (zE J J J jY ?_))))))
  refine lnx (zK J (fun hc1=>?_) (fun hc1=>?_))
  ·have hk':k<fs.length:=om;obtain⟨bf,bo,hfA,hbf,hcf⟩:=hF om;obtain⟨f,hx⟩:∃x,fs[k]?=some x:=⟨_,List.getElem?_eq_getElem hk'⟩;obtain⟨p,g,n,wd⟩:=f;refine zO (zD (zG (zQ (csr (zI J J F.fi25_0 F.ti22 (zS J J F.one22 (zA J J (jO (j:=k) J (show _=some (Value.slice (some ⟨bf,bo,none⟩) fs.length fc) from by rw[<-hfA];rfl) J Tryz.underlying22 F.ti27 J hk' (qV (l:=[.int .i64 p,.int .i64 g,.int .i64 n,.bool wd]) J J F.agg27 F.ti27 J (fun a w ha j u hu=>ha.old (hcf k _ hx j u hu) hbf) (jE (v:=.int .i64 ((chkF ⟨p,g,n,wd⟩:Nat):Int)) (vs:=[_]) J J F.ent63 (fun a w ha=>zLg p g n wd w) (lax J J (csr (zA J J (zE J J J kT ?_))))))))))))))
   refine lnx (zK J (fun hc2=>?_) (fun hc2=>?_))
   ·exact csr (zA J J (lax J J (zV (jW (zU (zU (jW (zU (zX J (rsO J J) (fun a w ha=>⟨by have h9:=zSi ⟨p,g,n,wd⟩;unfold chk;rw[if_neg om,if_pos (zJ3 hx (by simp;omega))];rcases h9 with h9|h9<;>rw[h9] at hc2 ⊢ <;> simp at hc2 ⊢,ha.grown nsl⟩))))))))))
   ·refine zO (zJ (zD (zL (zA J J (zE J J J bdO (zF J J (zB (kV (k+1) ⟨by omega,zBd hx hk.2 (by simp;omega)⟩ tdo sbn sbl))))))))
  ·obtain⟨hk,hall⟩:=hk;obtain rfl:k=fs.length:=om;rw[List.take_length] at hall;refine jV (zN (zN (zY (zD (zG (csr (zI J J F.fi25_1 F.ti3 (zS J J F.one3 (jE (v:=.bool (btw kiln (0) (3))) (vs:=[_,_,_]) J J F.ent72 (fun a w ha=>wB (kiln) (0) (3) w) ?_)))))))))
   refine qC J J (lnx (kH J (fun hc3=>?_) (fun hc3=>?_)))
   ·exact csr (lax J J (zV (zU (zX J (rsO J J) (fun a w ha=>⟨by unfold chk;rw[if_neg om,if_neg (by rw[hall];simp),if_pos (by simpa using hc3)];rfl,ha.grown nsl⟩)))))
   ·refine zO (zD (zG (csr (zI J J F.fi25_2 F.ti23 (zS J J F.one23 (jR J J U23 (jE (v:=.int .i64 ((szd days.length 1 (4):Nat):Int)) (vs:=[_,_]) J J F.ent83 (fun a w ha=>zOt (days.length) (4) om w) (lax J J (csr (zA J J (zE J J J kT ?_)))))))))))
    refine lnx (zK J (fun hc4=>?_) (fun hc4=>?_))
    ·exact csr (zA J J (lax J J (zV (zU (zX J (rsO J J) (fun a w ha=>⟨by unfold chk;rw[if_neg om,if_neg (by rw[hall];simp),if_neg (by simpa using hc3),if_pos om],ha.grown nsl⟩))))))
    ·refine zO (zD (zG (csr (lax J J (zQ (qT (G:=Nat) (fun k=>k<=days.length∧(days.take k).any (fun n=>!btw n 0 12)=false) (fun k=>days.length-k) (fun k=>[(1,pt b1),(7,.int .i64 (k:Int))]) (fun k=>[.blk b1 (.cells #[.slice fA fs.length fc,.int .i64 kiln,.slice dA days.length dc] 25 (0,0))]) 0 ⟨Nat.zero_le _,rfl⟩ sbn sbl ?_))))));intro k hk;(try dsimp only at hk ⊢);refine zG (csr (zA J J (zI J J F.fi25_2 F.ti23 (zS J J F.one23 (jR J J U23 (zE J J J jY ?_))))))
     refine lnx (zK J (fun hc5=>?_) (fun hc5=>?_))
     ·have hk':k<days.length:=om;obtain⟨bd,bo,hdA,hbd,hcd⟩:=hD om;obtain⟨n,hx⟩:∃x,days[k]?=some x:=⟨_,List.getElem?_eq_getElem hk'⟩;refine zO (zD (zG (zQ (csr (zI J J F.fi25_2 F.ti23 (zS J J F.one23 (zA J J (jO (j:=k) J (show _=some (Value.slice (some ⟨bd,bo,none⟩) days.length dc) from by rw[<-hdA];rfl) J Tryz.underlying23 F.ti3 J hk' (jM (v:=.int .i64 n) J J F.one3 (fun a w ha=>ha.old (hcd k _ hx 0 _ J) hbd) (jE (v:=.bool (btw n (0) (12))) (vs:=[_,_,_]) J J F.ent72 (fun a w ha=>wB (n) (0) (12) w) ?_))))))))))
      refine qC J J (lnx (kH J (fun hc6=>?_) (fun hc6=>?_)))
      ·exact csr (lax J J (zV (jW (zU (zU (jW (zU (zX J (rsO J J) (fun a w ha=>⟨by unfold chk;rw[if_neg om,if_neg (by rw[hall];simp),if_neg (by simpa using hc3),if_neg om,if_pos (zJ3 hx hc6)];rfl,ha.grown nsl⟩)))))))))
      ·refine zO (zJ (zD (zL (zA J J (zE J J J bdO (zF J J (zB (kV (k+1) ⟨by omega,zBd hx hk.2 hc6⟩ tdo sbn sbl))))))))
     ·obtain⟨hk,hall2⟩:=hk;obtain rfl:k=days.length:=om;rw[List.take_length] at hall2;exact jV (zN (zN (zY (zD (csr (lax J J (zV (zX J (rsO J J) (fun a w ha=>⟨by unfold chk;rw[if_neg om,if_neg (by rw[hall];simp),if_neg (by simpa using hc3),if_neg om,if_neg (by rw[hall2];simp)];rfl,ha.grown nsl⟩)))))))))

end
section
variable {i k n:Nat} {m m':Mor} {w':World}
def bcell (b:Bool):List Value:=[.bool b]
def bools (l:List Bool):List Value:=l.map Value.bool
theorem zTc (l:List Bool):bools l=l.flatMap bcell:=by
 unfold bools bcell;rw[<-List.map_eq_flatMap]
theorem zT8 (l:List Bool) (b:Bool):bools (l++[b])=bools l++[.bool b]:=by simp[bools]
theorem zXa {l:List Bool} {b:Bool} (h:l[k]?=some b):(bools l)[k]?=some (.bool b):=by unfold bools;rw[List.getElem?_map,h];rfl
def wbs (n:Nat) (m:Mor):List Bool:=(List.range n).map fun i=>m.w.testBit i
def sts (n:Nat) (m:Mor):List Nat:=(List.range n).map fun i=>m.s.getD i 0
theorem zIh (n:Nat) (m:Mor):(wbs n m).length=n:=by simp[wbs]
theorem zIa (n:Nat) (m:Mor):(sts n m).length=n:=by simp[sts]
theorem zYn (n:Nat) (m:Mor):wbs (n+1) m=wbs n m++[m.w.testBit n]:=by simp[wbs,List.range_succ]
theorem zZ4 (n:Nat) (m:Mor):sts (n+1) m=sts n m++[m.s.getD n 0]:=by simp[sts,List.range_succ]
theorem zPu (h:i<n):(wbs n m)[i]?=some (m.w.testBit i):=by simp[wbs,h]
theorem zQg (h:i<n):(sts n m)[i]?=some (m.s.getD i 0):=by simp[sts,h]
abbrev MZ:Type:=(Option Addr×Nat)×(Option Addr×Nat)×Mor
def mmc (n:Nat) (x:MZ):List Value:=[.slice x.1.1 n x.1.2,.slice x.2.1.1 n x.2.1.2]
def mmr (n:Nat) (x:MZ):List Res:=[.row 3 1 x.1.1 n x.1.2 (ints (sts n x.2.2)),.row 4 1 x.2.1.1 n x.2.1.2 (bools (wbs n x.2.2))]
structure RdMM (n:Nat) (w:World) (x:MZ):Prop where
 s:RdL ncell 1 w x.1.1 (sts n x.2.2)
 w:RdL bcell 1 w x.2.1.1 (wbs n x.2.2)
theorem RdMM.later [I:Sys] {w:World} {x:MZ} (h:RdMM n w x) (hb:Below w.heap.size w w'):RdMM n w' x:=⟨h.s.later hb,h.w.later hb⟩
structure RdMs (n:Nat) (w:World) (A:Option Addr) (l:List MZ):Prop where
 outer:RdL (mmc n) 2 w A l
 inner:∀x∈l,RdMM n w x
theorem RdMs.later [I:Sys] {w:World} {A:Option Addr} {l:List MZ} (h:RdMs n w A l) (hb:Below w.heap.size w w'):RdMs n w' A l:=⟨h.outer.later hb,fun x hx=>(h.inner x hx).later hb⟩
section
variable [I:Sys] {C:Ctx} {fr:LV} {hp hp':List Res} {a:Act} {w:World}
theorem zVj (ha:At C fr hp a w) {A:Option Addr} {n c:Nat} {l:List Bool} (hm:Res.row 4 1 A n c (bools l)∈hp) (hn:n=l.length):RdL bcell 1 w A l :=
 kX ha (cells:=bcell) (size:=1) (e:=4) (c:=c) (n:=n) (fun _=>rfl) (by rw[<-zTc];exact hm) hn
theorem zGe (ha:At C fr hp a w) {n:Nat} {x:MZ} (h:∀r∈mmr n x,r∈hp):RdMM n w x:=by
 have h0:Res.row 4 1 x.2.1.1 n x.2.1.2 (bools (wbs n x.2.2))∈hp:=h _ (by simp[mmr]);refine⟨?_,zVj ha h0 (zIh ..).symm⟩;have h1:Res.row 3 1 x.1.1 n x.1.2 (ints (sts n x.2.2))∈hp:=h _ (by simp[mmr]);have h2:Res.row 3 1 x.1.1 (sts n x.2.2).length x.1.2 (ints (sts n x.2.2))∈hp:=by rw[zIa];exact h1
 exact zE9 ha (fun _=>rfl) h2
theorem jE4 (ha:At C fr hp a w) {n c:Nat} {A:Option Addr} {l:List MZ} (h1:Res.row 112 2 A l.length c (l.flatMap (mmc n))∈hp) (h2:∀x∈l,∀r∈mmr n x,r∈hp):RdMs n w A l :=
 ⟨kX ha (cells:=mmc n) (size:=2) (e:=112) (c:=c) (n:=l.length) (fun _=>rfl) h1 J,fun x hx=>zGe ha (h2 x hx)⟩
end
theorem mok4 (h:MOk m) (j:Nat):m.s.getD j 0<=4:=by
 rw[List.getD_eq_getElem?_getD]
 cases hj:m.s[j]? with
 | none=>exact Nat.zero_le _
 | some x=>exact h.small x (List.mem_of_getElem? hj)
def cdM (m:Mor):Nat->Nat
 | 0=>0
 | k+1=>cdM m k*10+2*m.s.getD k 0+if m.w.testBit k then 1 else 0
theorem jFt (h:m.w.testBit k=true):cdM m (k+1)=cdM m k*10+2*m.s.getD k 0+1:=by show _+_+(if _ then _ else _)=_;rw[if_pos h]
theorem jF8 (h:m.w.testBit k=false):cdM m (k+1)=cdM m k*10+2*m.s.getD k 0:=by show _+_+(if _ then _ else _)=_;rw[h];rfl
theorem zC0 (h:MOk m):∀k,cdM m k<10^k
 | 0=>Nat.one_pos
 | k+1=>by
  have:=zC0 h k;have h4:m.s.getD k 0<=4:=mok4 h k;unfold cdM;rw[Nat.pow_succ]
  split<;>omega
theorem zLu (h:MOk m) (h':MOk m'):∀k,cdM m k=cdM m' k->∀i,i<k->m.s.getD i 0=m'.s.getD i 0∧m.w.testBit i=m'.w.testBit i
 | 0,_=>fun _ hi=>absurd hi (Nat.not_lt_zero _)
 | k+1,e=>fun i hi=>by
  have h4:m.s.getD k 0<=4:=mok4 h k;have h4':m'.s.getD k 0<=4:=mok4 h' k;unfold cdM at e
  have e1:cdM m k=cdM m' k∧2*m.s.getD k 0+(if m.w.testBit k=true then 1 else 0)=2*m'.s.getD k 0+(if m'.w.testBit k=true then 1 else 0):=by
   split at e<;>split at e<;>rename_i x y<;>simp only[x,y,if_true,if_false,Bool.false_eq_true]<;>omega
  rcases Nat.lt_or_ge i k with hk|hk
  ·exact zLu h h' k e1.1 i hk
  ·obtain rfl:i=k:=om;have e2:=e1.2
   refine⟨?_,?_⟩
   ·split at e2<;>split at e2<;>omega
   ·cases x:m.w.testBit i<;>cases y:m'.w.testBit i<;>rw[x,y] at e2<;>first|rfl|(simp at e2;omega)
def Thin (n:Nat) (m:Mor):Prop:=∀i,n<=i->m.s.getD i 0=0∧m.w.testBit i=false
theorem jA5 (h:MOk m) (h':MOk m') (hs:∀i,m.s.getD i 0=m'.s.getD i 0) (hw:∀i,m.w.testBit i=m'.w.testBit i):m=m':=by
 cases m with
 | mk s w =>
 cases m' with
 | mk s' w' =>
 have e1:s=s':=by
  apply List.ext_getElem?
  intro i;have a1:=h.three;have a2:=h'.three;dsimp only at a1 a2
  rcases Nat.lt_or_ge i 3 with hi|hi
  ·have:=hs i;simp only[List.getD_eq_getElem?_getD,List.getElem?_eq_getElem (show i<s.length by omega),List.getElem?_eq_getElem (show i<s'.length by omega),Option.getD_some] at this;rw[List.getElem?_eq_getElem (show i<s.length by omega),List.getElem?_eq_getElem (show i<s'.length by omega),this]
  ·rw[List.getElem?_eq_none om,List.getElem?_eq_none om]
 have e2:w=w':=Nat.eq_of_testBit_eq hw;rw[e1,e2]
theorem zVy (h:MOk m) (h':MOk m') (t:Thin n m) (t':Thin n m') (e:cdM m n=cdM m' n):m=m' :=
 jA5 h h' (fun i=>by
  rcases Nat.lt_or_ge i n with hi|hi
  ·exact (zLu h h' n e i hi).1
  ·rw[(t i hi).1,(t' i hi).1]) fun i=>by
  rcases Nat.lt_or_ge i n with hi|hi
  ·exact (zLu h h' n e i hi).2
  ·rw[(t i hi).2,(t' i hi).2]
end
section
open Go.Conc
variable {ch:List Nat} {i:Nat} {o:Oper}
section
variable {P:Program} [I:Sys] {ops:Array Oper} {Q:QT} {md:Region.Mode} {S:Array Bool->World->Prop} {S1:World->Prop}
def wpAnyL (P:Program) [Sys] (md:Region.Mode) (ops:Array Oper) (Q:QT) (S:Array Bool->World->Prop):Nat->Array Bool->Act->World->Prop
 | 0,listed,a,w=>Region.ready md ops listed=[]∧Q .normal a w
 | fuel+1,listed,a,w =>
  (Region.ready md ops listed=[]->Q .normal a w) ∧
  ∀i∈Region.ready md ops listed,wpOp P ops Q i (fun a' w'=>S (listed.setIfInBounds i true) w'∧wpAnyL P md ops Q S fuel (listed.setIfInBounds i true) a' w') a w
theorem zPw:∀(fuel:Nat) (listed:Array Bool) (a:Act) (w:World),wpAnyL P md ops Q S fuel listed a w->wpAnyH P md ops Q (fun _=>True) fuel listed a w
 | 0,_,_,_,h=>h
 | fuel+1,_,_,_,h=>⟨h.1,fun i hi=>zEg (fun a w hk=>⟨trivial,zPw fuel _ a w hk.2⟩) (h.2 i hi)⟩
theorem zD0 (hSa:∀l w w',S l w->Rl w w'->S l w') (hQa:∀a w w',Q .normal a w->Rl w w'->Q .normal a w'):∀(fuel:Nat) (listed:Array Bool),Bears (fun a w=>S listed w∧wpAnyL P md ops Q S fuel listed a w)
 | 0,listed,a,w,w',h,hr=>⟨hSa _ _ _ h.1 hr,h.2.1,hQa _ _ _ h.2.2 hr⟩
 | fuel+1,listed,a,w,w',h,hr=>by
  refine⟨hSa _ _ _ h.1 hr,fun h0=>hQa _ _ _ (h.2.1 h0) hr,fun i hi=>?_⟩;have h1:=h.2.2 i hi;unfold wpOp at h1 ⊢
  cases ho:ops[i]? with
  | none=>rw[ho] at h1;exact h1
  | some o =>
   rw[ho] at h1;dsimp only at h1 ⊢
   split
   ·rename_i hw;rw[if_pos hw] at h1;exact h1.rely hr
   ·rename_i hw;rw[if_neg hw] at h1;exact zD0 hSa hQa fuel _ _ _ _ h1 hr
theorem zP2 (hSa:∀l w w',S l w->Rl w w'->S l w') (hS1a:∀w w',S1 w->Rl w w'->S1 w') (hQa:∀a w w',Q .normal a w->Rl w w'->Q .normal a w') {i:Nat} {oi:Oper} {v:Value} (hi:ops[i]?=some oi) (hsel:∀(j:Nat) (o:Oper) cs b,ops[j]?=some o->o.op≠.select cs b)
  (hQ:∀c a w,Q (.panic c) (a.put oi.dst v) w->Q (.panic c) a w) {k:Nat} {ch:List Nat} (hch:∀q∈ch,q=i∨∃oq,ops[q]?=some oq∧∃e∈oq.after,Region.binds md e=true∧e.on∈ch) (hkc:k∈ch) (hki:k≠i) (hS1:∀listed w,listed.getD k true=false->S listed w->S1 w) (hSs:∀listed j w,j≠k->(S (listed.setIfInBounds j true) w↔S listed w)) :
  ∀(fuel:Nat) (listed:Array Bool) (a:Act) (w:World),
   (∀j oj,ops[j]?=some oj->j≠i->listed.getD j true=false->(∀e∈oj.after,Region.binds md e=true->e.on≠i)->oi.apart ops oj=true) ->
   i∈Region.ready md ops listed->(∀q∈ch,listed.getD q true=false)->YieldsIf P ops S1 oi v a->S listed w ->
   wpAnyL P md ops Q S fuel (listed.setIfInBounds i true) (a.put oi.dst v) w->wpAnyL P md ops Q S (fuel+1) listed a w:=by
 intro fuel
 induction fuel with
 | zero =>
  intro listed a w _ hr hkl hy hS H;refine⟨fun h=>(by rw[h] at hr;cases hr),fun j hj=>?_⟩
  by_cases hji:j=i
  ·subst hji;exact hy.wpOp hS1a hi (zD0 hSa hQa _ _) (hS1 _ _ (hkl k hkc) hS) ⟨(hSs _ _ _ (Ne.symm hki)).2 hS,H⟩
  ·have:=ready_mono hj hji;rw[H.1] at this
   cases this
 | succ fuel ih =>
  intro listed a w hfree hr hkl hy hS H;refine⟨fun h=>(by rw[h] at hr;cases hr),fun j hj=>?_⟩
  by_cases hji:j=i
  ·subst hji;exact hy.wpOp hS1a hi (zD0 hSa hQa _ _) (hS1 _ _ (hkl k hkc) hS) ⟨(hSs _ _ _ (Ne.symm hki)).2 hS,H⟩
  ·have h1:=H.2 j (ready_mono hj hji);obtain⟨hjun,oj,hoj,hall⟩:=mem_ready.1 hj
   have hnot:∀e∈oj.after,Region.binds md e=true->e.on≠i:=fun e he hb heq=>by
    have h1:=hall e he hb;have h0:=(mem_ready.1 hr).1;rw[heq] at h1
    rcases Nat.lt_or_ge i listed.size with h'|h'
    ·simp[h'] at h0 h1;rw[h0] at h1;cases h1
    ·simp[Array.getElem?_eq_none h'] at h1
   have h2:=zPp hoj (hfree j oj hoj hji hjun hnot) (fun cs b=>hsel i oi cs b hi) (fun cs b=>hsel j oj cs b hoj) hQ hy h1
   have hfree':∀k ok,ops[k]?=some ok->k≠i->(listed.setIfInBounds j true).getD k true=false ->
     (∀e∈ok.after,Region.binds md e=true->e.on≠i)->oi.apart ops ok=true:=fun k ok hk hki hun hno=>by
    refine hfree k ok hk hki ?_ hno
    by_cases hjk:j=k
    ·subst hjk;exact hjun
    ·rw[getD_set_ne true hjk] at hun;exact hun
   have hr':=ready_mono hr (Ne.symm hji)
   have hjc:j∉ch:=fun hc=>by
    rcases hch j hc with e|⟨oq,hq,e,he,hb,hon⟩
    ·exact hji e
    ·rw[hoj] at hq
     cases hq
     have h1:=hall e he hb;have h0:=hkl _ hon
     rcases Nat.lt_or_ge e.on listed.size with h'|h'
     ·simp[h'] at h0 h1;rw[h0] at h1;cases h1
     ·simp[Array.getElem?_eq_none h'] at h1
   refine zEg (fun a' w' h3=>?_) h2;obtain⟨h4,h5,h6⟩:=h3;rw[Array.setIfInBounds_comm _ _ (Ne.symm hji)] at h5 h6;have h7:=(hSs _ _ _ (Ne.symm hki)).1 h5;exact⟨h7,ih (listed.setIfInBounds j true) a' w' hfree' hr' (fun q hq=>by rw[getD_set_ne true (show j≠q from fun e=>hjc (by rw[e];exact hq))];exact hkl q hq) h4 h7 h6⟩
end
def MemK (C:Ctx) (k:Nat) (hpT hpS:List Res) (listed:Array Bool) (w:World):Prop:=Mem C hpS w∧(listed.getD k true=false->Mem C hpT w)
theorem MemK.rely [I:Sys] {C:Ctx} {k:Nat} {hpT hpS:List Res} (l:Array Bool) (w w':World) (h:MemK C k hpT hpS l w) (hr:Rl w w'):MemK C k hpT hpS l w':=⟨Mem.rely _ _ h.1 hr,fun x=>Mem.rely _ _ (h.2 x) hr⟩
section
variable [I:Sys] {C:Ctx} {fr:LV} {hp hp' hpS hpT:List Res} {ops:Array Oper} {Q:QT} {d k fuel:Nat} {listed listed':Array Bool}
def AnyK (C:Ctx) (ops:Array Oper) (Q:QT) (k:Nat) (hpT hpS:List Res) (fuel:Nat) (listed:Array Bool) (fr:LV) (hp:List Res):Prop :=
 ∀a w,At C fr hp a w->wpAnyL C.P .any ops (Lax (OnlyN Q)) (MemK C k hpT hpS) fuel listed a w
theorem zZh {j:Nat} {w:World} (hj:j≠k):MemK C k hpT hpS (listed.setIfInBounds j true) w↔MemK C k hpT hpS listed w:=by
 unfold MemK;rw[getD_set_ne true hj]
def chain (ops:Array Oper) (i:Nat) (ch:List Nat):Bool:=ch.all fun q=>q==i||match ops[q]? with
 | none=>false
 | some o=>o.after.any fun e=>Region.binds .any e&&ch.contains e.on
theorem zUf (h:chain ops i ch=true):∀q∈ch,q=i∨∃oq,ops[q]?=some oq∧∃e∈oq.after,Region.binds .any e=true∧e.on∈ch:=by
 intro q hq;have h:=List.all_eq_true.1 h q hq;rw[Bool.or_eq_true] at h
 rcases h with h|h
 ·exact .inl (by simpa using h)
 ·split at h
  ·cases h
  ·rename_i o ho;rw[Array.any_eq_true] at h;obtain⟨j,hj,h⟩:=h;simp only[Bool.and_eq_true,List.contains_iff_mem] at h;exact .inr ⟨o,ho,_,Array.getElem_mem hj,h.1,h.2⟩
def unlisted (ch:List Nat) (listed:Array Bool):Bool:=ch.all fun q=>!listed.getD q true
theorem zNv (h:unlisted ch listed=true):∀q∈ch,listed.getD q true=false:=fun q hq=>by
 have h:=List.all_eq_true.1 h q hq;simpa using h
theorem zBn {rs:List Nat} (hr:Region.ready .any ops listed=rs) (h0:rs=[]) (h:Ex C Q .normal fr hp):AnyK C ops Q k hpT hpS fuel listed fr hp :=
 fun a w ha=>by
  have hq:Lax (OnlyN Q) .normal a w:=Lax.of (show OnlyN Q .normal a w from h a w ha)
  cases fuel with
  | zero=>exact⟨hr.trans h0,hq⟩
  | succ n=>exact⟨fun _=>hq,by rw[hr.trans h0];simp⟩
theorem qB {v:Value} (i:Nat) (ch:List Nat) (hi:ops[i]?=some o) (hdst:o.dst=some d) (hd:Nat.blt d C.N=true) (y:Yld C o fr hpT v) (kk:AnyK C ops Q k hpT hpS fuel (listed.setIfInBounds i true) ((d,v)::fr) hp)
  (hns:Region.noSelect ops=true:=by kernel_rfl) (hf:Region.free .any ops listed i=true:=by kernel_rfl) (hr:(Region.ready .any ops listed).contains i=true:=by kernel_rfl) (hw:chain ops i ch=true:=by kernel_rfl) (hkc:ch.contains k=true:=by kernel_rfl) (hki:(k==i)=false:=by kernel_rfl) (hkl:unlisted ch listed=true:=by kernel_rfl)
  (hT:hpT.Sublist hp:=by repeat (first|exact List.Sublist.refl _|exact List.nil_sublist _|refine List.Sublist.cons_cons _ ?_|refine List.Sublist.cons _ ?_)) (hS:hpS.Sublist hp:=by repeat (first|exact List.Sublist.refl _|exact List.nil_sublist _|refine List.Sublist.cons_cons _ ?_|refine List.Sublist.cons _ ?_)) :
  AnyK C ops Q k hpT hpS (fuel+1) listed fr hp:=by
 intro a w ha
 refine zP2 (S1:=Mem C hpT) (i:=i) (oi:=o) (v:=v) (fun l w w'=>MemK.rely l w w') (fun w w'=>Mem.rely w w') (fun _ _ _ h hr=>h.rely hr) hi (Region.noSelect_spec hns) (fun c a w h=>h.elim fun _ h=>h.1.elim) (zUf hw) (by simpa using hkc) (by simpa using hki) (fun l w hl hs=>hs.2 hl) (fun l j w hj=>zZh hj) fuel listed a w (Region.free_spec hi hf) (by simpa using hr) (zNv hkl) (.inl ⟨?_,(y.2 a w (ha.ofMem (ha.toMem hT))).1,fun w' hw'=>(y.2 a w' (ha.ofMem hw')).2⟩) ⟨ha.toMem hS,fun _=>ha.toMem hT⟩ ?_
 ·unfold Region.wanted;rw[y.1]
 ·rw[hdst];exact kk _ _ (ha.put (kK hd) v)
def NxK (C:Ctx) (ops:Array Oper) (Q:QT) (k:Nat) (hpT hpS:List Res) (fuel:Nat) (listed:Array Bool) (a:Act) (w:World):Prop :=
 MemK C k hpT hpS listed w∧wpAnyL C.P .any ops (Lax (OnlyN Q)) (MemK C k hpT hpS) fuel listed a w
def EachK (C:Ctx) (ops:Array Oper) (Q:QT) (k:Nat) (hpT hpS:List Res) (fuel:Nat) (listed:Array Bool) (fr:LV) (hp:List Res):List Nat->Prop
 | []=>True
 | i::l=>(∃o,ops[i]?=some o∧Lst C ops (Exit.then (NxK C ops Q k hpT hpS fuel (listed.setIfInBounds i true)) (Lax (OnlyN Q))) [o] fr hp)∧EachK C ops Q k hpT hpS fuel listed fr hp l
theorem EachK.at {l:List Nat} (h:EachK C ops Q k hpT hpS fuel listed fr hp l):∀i∈l,∃o,ops[i]?=some o∧Lst C ops (Exit.then (NxK C ops Q k hpT hpS fuel (listed.setIfInBounds i true)) (Lax (OnlyN Q))) [o] fr hp:=by
 induction l with
 | nil=>intro i hi;cases hi
 | cons j l ih =>
  intro i hi
  rcases List.mem_cons.1 hi with rfl|hi
  ·exact h.1
  ·exact ih h.2 i hi
theorem zTf (hi:ops[i]?=some o) {K:Act->World->Prop} (h:Lst C ops (Exit.then K (Lax (OnlyN Q))) [o] fr hp) {a:Act} {w:World} (ha:At C fr hp a w):wpOp C.P ops (Lax (OnlyN Q)) i K a w:=wP hi h ha
theorem kP (is:List Nat) (h:EachK C ops Q k hpT hpS fuel listed fr hp is) (hne:is.isEmpty=false:=by kernel_rfl) (hr:Region.ready .any ops listed=is:=by kernel_rfl):AnyK C ops Q k hpT hpS (fuel+1) listed fr hp:=by
 intro a w ha
 refine⟨fun h0=>?_,fun i hi=>?_⟩
 ·rw[hr] at h0;rw[h0] at hne
  cases hne
 ·rw[hr] at hi;obtain⟨o,ho,hl⟩:=h.at i hi;exact zTf ho hl ha
theorem xL (h:AnyK C ops Q k hpT hpS fuel listed fr hp) (hk:listed.getD k true=true:=by kernel_rfl) (hS:hpS.Sublist hp:=by repeat (first|exact List.Sublist.refl _|exact List.nil_sublist _|refine List.Sublist.cons_cons _ ?_|refine List.Sublist.cons _ ?_)):Ex C (Exit.then (NxK C ops Q k hpT hpS fuel listed) (Lax (OnlyN Q))) .normal fr hp :=
 fun a w ha=>⟨⟨ha.toMem hS,fun e=>by rw[hk] at e;cases e⟩,h a w ha⟩
theorem qL (h:AnyK C ops Q k hpT hpS fuel listed fr hp) (hT:hpT.Sublist hp:=by repeat (first|exact List.Sublist.refl _|exact List.nil_sublist _|refine List.Sublist.cons_cons _ ?_|refine List.Sublist.cons _ ?_)) (hS:hpS.Sublist hp:=by repeat (first|exact List.Sublist.refl _|exact List.nil_sublist _|refine List.Sublist.cons_cons _ ?_|refine List.Sublist.cons _ ?_)):Ex C (Exit.then (NxK C ops Q k hpT hpS fuel listed) (Lax (OnlyN Q))) .normal fr hp :=
 fun a w ha=>⟨⟨ha.toMem hS,fun _=>ha.toMem hT⟩,h a w ha⟩
theorem zJt {id:Nat} {l:List Oper} (k:Nat) (hpT hpS:List Res) (hm:C.P.follows .mixedOrders=true) (n:Nat) (hn:l.length=n) (lst:List Bool) (hl:Array.replicate n false=lst.toArray) (h:AnyK C l.toArray Q k hpT hpS n lst.toArray fr hp) :
  Cod C (.region id l.toArray true) Q fr hp:=by
 intro a w ha
 refine zCe (Q:=OnlyN Q) (zP8 (zB5 (S:=fun _=>True) hm ?_)) ?_
 ·have h1:=h a _ ha;rw[<-hl] at h1;have h2:=zPw _ _ _ _ h1;simpa[hn] using h2
 ·intro e a' w' he
  cases e with
  | normal=>exact he
  | _=>exact he.elim
end
end
section
variable [I:Sys]
theorem F.fi112_0:FI TP 112 0 23 0:=⟨_,_,Tryz.underlying112,rfl,rfl,rfl⟩
theorem F.fi112_1:FI TP 112 1 107 1:=⟨_,_,Tryz.underlying112,rfl,rfl,rfl⟩
theorem F.one107:One TP 107:=⟨by unfold aggB;rw[Tryz.underlying107],by rw[Tryz.underlying107];simp⟩
theorem F.ti107:TI TP 107 (.slice none 0 0) 1 24:=TI.of kr
theorem zCd {sA wA:Option Addr} {n sc wc:Nat} {m:Mor} (h3:n<=3) (hm:MOk m) (w:World) (hx:RdMM n w ((sA,sc),(wA,wc),m)):Calls TP 78 #[.agg #[.slice sA n sc,.slice wA n wc]] w fun e w'=>e=.returned (.int .i64 ((cdM m n:Nat):Int))∧Grew w w' []:=by
 refine enter (N:=29) [(0,.agg #[.slice sA n sc,.slice wA n wc])] Tryz.func78 J Tryz.ntmps78 J J (csr (jT J J ?_));intro b1;refine lax J J (csr (lax J J (zG (csr (lax J J (zQ (qT (G:=Nat) (fun k=>k<=n) (fun k=>n-k) (fun k=>[(1,pt b1),(3,.int .i64 ((cdM m k:Nat):Int)),(4,.int .i64 (k:Int))]) (fun k=>[.blk b1 (.cells #[.slice sA n sc,.slice wA n wc] 112 (0,0))]) 0 (Nat.zero_le _) sbn sbl ?_)))))));intro k hk;(try dsimp only at hk ⊢);refine zG (csr (zA J J (zI J J F.fi112_0 F.ti23 (zS J J F.one23 (jR J J U23 (zE J J J jY ?_))))))
 refine lnx (zK J (fun hc0=>?_) (fun hc0=>?_))
 ·have hk':k<n:=om;have h9:cdM m k<1000:=Nat.lt_of_lt_of_le (zC0 hm k) (Nat.pow_le_pow_right om (show k<=3 by omega));have h7:=mok4 hm k;obtain⟨bs,so,hsA,hbs,hcs⟩:=hx.s (by rw[zIa];omega);obtain⟨bw,wo,hwA,hbw,hcw⟩:=hx.w (by rw[zIh];omega);refine zO (zD (zG (zQ (csr (zA J J (zE (v:=.int .i64 ((cdM m k*10:Nat):Int)) J J J (fun w=>zDq w (by rw[kC _ om om];omega)) (zI J J F.fi112_0 F.ti23 (zS J J F.one23 (zA J J (jO (j:=k) J (show _=some (Value.slice (some ⟨bs,so,none⟩) n sc) from by rw[<-hsA];rfl) J Tryz.underlying23 F.ti3 J hk' (jM (v:=.int .i64 ((m.s.getD k 0:Nat):Int)) J J F.one3 (fun a w ha=>ha.old (hcs k _ (zQg hk') 0 _ J) hbs) (zE (v:=.int .i64 ((2*m.s.getD k 0:Nat):Int)) J J J (fun w=>zDq w (by rw[kC _ om om];omega)) (zE (v:=.int .i64 ((cdM m k*10+2*m.s.getD k 0:Nat):Int)) J J J bdP (lax J J (csr (zI J J F.fi112_1 F.ti107 (zS J J F.one107 (zA J J (jO (j:=k) J (show _=some (Value.slice (some ⟨bw,wo,none⟩) n wc) from by rw[<-hwA];rfl) J Tryz.underlying107 F.ti4 J hk' (jM (v:=.bool (m.w.testBit k)) J J F.one4 (fun a w ha=>ha.old (hcw k _ (zPu hk') 0 _ J) hbw) ?_))))))))))))))))))))
  refine lnx (kH J (fun hc1=>?_) (fun hc1=>?_))
  ·refine zL (zA J J (zE (v:=.int .i64 ((cdM m (k+1):Nat):Int)) J J J (fun w=>zAw w (by rw[kC _ om om];rw[jFt hc1];omega)) (zF J J (zB (zJ (zD (zL (zA J J (zE J J J bdO (zF J J (zB (kV (k+1) om tdo sbn sbl))))))))))))
  ·refine zO (zJ (zD (zL (zA J J (zE J J J bdO (zF J J (zB (kV (k+1) om tdo (by repeat (first|exact Sub.nil _|refine Sub.cons J ?_|refine Sub.cons (by rw[jF8 hc1];rfl) ?_)) sbl))))))))
 ·obtain rfl:k=n:=om;exact jV (zN (zN (zY (zD (csr (zA J J (lax J J (zV (zX J (rsO J J) (fun a w ha=>⟨rfl,ha.grown nsl⟩))))))))))

end
section
theorem zO0 (p:Nat->Bool) (i:Nat):∀k,((List.range k).foldl (fun w j=>if p j then wWith w j else w) 0).testBit i=true↔i<k∧p i=true
 | 0=>by simp
 | k+1=>by
  rw[List.range_succ,List.foldl_append];simp only[List.foldl_cons,List.foldl_nil];have ih:=zO0 p i k
  by_cases hp:p k=true
  ·rw[if_pos hp];rw[show ∀w,wWith w k=w ||| 2^k from fun _=>rfl,Nat.testBit_or,Bool.or_eq_true,ih,Nat.testBit_two_pow]
   constructor
   ·rintro (⟨h1,h2⟩|h)
    ·exact⟨by omega,h2⟩
    ·obtain rfl:k=i:=by simpa using h
     exact⟨by omega,hp⟩
   ·rintro⟨h1,h2⟩
    by_cases e:k=i
    ·exact .inr (by simp[e])
    ·exact .inl ⟨by omega,h2⟩
  ·rw[if_neg hp,ih]
   constructor
   ·rintro⟨h1,h2⟩;exact⟨by omega,h2⟩
   ·rintro⟨h1,h2⟩;refine⟨?_,h2⟩
    rcases Nat.lt_or_ge i k with h|h
    ·exact h
    ·obtain rfl:i=k:=om;exact absurd h2 hp
theorem zWk {fs:List Flt} {i:Nat}:(start fs).w.testBit i=true↔i<fs.length∧(fs.getD i default).washed=true:=zO0 (fun j=>(fs.getD j default).washed) i fs.length
theorem zXj (fs:List Flt) (i:Nat):(start fs).s.getD i 0=(fs.getD i default).now:=by
 unfold start startN;dsimp only;rw[List.take_length,List.getD_eq_getElem?_getD,List.getElem?_append,List.length_map,List.getD_eq_getElem?_getD]
 split
 ·rename_i h;rw[List.getElem?_map,List.getElem?_eq_getElem h]
  rfl
 ·rename_i h;rw[List.getElem?_eq_none (l:=fs) om]
  cases e:(List.replicate (3-fs.length) 0)[i-fs.length]? with
  | none=>rfl
  | some v =>
   have:=List.mem_of_getElem? e;rw[List.mem_replicate] at this;exact this.2
variable {fs:List Flt} {k:Nat} {x:Flt}
theorem zHj (hx:fs[k]?=some x):(start fs).s.getD k 0=x.now:=by
 rw[zXj,List.getD_eq_getElem?_getD,hx]
 rfl
theorem zHl (hx:fs[k]?=some x):(start fs).w.testBit k=x.washed:=by
 have hk:k<fs.length:=(List.getElem?_eq_some_iff.1 hx).1;rw[Bool.eq_iff_iff,zWk,List.getD_eq_getElem?_getD,hx];exact⟨fun h=>h.2,fun h=>⟨hk,h⟩⟩
theorem wJ (n:Nat) (m:Mor):ints (sts (n+1) m)=ints (sts n m)++[.int .i64 ((m.s.getD n 0:Nat):Int)]:=by unfold ints;rw[zZ4,List.map_append];rfl
theorem wF (n:Nat) (m:Mor):bools (wbs (n+1) m)=bools (wbs n m)++[.bool (m.w.testBit n)]:=by rw[zYn,zT8]
end
section
variable [I:Sys]
theorem F.agg112:aggB TP 112=true:=by unfold aggB;rw[Tryz.underlying112]
theorem F.ti112:TI TP 112 (.agg #[.slice none 0 0,.slice none 0 0]) 2 48:=TI.of kr
theorem zX9 {fA dA:Option Addr} {fc nd dc kiln:Nat} {fs:List Flt} (h3:fs.length<=3) (w:World) (hA:RdL Flt.cells 4 w fA fs):Calls TP 101 #[(CG fA fs.length fc kiln dA nd dc)] w fun e w'=>∃sA sc wA wc,e=.returned (.agg (mmc fs.length ((sA,sc),(wA,wc),start fs)).toArray)∧Grew w w' (mmr fs.length ((sA,sc),(wA,wc),start fs)):=by
 refine enter (N:=35) [(0,(CG fA fs.length fc kiln dA nd dc))] Tryz.func101 J Tryz.ntmps101 J J (csr (jT J J ?_));intro b1;refine zW J F.ti112 ?_;intro b2;refine lnx (csr (zW J F.ti112 ?_));intro b3;refine lnx (zG (csr (lax J J (zQ (wK 3 1 (wK 4 1 (qU (G:=(Option Addr×Nat)×(Option Addr×Nat)×Nat) (fun g=>g.2.2<=fs.length) (fun g=>fs.length-g.2.2) (fun g=>[(1,pt b1),(2,pt b2),(3,pt b3),(4,.int .i64 (g.2.2:Int))]) (fun g=>[.row 3 1 g.1.1 g.2.2 g.1.2 (ints (sts g.2.2 (start fs))),.row 4 1 g.2.1.1 g.2.2 g.2.1.2 (bools (wbs g.2.2 (start fs))),.blk b3 (.cells #[.slice g.1.1 g.2.2 g.1.2,.slice g.2.1.1 g.2.2 g.2.1.2] 112 (0,0)),.blk b2 (.cells #[.slice none 0 0,.slice none 0 0] 112 (0,0)),.blk b1 (CO fA fs.length fc kiln dA nd dc 25)]) ((none,0),(none,0),0) (Nat.zero_le _) sbn pkk ?_)))))));rintro⟨⟨sA,sc⟩,⟨wA,wc⟩,k⟩ hk;dsimp only at hk ⊢;refine zG (csr (zA J J (zI J J F.fi25_0 F.ti22 (zS J J F.one22 (jR J J U22 (zE J J J jY ?_))))))
 refine lnx (zK J (fun hc0=>?_) (fun hc0=>?_))
 ·have hk':k<fs.length:=om;obtain⟨bf,bo,hfA,hbf,hcf⟩:=hA om;obtain⟨x,hx⟩:∃x,fs[k]?=some x:=⟨_,List.getElem?_eq_getElem hk'⟩;have hx1:=zHj hx;have hx2:=zHl hx
  refine zO (zD (zG (zQ (qF (G:=(Option Addr×Nat)×(Option Addr×Nat)×Unit) (fun _=>True) (fun g=>[(1,pt b1),(2,pt b2),(3,pt b3),(4,.int .i64 (k:Int))]) (fun g=>[.row 3 1 g.1.1 (k+1) g.1.2 (ints (sts (k+1) (start fs))),.row 4 1 g.2.1.1 (k+1) g.2.1.2 (bools (wbs (k+1) (start fs))),.blk b3 (.cells #[.slice g.1.1 (k+1) g.1.2,.slice g.2.1.1 (k+1) g.2.1.2] 112 (0,0)),.blk b2 (.cells #[.slice none 0 0,.slice none 0 0] 112 (0,0)),.blk b1 (CO fA fs.length fc kiln dA nd dc 25)]) ?_ ?_))))
  ·refine zJt 21 ([.blk b3 (.cells #[.slice sA k sc,.slice wA k wc] 112 (0,0)),.blk b1 (CO fA fs.length fc kiln dA nd dc 25)]) ([]) F.follows 24 J (fl 24) J (qB 0 [0,21] J J J (zP J F.fi112_0 F.ti23) (qB 1 [1,21] J J J (jJ J F.one23) (qB 2 [2,21] J J J (zP J F.fi25_0 F.ti22) (qB 3 [3,21] J J J (jJ J F.one22) (qB 4 [4,21] J J J (kF J) (qB 5 [5,21] J J J (jG (j:=k) (show _=some (Value.slice (some ⟨bf,bo,none⟩) fs.length fc) from by rw[<-hfA];rfl) J Tryz.underlying22 F.ti27 J hk') (qB 6 [6,21] J J J (xG J F.fi27_2 F.ti3) (qB 7 [7,21] J J J (jC (v:=.int .i64 (x.now:Int)) J F.one3 (fun a w ha=>ha.old (hcf k x hx 2 _ J) hbf)) (qB 10 [10,21] J J J (zP J F.fi112_1 F.ti107) (qB 11 [11,21] J J J (jJ J F.one107) (qB 12 [12,13,15,16,17,18,19,21] J J J (zP J F.fi25_0 F.ti22) (qB 13 [13,15,16,17,18,19,21] J J J (jJ J F.one22) (qB 14 [14,15,16,17,18,19,21] J J J (kF J) (qB 15 [15,16,17,18,19,21] J J J (jG (j:=k) (show _=some (Value.slice (some ⟨bf,bo,none⟩) fs.length fc) from by rw[<-hfA];rfl) J Tryz.underlying22 F.ti27 J hk') (qB 16 [16,17,18,19,21] J J J (xG J F.fi27_3 F.ti4) (qB 17 [17,18,19,21] J J J (jC (v:=.bool x.washed) J F.one4 (fun a w ha=>ha.old (hcf k x hx 3 _ J) hbf)) ?_))))))))))))))))
   refine kP [8,18] ⟨⟨_,rfl,?_⟩,⟨_,rfl,?_⟩,trivial⟩
   ·refine kB (vs:=[(0,_)]) J J U23 F.ti3 J J J ?_;intro b20;refine zB (qL ?_)
    refine kP [9,18] ⟨⟨_,rfl,?_⟩,⟨_,rfl,?_⟩,trivial⟩
    ·refine kI J J J Tryz.underlying23 F.ti3 J J J (by unfold maxLen;omega) om ?_;intro A9 c9;refine zB (qL (qB 20 [20,21] J J J (zP J F.fi112_0 F.ti23) (kP [18] ⟨⟨_,rfl,?_⟩,trivial⟩)));refine kB (vs:=[(0,_)]) J J U107 F.ti4 J J J ?_;intro b30;refine zB (qL (kP [19] ⟨⟨_,rfl,?_⟩,trivial⟩));refine kI J J J Tryz.underlying107 F.ti4 J J J (by unfold maxLen;omega) om ?_;intro A10 c10;refine zB (qL (kP [21] ⟨⟨_,rfl,?_⟩,trivial⟩));refine zH J J F.ti23 J (zB (xL (kP [22] ⟨⟨_,rfl,?_⟩,trivial⟩)));refine zI J J F.fi112_1 F.ti107 (zB (xL (kP [23] ⟨⟨_,rfl,?_⟩,trivial⟩)));refine zH J J F.ti107 J (zB (xL (zBn J kr (jK ((_,_),(_,_),()) trivial sbn (by dsimp only;rw[wJ,wF,hx1,hx2];exact pkk)))))
    ·refine kB (vs:=[(0,_)]) J J U107 F.ti4 J J J ?_;intro b30;refine zB (qL (kP [9] ⟨⟨_,rfl,?_⟩,trivial⟩));refine kI J J J Tryz.underlying23 F.ti3 J J J (by unfold maxLen;omega) om ?_;intro A9 c9;refine zB (qL (qB 20 [20,21] J J J (zP J F.fi112_0 F.ti23) (kP [19] ⟨⟨_,rfl,?_⟩,trivial⟩)));refine kI J J J Tryz.underlying107 F.ti4 J J J (by unfold maxLen;omega) om ?_;intro A10 c10;refine zB (qL (kP [21] ⟨⟨_,rfl,?_⟩,trivial⟩));refine zH J J F.ti23 J (zB (xL (kP [22] ⟨⟨_,rfl,?_⟩,trivial⟩)));refine zI J J F.fi112_1 F.ti107 (zB (xL (kP [23] ⟨⟨_,rfl,?_⟩,trivial⟩)));refine zH J J F.ti107 J (zB (xL (zBn J kr (jK ((_,_),(_,_),()) trivial sbn (by dsimp only;rw[wJ,wF,hx1,hx2];exact pkk)))))
   ·refine kB (vs:=[(0,_)]) J J U107 F.ti4 J J J ?_;intro b30;refine zB (qL (kP [8] ⟨⟨_,rfl,?_⟩,trivial⟩));refine kB (vs:=[(0,_)]) J J U23 F.ti3 J J J ?_;intro b20;refine zB (qL (kP [9] ⟨⟨_,rfl,?_⟩,trivial⟩));refine kI J J J Tryz.underlying23 F.ti3 J J J (by unfold maxLen;omega) om ?_;intro A9 c9;refine zB (qL (qB 20 [20,21] J J J (zP J F.fi112_0 F.ti23) (kP [19] ⟨⟨_,rfl,?_⟩,trivial⟩)));refine kI J J J Tryz.underlying107 F.ti4 J J J (by unfold maxLen;omega) om ?_;intro A10 c10;refine zB (qL (kP [21] ⟨⟨_,rfl,?_⟩,trivial⟩));refine zH J J F.ti23 J (zB (xL (kP [22] ⟨⟨_,rfl,?_⟩,trivial⟩)));refine zI J J F.fi112_1 F.ti107 (zB (xL (kP [23] ⟨⟨_,rfl,?_⟩,trivial⟩)));refine zH J J F.ti107 J (zB (xL (zBn J kr (jK ((_,_),(_,_),()) trivial sbn (by dsimp only;rw[wJ,wF,hx1,hx2];exact pkk)))))
  ·rintro⟨⟨sA2,sc2⟩,⟨wA2,wc2⟩,⟨⟩⟩ -;dsimp only;refine zJ (zD (zL (zA J J (zE J J J bdO (zF J J (zB (kS ((sA2,sc2),(wA2,wc2),k+1) tdo tdo sbn pkk)))))))
 ·obtain rfl:k=fs.length:=om;exact jV (zN (zN (zY (zD (csr (zZ J J F.agg112 F.ti112 (zH J J F.ti112 J (lnx (zV (zX J (fun a w ha=>by exact xC (ha:=ha) J J F.agg112 F.ti112 J) (fun a w ha=>⟨sA,sc,wA,wc,rfl,ha.grown (.cons_cons _ (.cons_cons _ nsl))⟩)))))))))))

end
section
variable {fs:List Flt} {j:Nat} {m:Mor}
def wsh (i:Nat) (b:Bool) (l:List Nat):Bool:=(b||l.getD i 0==2)&&l.getD i 0 != 3
theorem jAv {a:Nat×Mor} {i kind:Nat} (hi:i<3) (hj:j<3):(dStep fs m a i kind).2.w.testBit j=if i=j then ((a.2.w.testBit j||kind==2)&&kind != 3) else a.2.w.testBit j:=by
 unfold dStep;dsimp only
 split
 ·rename_i h;subst h;simp
 ·split
  ·rename_i h;subst h;dsimp only;unfold wWith;rw[Nat.testBit_or,Nat.testBit_two_pow];by_cases e:i=j<;>simp[e]
  ·split
   ·rename_i h;subst h;dsimp only;unfold wOut;rw[Nat.testBit_and];have h7:∀i:Fin 3,∀j:Fin 3,(7-2^i.1).testBit j.1=decide (i.1≠j.1):=by decide
    rw[h7 ⟨i,hi⟩ ⟨j,hj⟩];by_cases e:i=j<;>simp[e]
   ·rename_i h1 h2 h3;dsimp only;have e2:(kind==2)=false:=by simpa using h2
    have e3:(kind != 3)=true:=by simpa using h3
    rw[e2,e3];simp
theorem zG8 {acts:List Nat} {s:Nat} (hj:j<3):∀k,k<=3->(dRun fs m acts s k).2.w.testBit j=if j<k then wsh j (m.w.testBit j) acts else m.w.testBit j
 | 0,_=>by simp[dRun]
 | k+1,hk=>by
  rw[zAa,jAv om hj,zG8 hj k om]
  by_cases e:k=j
  ·subst e;rw[if_pos J,if_neg (Nat.lt_irrefl _),if_pos (Nat.lt_succ_self _)]
   rfl
  ·rw[if_neg e]
   by_cases h:j<k
   ·rw[if_pos h,if_pos om]
   ·rw[if_neg h,if_neg om]
def zl (l:List Nat):List Int:=l.map fun (n:Nat)=>(n:Int)
theorem zVa (l:List Nat):(zl l).length=l.length:=List.length_map ..
end
end Go.Proofs.YteppiphdbondeaaGreat.N
namespace Go.Proofs.YteppiphdbondeaaGreat.N
open Go Go.RowKit Go.Proofs
set_option linter.unusedSectionVars false
theorem zK1 {l:List Nat} {k v:Nat} (h:k<l.length):(l.set k v).getD k 0=v:=by
 rw[List.getD_eq_getElem?_getD,List.getElem?_set_self h]
 rfl
theorem zH6 {l:List Nat} {i k v:Nat} (h:i≠k):(l.set k v).getD i 0=l.getD i 0:=by
 rw[List.getD_eq_getElem?_getD,List.getElem?_set_ne (Ne.symm h),List.getD_eq_getElem?_getD]
section
variable {fs:List Flt} {m:Mor} {acts:List Nat} {s k x:Nat} {f:Flt}
theorem jCi (h3:k<(dRun fs m acts s k).2.s.length) (hx:acts[k]?=some x) (hf:fs[k]?=some f) :
  (dRun fs m acts s (k+1)).2.s.getD k 0=if x=0 then m.s.getD k 0-min (dRun fs m acts s k).1 (m.s.getD k 0) else if x=2 then min f.power (m.s.getD k 0+f.gain) else if x=3 then f.power else m.s.getD k 0:=by
 have e:acts.getD k 0=x:=by rw[List.getD_eq_getElem?_getD,hx];rfl
 have e2:fs.getD k default=f:=by rw[List.getD_eq_getElem?_getD,hf];rfl
 rw[zAa,e];unfold dStep;rw[e2];dsimp only
 split
 ·exact zK1 h3
 ·split
  ·exact zK1 h3
  ·split
   ·exact zK1 h3
   ·exact zK1 h3
theorem zZ6 (hx:acts[k]?=some x):(dRun fs m acts s (k+1)).1=if x=0 then (dRun fs m acts s k).1-min (dRun fs m acts s k).1 (m.s.getD k 0) else (dRun fs m acts s k).1:=by
 have e:acts.getD k 0=x:=by rw[List.getD_eq_getElem?_getD,hx];rfl
 rw[zAa,e];unfold dStep;dsimp only
 split
 ·rfl
 ·split
  ·rfl
  ·split<;>rfl
theorem zLt:sts k (dRun fs m acts s (k+1)).2=sts k (dRun fs m acts s k).2:=by
 unfold sts;refine List.map_congr_left fun i hi=>?_;have hi:=List.mem_range.1 hi;rw[zAa];unfold dStep;dsimp only
 split
 ·exact zH6 om
 ·split
  ·exact zH6 om
  ·split
   ·exact zH6 om
   ·exact zH6 om
theorem jA0 (hk:k<3) (hx:acts[k]?=some x):(dRun fs m acts s (k+1)).2.w.testBit k=((m.w.testBit k||x==2)&&x != 3):=by
 have e:acts.getD k 0=x:=by rw[List.getD_eq_getElem?_getD,hx];rfl
 rw[zG8 hk (k+1) om,if_pos om];unfold wsh;rw[e]
theorem zLa (hk:k<3):wbs k (dRun fs m acts s (k+1)).2=wbs k (dRun fs m acts s k).2:=by
 unfold wbs;refine List.map_congr_left fun i hi=>?_;have hi:=List.mem_range.1 hi;rw[zG8 om (k+1) om,zG8 om k om,if_pos om,if_pos hi]
end
end Go.Proofs.YteppiphdbondeaaGreat.N
namespace Go.Proofs.YteppiphdbondeaaGreat.N
open Go Go.RowKit Go.Proofs
def StpR (D:Nat×Mor) (n:Nat) (w:World) (e:Ending) (w':World):Prop :=
 (D.1=0∧∃sA sc wA wc,e=.returned (.tuple #[.agg (mmc n ((sA,sc),(wA,wc),D.2)).toArray,.int .i64 0])∧Grew w w' (mmr n ((sA,sc),(wA,wc),D.2))) ∨
 (D.1≠0∧e=.returned (.tuple #[.agg #[.slice none 0 0,.slice none 0 0],.int .i64 (D.1:Int)])∧Grew w w' [])
end Go.Proofs.YteppiphdbondeaaGreat.N
namespace Go.Proofs.YteppiphdbondeaaGreat.N
set_option linter.unusedSectionVars false
open Go.RowKit
section
variable [I:Sys]
theorem F.pl112:Places TP 112 [(0,1),(1,1)]:=.inl ⟨_,Tryz.underlying112,by kernel_rfl⟩
theorem yB {fA dA mA vA jA:Option Addr} {fc nd dc kiln mc vc jc sugar:Nat} {fs:List Flt} {m:Mor} {acts:List Nat} (h3:fs.length<=3) (hf:∀f∈fs,FltOk f) (hm:MOk m) (hl:acts.length=fs.length) (hs:sugar<=1000) (w:World) (hA:RdL Flt.cells 4 w fA fs) (hM:RdMM fs.length w ((mA,mc),(vA,vc),m)) (hJ:RdL ncell 1 w jA acts):Calls TP 77 #[(CG fA fs.length fc kiln dA nd dc),.int .i64 ((sugar:Nat):Int),.agg #[.slice mA fs.length mc,.slice vA fs.length vc],.slice jA acts.length jc] w fun e w'=>StpR (dayE fs kiln m acts sugar) fs.length w e w':=by
 refine enter (N:=91) [(0,(CG fA fs.length fc kiln dA nd dc)),(1,.int .i64 ((sugar:Nat):Int)),(2,.agg #[.slice mA fs.length mc,.slice vA fs.length vc]),(3,.slice jA acts.length jc)] Tryz.func77 J Tryz.ntmps77 J J (csr (jT J J ?_));intro b4;refine jT J J ?_;intro b6;refine zW J F.ti112 ?_;intro b8;refine lax J J (csr (zW J F.ti112 ?_));intro b10;refine lnx (csr (lax J J (zG (csr (lax J J (zQ (wK 3 1 (wK 4 1 (qU (G:=(Option Addr×Nat)×(Option Addr×Nat)×Nat) (fun g=>g.2.2<=acts.length∧barred m acts g.2.2=false) (fun g=>acts.length-g.2.2) (fun g=>[(1,.int .i64 (((dRun fs m acts sugar g.2.2).1:Nat):Int)),(3,.slice jA acts.length jc),(4,pt b4),(6,pt b6),(8,pt b8),(9,.int .i64 0),(10,pt b10),(11,.int .i64 ((firesN acts g.2.2:Nat):Int)),(12,.int .i64 (g.2.2:Int))]) (fun g=>[.row 3 1 g.1.1 g.2.2 g.1.2 (ints (sts g.2.2 (dRun fs m acts sugar g.2.2).2)),.row 4 1 g.2.1.1 g.2.2 g.2.1.2 (bools (wbs g.2.2 (dRun fs m acts sugar g.2.2).2)),.blk b10 (.cells #[.slice g.1.1 g.2.2 g.1.2,.slice g.2.1.1 g.2.2 g.2.1.2] 112 (0,0)),.blk b8 (.cells #[.slice none 0 0,.slice none 0 0] 112 (0,0)),.blk b6 (.cells #[.slice mA fs.length mc,.slice vA fs.length vc] 112 (0,0)),.blk b4 (CO fA fs.length fc kiln dA nd dc 25)]) ((none,0),(none,0),0) ⟨Nat.zero_le _,rfl⟩ sbn pkk ?_)))))))));rintro⟨⟨sA,sc⟩,⟨wA,wc⟩,k⟩ hk;dsimp only at hk ⊢;refine zG (csr (zA J J (zA J J (jR J J U23 (zE J J J jY ?_)))))
 refine lnx (zK J (fun hc0=>?_) (fun hc0=>?_))
 ·obtain⟨hk,hbar⟩:=hk;have hk':k<acts.length:=om;have hkf:k<fs.length:=om;obtain⟨bf,bo,hfA,hbf,hcf⟩:=hA om;obtain⟨f,hfx⟩:∃f,fs[k]?=some f:=⟨_,List.getElem?_eq_getElem hkf⟩;obtain⟨bj,jo,hjA,hbj,hcj⟩:=hJ om;obtain⟨x,hx⟩:∃x,acts[k]?=some x:=⟨_,List.getElem?_eq_getElem hk'⟩;obtain⟨bs,so,hsA,hbs,hcs⟩:=hM.s (by rw[zIa];omega);obtain⟨bw,wo,hwA,hbw,hcw⟩:=hM.w (by rw[zIh];omega);obtain⟨hok,hsle⟩:=zH7 (acts:=acts) (sugar:=sugar) hf hm k om om;have h4:=mok4 hm k;obtain⟨hf1,hf2,hf3,hf4⟩:=hf f (List.mem_of_getElem? hfx);have e1:=zZ6 (fs:=fs) (m:=m) (s:=sugar) hx;have e2:=jCi (s:=sugar) (m:=m) (by rw[hok.three];omega) hx hfx;have e3:=jA0 (fs:=fs) (m:=m) (s:=sugar) om hx;have e4:=zKq hx;have hfl:=zN5 acts k;refine zO (zD (zG (zQ (zG (jS [] F.follows 19 J (fl 19) J (zC 0 J J J (zP J F.fi25_0 F.ti22) (zC 1 J J J (jJ J F.one22) (anm 2 J J J (zC 3 J J J (jG (j:=k) (show _=some (Value.slice (some ⟨bf,bo,none⟩) fs.length fc) from by rw[<-hfA];rfl) J Tryz.underlying22 F.ti27 J hkf) (zC 4 J J J (qW (l:=[.int .i64 (f.power:Int),.int .i64 (f.gain:Int),.int .i64 (f.now:Int),.bool f.washed]) J F.agg27 F.ti27 J (fun a w ha j u hu=>ha.old (hcf k f hfx j u hu) hbf)) (zC 5 J J J (zP J F.fi112_0 F.ti23) (zC 6 J J J (jJ J F.one23) (anm 7 J J J (zC 8 J J J (jG (j:=k) (show _=some (Value.slice (some ⟨bs,so,none⟩) fs.length mc) from by rw[<-hsA];rfl) J Tryz.underlying23 F.ti3 J hkf) (zC 9 J J J (jC (v:=.int .i64 ((m.s.getD k 0:Nat):Int)) J F.one3 (fun a w ha=>ha.old (hcs k _ (zQg hkf) 0 _ J) hbs)) (zC 10 J J J (zP J F.fi112_1 F.ti107) (zC 11 J J J (jJ J F.one107) (anm 12 J J J (zC 13 J J J (jG (j:=k) (show _=some (Value.slice (some ⟨bw,wo,none⟩) fs.length vc) from by rw[<-hwA];rfl) J Tryz.underlying107 F.ti4 J hkf) (zC 14 J J J (jC (v:=.bool (m.w.testBit k)) J F.one4 (fun a w ha=>ha.old (hcw k _ (zPu hkf) 0 _ J) hbw)) (an1 15 J (zW J F.ti27 ?_))))))))))))))))))))));intro b13;refine zB (anb (an1 16 J (zH J J F.ti27 J (zB (anb (zC 17 J J J (jP J) (zC 18 J J J (jP J) (adn (zD (zG (csr (zA J J (zA J J (jO (j:=k) J (show _=some (Value.slice (some ⟨bj,jo,none⟩) acts.length jc) from by rw[<-hjA];rfl) J Tryz.underlying23 F.ti3 J hk' (jM (v:=.int .i64 (x:Int)) J J F.one3 (fun a w ha=>ha.old (hcj k x hx 0 _ J) hbj) (lnx (zQ (csr (zE J J J kD ?_)))))))))))))))))))
  refine lax J J (qF (G:=Unit) (fun _=>barred m acts (k+1)=false) (fun _=>[(1,.int .i64 (((dRun fs m acts sugar (k+1)).1:Nat):Int)),(3,.slice jA acts.length jc),(4,pt b4),(6,pt b6),(8,pt b8),(9,.int .i64 0),(10,pt b10),(11,.int .i64 ((firesN acts (k+1):Nat):Int)),(12,.int .i64 (k:Int)),(14,.int .i64 (((dRun fs m acts sugar (k+1)).2.s.getD k 0:Nat):Int)),(15,.bool ((dRun fs m acts sugar (k+1)).2.w.testBit k))]) (fun _=>[.row 3 1 sA k sc (ints (sts k (dRun fs m acts sugar k).2)),.row 4 1 wA k wc (bools (wbs k (dRun fs m acts sugar k).2)),.blk b10 (.cells #[.slice sA k sc,.slice wA k wc] 112 (0,0)),.blk b8 (.cells #[.slice none 0 0,.slice none 0 0] 112 (0,0)),.blk b6 (.cells #[.slice mA fs.length mc,.slice vA fs.length vc] 112 (0,0)),.blk b4 (CO fA fs.length fc kiln dA nd dc 25)]) ?_ ?_)
  ·refine zK J (fun hc1=>?_) (fun hc1=>?_)
   ·have h0:x=0:=om;rw[if_pos h0,Nat.min_comm] at e1 e2;have e3:(dRun fs m acts sugar (k+1)).2.w.testBit k=m.w.testBit k:=by rw[e3,h0];simp
    rw[if_neg om,Nat.add_zero] at e4;refine csr (zA J J (zA J J (zH1 J J J ?_)));rw[zL5];exact lax J J (csr (zA J J (zA J J (zE (v:=.int .i64 ((m.s.getD k 0-min (m.s.getD k 0) (dRun fs m acts sugar k).1:Nat):Int)) J J J (fun w=>qK w (by rw[kC _ om om];omega)) (lax J J (zL (zA J J (zA J J (zE (v:=.int .i64 (((dRun fs m acts sugar k).1-min (m.s.getD k 0) (dRun fs m acts sugar k).1:Nat):Int)) J J J (fun w=>qK w (by rw[kC _ om om];omega)) (zF J J (zB (jK () (zA7 hx hbar (by rw[decide_eq_false om];rfl)) (by rw[e1,e2,e3,e4];exact sbn) pkk))))))))))))
   ·rw[if_neg om] at e1 e2;refine csr (zE J J J kD ?_)
    refine lax J J (zK J (fun hc2=>?_) (fun hc2=>?_))
    ·have h0:x=2:=om;rw[if_pos h0] at e2;have e3:(dRun fs m acts sugar (k+1)).2.w.testBit k=true:=by rw[e3,h0];simp
     rw[if_neg om,Nat.add_zero] at e4
     refine zG (csr (zA J J (lnx (kH J (fun hc3=>?_) (fun hc3=>?_)))))
     ·exact csr (kM (vs:=[]) (l':=[_,_]) J J F.ti112 F.pl112 (.nil _) J (zH J J F.ti112 J (lax J J (zV (zU (zU (jW (zU (jW (zU (zU (jW (zU (zX J (fun a w ha=>by exact zBe (ha:=ha) J J J F.agg112 F.ti112 J) (fun a w ha=>.inr ⟨by rw[day12 (zG3 hx (by rw[h0,hc3];rfl))];simp,by rw[day12 (zG3 hx (by rw[h0,hc3];rfl))];rfl,ha.grown nsl⟩)))))))))))))))
     ·refine zO (zD (csr (zI J J F.fi27_0 F.ti3 (zS J J F.one3 (zA J J (zI J J F.fi27_1 F.ti3 (zS J J F.one3 (zE (v:=.int .i64 ((m.s.getD k 0+f.gain:Nat):Int)) J J J bdP (zH1 J J J ?_)))))))));rw[zL5];exact lax J J (zL (zF J J (zB (jK () (zA7 hx hbar (by rw[hc3,Bool.and_false])) (by rw[e1,e2,e3,e4];exact sbn) pkk))))
    ·rw[if_neg om] at e2;refine csr (zE J J J kD ?_)
     refine lax J J (zK J (fun hc4=>?_) (fun hc4=>?_))
     ·have h0:x=3:=om;rw[if_pos h0] at e2;have e3:(dRun fs m acts sugar (k+1)).2.w.testBit k=false:=by rw[e3,h0];simp
      rw[if_pos om] at e4;exact csr (zI J J F.fi27_0 F.ti3 (zS J J F.one3 (lax J J (csr (lax J J (zL (zA J J (zE (v:=.int .i64 ((firesN acts k+1:Nat):Int)) J J J bdP (zF J J (zB (jK () (zA7 hx hbar (by rw[decide_eq_false om];rfl)) (by rw[e1,e2,e3,e4];exact sbn) pkk)))))))))))
     ·rw[if_neg om] at e2;have e3:(dRun fs m acts sugar (k+1)).2.w.testBit k=m.w.testBit k:=by rw[e3,beq_false_of_ne om,bne_iff_ne.2 om,Bool.or_false,Bool.and_true]
      rw[if_neg om,Nat.add_zero] at e4;exact zO (jK () (zA7 hx hbar (by rw[decide_eq_false om];rfl)) (by rw[e1,e2,e3,e4];exact sbn) pkk)
  ·rintro⟨⟩ hbk;(try dsimp only)
   refine zJ (zD (qF (G:=(Option Addr×Nat)×(Option Addr×Nat)×Unit) (fun _=>True) (fun g=>[(1,.int .i64 (((dRun fs m acts sugar (k+1)).1:Nat):Int)),(3,.slice jA acts.length jc),(4,pt b4),(6,pt b6),(8,pt b8),(9,.int .i64 0),(10,pt b10),(11,.int .i64 ((firesN acts (k+1):Nat):Int)),(12,.int .i64 (k:Int))]) (fun g=>[.row 3 1 g.1.1 (k+1) g.1.2 (ints (sts (k+1) (dRun fs m acts sugar (k+1)).2)),.row 4 1 g.2.1.1 (k+1) g.2.1.2 (bools (wbs (k+1) (dRun fs m acts sugar (k+1)).2)),.blk b10 (.cells #[.slice g.1.1 (k+1) g.1.2,.slice g.2.1.1 (k+1) g.2.1.2] 112 (0,0)),.blk b8 (.cells #[.slice none 0 0,.slice none 0 0] 112 (0,0)),.blk b6 (.cells #[.slice mA fs.length mc,.slice vA fs.length vc] 112 (0,0)),.blk b4 (CO fA fs.length fc kiln dA nd dc 25)]) ?_ ?_))
   ·refine zJt 11 ([.blk b10 (.cells #[.slice sA k sc,.slice wA k wc] 112 (0,0))]) ([]) F.follows 14 J (fl 14) J (qB 0 [0,11] J J J (zP J F.fi112_0 F.ti23) (qB 1 [1,11] J J J (jJ J F.one23) (qB 2 [2,11] J J J (kF J) (qB 5 [5,11] J J J (zP J F.fi112_1 F.ti107) (qB 6 [6,11] J J J (jJ J F.one107) (qB 7 [7,8,9,11] J J J (kF J) ?_))))))
    refine kP [3,8] ⟨⟨_,rfl,?_⟩,⟨_,rfl,?_⟩,trivial⟩
    ·refine kB (vs:=[(0,_)]) J J U23 F.ti3 J J J ?_;intro b73;refine zB (qL ?_)
     refine kP [4,8] ⟨⟨_,rfl,?_⟩,⟨_,rfl,?_⟩,trivial⟩
     ·refine kI J J J Tryz.underlying23 F.ti3 J J J (by unfold maxLen;omega) om ?_;intro A9 c9;refine zB (qL (qB 10 [10,11] J J J (zP J F.fi112_0 F.ti23) (kP [8] ⟨⟨_,rfl,?_⟩,trivial⟩)));refine kB (vs:=[(0,_)]) J J U107 F.ti4 J J J ?_;intro b78;refine zB (qL (kP [9] ⟨⟨_,rfl,?_⟩,trivial⟩));refine kI J J J Tryz.underlying107 F.ti4 J J J (by unfold maxLen;omega) om ?_;intro A10 c10;refine zB (qL (kP [11] ⟨⟨_,rfl,?_⟩,trivial⟩));refine zH J J F.ti23 J (zB (xL (kP [12] ⟨⟨_,rfl,?_⟩,trivial⟩)));refine zI J J F.fi112_1 F.ti107 (zB (xL (kP [13] ⟨⟨_,rfl,?_⟩,trivial⟩)));refine zH J J F.ti107 J (zB (xL (zBn J kr (jK ((_,_),(_,_),()) trivial sbn (by dsimp only;rw[wJ,wF,zLt,zLa om];exact pkk)))))
     ·refine kB (vs:=[(0,_)]) J J U107 F.ti4 J J J ?_;intro b78;refine zB (qL (kP [4] ⟨⟨_,rfl,?_⟩,trivial⟩));refine kI J J J Tryz.underlying23 F.ti3 J J J (by unfold maxLen;omega) om ?_;intro A9 c9;refine zB (qL (qB 10 [10,11] J J J (zP J F.fi112_0 F.ti23) (kP [9] ⟨⟨_,rfl,?_⟩,trivial⟩)));refine kI J J J Tryz.underlying107 F.ti4 J J J (by unfold maxLen;omega) om ?_;intro A10 c10;refine zB (qL (kP [11] ⟨⟨_,rfl,?_⟩,trivial⟩));refine zH J J F.ti23 J (zB (xL (kP [12] ⟨⟨_,rfl,?_⟩,trivial⟩)));refine zI J J F.fi112_1 F.ti107 (zB (xL (kP [13] ⟨⟨_,rfl,?_⟩,trivial⟩)));refine zH J J F.ti107 J (zB (xL (zBn J kr (jK ((_,_),(_,_),()) trivial sbn (by dsimp only;rw[wJ,wF,zLt,zLa om];exact pkk)))))
    ·refine kB (vs:=[(0,_)]) J J U107 F.ti4 J J J ?_;intro b78;refine zB (qL (kP [3] ⟨⟨_,rfl,?_⟩,trivial⟩));refine kB (vs:=[(0,_)]) J J U23 F.ti3 J J J ?_;intro b73;refine zB (qL (kP [4] ⟨⟨_,rfl,?_⟩,trivial⟩));refine kI J J J Tryz.underlying23 F.ti3 J J J (by unfold maxLen;omega) om ?_;intro A9 c9;refine zB (qL (qB 10 [10,11] J J J (zP J F.fi112_0 F.ti23) (kP [9] ⟨⟨_,rfl,?_⟩,trivial⟩)));refine kI J J J Tryz.underlying107 F.ti4 J J J (by unfold maxLen;omega) om ?_;intro A10 c10;refine zB (qL (kP [11] ⟨⟨_,rfl,?_⟩,trivial⟩));refine zH J J F.ti23 J (zB (xL (kP [12] ⟨⟨_,rfl,?_⟩,trivial⟩)));refine zI J J F.fi112_1 F.ti107 (zB (xL (kP [13] ⟨⟨_,rfl,?_⟩,trivial⟩)));refine zH J J F.ti107 J (zB (xL (zBn J kr (jK ((_,_),(_,_),()) trivial sbn (by dsimp only;rw[wJ,wF,zLt,zLa om];exact pkk)))))
   ·rintro⟨⟨sA2,sc2⟩,⟨wA2,wc2⟩,⟨⟩⟩ -;dsimp only;refine zJ (zD (zL (zA J J (zE J J J bdO (zF J J (zB (kS ((sA2,sc2),(wA2,wc2),k+1) ⟨by (try dsimp only);omega,hbk⟩ tdo sbn pkk)))))))
 ·obtain⟨hk,hbar⟩:=hk;obtain rfl:k=acts.length:=om;refine jV (zN (zN (zY (zD (zG (csr (zA J J (zI J J F.fi25_1 F.ti3 (zS J J F.one3 (zE J J J wM ?_))))))))))
  refine lnx (zK J (fun hc5=>?_) (fun hc5=>?_))
  ·exact csr (kM (vs:=[]) (l':=[_,_]) J J F.ti112 F.pl112 (.nil _) J (zH J J F.ti112 J (lax J J (zV (zU (zX J (fun a w ha=>by exact zBe (ha:=ha) J J J F.agg112 F.ti112 J) (fun a w ha=>.inr ⟨by rw[day6 hbar om];simp,by rw[day6 hbar om];rfl,ha.grown nsl⟩)))))))
  ·refine zO (zD (zG (csr (zA J J (zE J J J wM ?_)))))
   refine lnx (zK J (fun hc6=>?_) (fun hc6=>?_))
   ·exact csr (kM (vs:=[]) (l':=[_,_]) J J F.ti112 F.pl112 (.nil _) J (zH J J F.ti112 J (lax J J (zV (zU (zX J (fun a w ha=>by exact zBe (ha:=ha) J J J F.agg112 F.ti112 J) (fun a w ha=>.inr ⟨by rw[day9 hbar om om];simp,by rw[day9 hbar om om];rfl,ha.grown nsl⟩)))))))
   ·exact zO (zD (csr (zZ J J F.agg112 F.ti112 (zH J J F.ti112 J (lax J J (zV (zX J (fun a w ha=>by exact zBe (ha:=ha) J J J F.agg112 F.ti112 J) (fun a w ha=>.inl ⟨by rw[day0 hbar om om],sA,sc,wA,wc,by rw[day0 hbar om om,<-hl];rfl,by rw[day0 hbar om om,<-hl];exact ha.grown (.cons_cons _ (.cons_cons _ nsl))⟩))))))))

end
section
def zmeta (m:Meta):MetaZ:=(m.1,m.2.1,zl m.2.2)
theorem zS1 (m:Meta):zmcell (zmeta m)=mcell m:=by
 unfold zmcell zmeta mcell;dsimp only;rw[zVa]
section
variable [I:Sys] {C:Ctx} {fr:LV} {hp hp':List Res} {a:Act} {w:World} {ops:Array Oper} {Q:QT}
theorem vL {l:List Oper} (p:hp.Perm hp') (h:Lst C ops Q l fr hp'):Lst C ops Q l fr hp:=fun a w ha=>h a w (ha.permed p)
theorem zTi {c:Code} (p:hp.Perm hp') (h:Cod C c Q fr hp'):Cod C c Q fr hp:=fun a w ha=>h a w (ha.permed p)
theorem jE2 {A:Option Addr} {l:List Nat} (h:RdL ncell 1 w A l):RdL zcell 1 w A (zl l):=fun hl=>by
 rw[zVa] at hl;obtain⟨b,o,h1,h2,h3⟩:=h hl;refine⟨b,o,h1,h2,fun k x hk j u hu=>?_⟩;unfold zl at hk;rw[List.getElem?_map] at hk;obtain⟨n,hn,rfl⟩:=Option.map_eq_some_iff.1 hk;exact h3 k n hn j u hu
theorem jEp (ha:At C fr hp a w) {A:Option Addr} {c:Nat} {mr:List Meta} (h1:Res.row 23 1 A mr.length c (mr.reverse.map mcell)∈hp) (h2:∀m∈mr,mrow m∈hp):RdZ w A (mr.reverse.map zmeta) where
 outer:=by
  refine kX ha (cells:=fun m=>[zmcell m]) (size:=1) (e:=23) (c:=c) (n:=mr.length) (fun _=>rfl) ?_ (by simp)
  rw[show (mr.reverse.map zmeta).flatMap (fun m=>[zmcell m])=mr.reverse.map mcell from ?_]
  ·exact h1
  ·rw[List.flatMap_map]
   induction mr.reverse with
   | nil=>rfl
   | cons m l ih=>rw[List.flatMap_cons,ih,List.map_cons,zS1];rfl
 inner:=fun m hm=>by
  obtain⟨x,hx,rfl⟩:=List.mem_map.1 hm;exact jE2 (zE9 ha (fun _=>rfl) (h2 x (List.mem_reverse.1 hx)))
theorem xM {mr:List Meta} {k:Nat} {m:Meta} (h:mr.reverse[k]?=some m):(mr.reverse.map mcell)[k]?=some (mcell m):=by rw[List.getElem?_map,h];rfl
end
variable {α:Type}
section
variable [I:Sys] {C:Ctx} {fr:LV} {hp hp':List Res} {ops:Array Oper} {Q:QT} {rest:List Oper} {d:Nat} {dst:Option Nat} {ty:TypeId} {pos:String} {after:Array Edge}
theorem zB6 {cells:α->List Value} {x y:Operand} {t e:TypeId} {A B:Option Addr} {n c m cb size bytes:Nat} {xs:List Value} {l:List α} {z:Value} {hp':Option Addr->Nat->List Res} (hd:Nat.blt d C.N=true)
  (hx:ev fr x=some (.slice A n c)) (hy:ev fr y=some (.slice B m cb)) (ht:C.P.underlying t=some (.slice e)) (hi:TI C.P e z size bytes) (hzs:z.cells.size=size) (hs0:Nat.blt 0 size=true) (hs:∀x,(cells x).length=size) (ho1:∀x,∀u∈cells x,u.oneCell'=true)
  (hnews:∀a w,At C fr hp a w->RdL cells size w B l) (hB:B=none->l=[]∧cb=0) (hl:l.length=m) [hr:InR A e size n c xs hp] [hu:∀A' c',UpR A e size n c xs (.row e size A' (n+m) c' (xs++l.flatMap cells)) hp (hp' A' c')]
  (h63:n+m<=maxLen) (hbytes:(n+m)*bytes<=140737488355328)
  (k:∀A' c',Lst C ops Q rest ((d,.slice A' (n+m) c')::fr) (hp' A' c')) :
  Lst C ops Q (⟨some d,.call {callee:=.builtin .append,args:=#[x,y],argTypes:=#[t,t]},ty,pos,after,none⟩::rest) fr hp:=by
 cases B with
 | some p=>exact zBf hd hx hy ht hi hzs hs0 hs ho1 hnews hl h63 hbytes k
 | none =>
  obtain⟨rfl,rfl⟩:=hB J;obtain rfl:m=0:=hl.symm;refine xV J fun a w ha=>?_;obtain⟨i,hi1,hi2,hi3,hi4⟩:=hi;have hown:=ha.own _ hr.mem
  have hle:n<=c:=by
   rcases hown.2 with ⟨h1,h2⟩|⟨g,cap,cur,hv,_,_,h3,_⟩
   ·omega
   ·injection hv with _ _ h5;omega
  have hrun:=run_append_nothing (P:=C.P) w t t ty e i ht hi1 A n c hle (.slice none 0 0) (Src.ofNil w ht 0);refine⟨yL fun cs=>by simp only[List.map_toArray,List.map_cons,List.map_nil,ha.eval hx,ha.eval hy];exact zCq ht,?_⟩
  have hr':(execOp a.eval ⟨some d,.call {callee:=.builtin .append,args:=#[x,y],argTypes:=#[t,t]},ty,pos,after,none⟩).run C.P w=.ok (.value (.slice A n c)) w:=by
   simp only[execOp,resolve,invoke,builtin,Sem.run_bind,Sem.run_pure,Result.andThen_ok,List.map_toArray,List.map_cons,List.map_nil,ha.eval hx,ha.eval hy,hrun]
  rw[hr'];refine k A c _ _ ((ha.turn (hu A c).upd ⟨rfl,rfl,rfl,Nat.le_refl _,fun _ _ _=>rfl⟩ ?_ (fun j hj=>.inl hj)).put (kK hd) _);simp only[List.flatMap_nil,List.append_nil];exact hown
end
theorem zKz:∀(n:Nat) (l:List Nat),exts l (n+1)=(exts l n).flatMap fun x=>(List.range 4).map fun k=>x++[k]
 | 0,l=>by
  show (List.range 4).flatMap (fun k=>[l++[k]])=[l].flatMap _
  rw[List.flatMap_singleton,<-List.map_eq_flatMap]
 | n+1,l=>by
  show (List.range 4).flatMap (fun k=>exts (l++[k]) (n+1))=((List.range 4).flatMap fun k=>exts (l++[k]) n).flatMap _;rw[List.flatMap_assoc]
  congr 1
  funext k
  exact zKz n (l++[k])
theorem zMi (c:Nat):∀l:List α,(l.map fun _=>c).sum=l.length*c
 | []=>by simp
 | _::l=>by rw[List.map_cons,List.sum_cons,zMi c l,List.length_cons,Nat.succ_mul];omega
theorem vC:∀(n:Nat) (l:List Nat),(exts l n).length=4^n
 | 0,_=>rfl
 | n+1,l=>by
  rw[zKz,List.length_flatMap];simp only[List.length_map,List.length_range];rw[zMi,vC n l,Nat.pow_succ]
theorem zF5:∀(n:Nat) (l x:List Nat),x∈exts l n↔∃y,x=l++y∧y.length=n∧∀k∈y,k<=3
 | 0,l,x=>by
  show x∈[l]↔_;rw[List.mem_singleton]
  constructor
  ·rintro rfl;exact⟨[],by simp⟩
  ·rintro⟨y,rfl,h,_⟩;obtain rfl:=List.eq_nil_of_length_eq_zero h
   simp
 | n+1,l,x=>by
  show x∈(List.range 4).flatMap (fun k=>exts (l++[k]) n)↔_;rw[List.mem_flatMap]
  constructor
  ·rintro⟨k,hk,h⟩;obtain⟨y,rfl,h1,h2⟩:=(zF5 n _ x).1 h;have:=List.mem_range.1 hk
   exact⟨k::y,by simp,by simp[h1],fun j hj=>by
    rcases List.mem_cons.1 hj with rfl|hj
    ·omega
    ·exact h2 j hj⟩
  ·rintro⟨y,rfl,h1,h2⟩
   cases y with
   | nil=>cases h1
   | cons k y =>
    have:=h2 k (by simp);exact⟨k,List.mem_range.2 om,(zF5 n _ _).2 ⟨y,by simp,by simpa using h1,fun j hj=>h2 j (by simp[hj])⟩⟩
end
section
variable {k:Nat} {α β:Type}
section
variable [I:Sys] {C:Ctx} {fr:LV} {hp hp':List Res} {a:Act} {w:World} {ops:Array Oper} {Q:QT}
theorem At.blk_row (ha:At C fr hp a w) {b e n size:Nat} {xs:List Value} (hl:xs.length=n*size) (hn:n<=maxLen) (hu:Upd (.blk b (.cells xs.toArray e (0,0))) (.row e size (some ⟨b,0,none⟩) n n xs) hp hp'):At C fr hp' a w:=by
 have hb:=ha.own _ hu.mem
 refine ha.turn hu (⟨rfl,rfl,rfl,Nat.le_refl _,fun _ _ _=>rfl⟩:w.grownBy w _) ⟨hl,.inr ⟨b,n,xs.toArray,rfl,hb.1,hb.2,Nat.le_refl _,hn,by simpa using hl,?_⟩⟩ (fun k hk=>.inl ?_)
 ·rw[<-hl];simp
 ·exact hk
theorem yZ {l:List Oper} {b e n:Nat} (size:Nat) {xs:List Value} (hl:xs.length=n*size) (hn:n<=maxLen) (hu:Upd (.blk b (.cells xs.toArray e (0,0))) (.row e size (some ⟨b,0,none⟩) n n xs) hp hp') (h:Lst C ops Q l fr hp'):Lst C ops Q l fr hp:=fun a w ha=>h a w (ha.blk_row hl hn hu)
theorem jAf (ha:At C fr hp a w) {e size n c:Nat} {A:Option Addr} {xs:List Value} (hm:Res.row e size A n c xs∈hp) (h:A=none):n=0∧c=0:=by
 subst h
 rcases (ha.own _ hm).2 with ⟨h1,h2⟩|⟨g,cap,cur,hv,_⟩
 ·injection h1 with _ h4 h5;exact⟨h4,h5⟩
 ·injection hv with h1
  cases h1
theorem zYt (ha:At C fr hp a w) {m:Meta} (hm:mrow m∈hp) (h:m.1=none):m.2.2=[]∧m.2.1=0:=by
 obtain⟨h1,h2⟩:=jAf ha hm h;exact⟨List.eq_nil_of_length_eq_zero h1,h2⟩
theorem xR (ha:At C fr hp a w) {m:Meta} (hm:mrow m∈hp):RdL ncell 1 w m.1 m.2.2:=zE9 ha (fun _=>rfl) hm
end
theorem zAq (f:α->β) (m:α) (mr:List α):(m::mr).reverse.map f=mr.reverse.map f++[f m]:=by simp
theorem zLm {f:Nat->α}:(List.range (k+1)).map f=(List.range k).map f++[f k]:=by rw[List.range_succ,List.map_append];rfl
theorem zQw {l:List α} {f:α->β} {x:α} (h:l[k]?=some x):(l.take (k+1)).map f=(l.take k).map f++[f x]:=by rw[List.take_add_one,h,List.map_append];rfl
theorem qR {l:List α} {L:List β} {f:α->β} (h:l.map f=L) {k:Nat} {x:α} (hx:l[k]?=some x):L[k]?=some (f x):=by rw[<-h,List.getElem?_map,hx];rfl
end
section
theorem yU [I:Sys] {C:Ctx} {fr:LV} {hp hpS:List Res} {ops:Array Oper} {Q:QT} {d fuel:Nat} {ty:TypeId} {pos:String} {after:Array Edge} {listed listed':Array Bool} {dst:Option Tmp} {op:Op} {j t:Nat} {b:Bool} (i:Nat) (hi:ops[i]?=some ⟨dst,op,ty,pos,after,some (j,b)⟩) (hj:(ops[j]?).bind (·.dst)=some t) (hv:look fr t=some undef) (hdst:dst=some d) (hd:Nat.blt d C.N=true) (hns:Region.noSelect ops=true)
  (hf:Region.free .any ops listed i=true) (hr:(Region.ready .any ops listed).contains i=true) (hs:hpS.Sublist hp) (hl:listed.setIfInBounds i true=listed') (k:Any C ops Q hpS fuel listed' ((d,undef)::fr) hp):Any C ops Q hpS (fuel+1) listed fr hp:=by
 intro a w ha
 refine zA9 (v:=undef) Mem.rely (fun _ _ _ h hr=>h.rely hr) hi hns hf hr (fun c a w h=>h.elim fun _ h=>h.1.elim) (.inr ⟨?_,rfl⟩) (ha.toMem hs) ?_
 ·simp[Region.wanted,zHa ha hj hv]
 ·rw[hl];show wpAnyH _ _ _ _ _ _ _ (a.put dst undef) w;rw[hdst];exact k _ _ (ha.put (kK hd) undef)
theorem zQc (x:Nat):∀(n:Nat) (l:List Nat),exts (x::l) n=(exts l n).map (x::·)
 | 0,_=>rfl
 | n+1,l=>by
  show (List.range 4).flatMap (fun k=>exts (x::(l++[k])) n)=((List.range 4).flatMap fun k=>exts (l++[k]) n).map _;rw[List.map_flatMap]
  congr 1
  funext k
  exact zQc x n (l++[k])
def lexU (j x:Nat):List (List Nat):=(List.range x).flatMap fun k=>(exts [] j).map (k::·)
theorem zMv (j x:Nat):lexU j (x+1)=lexU j x++(exts [] j).map (x::·):=by
 unfold lexU;rw[List.range_succ,List.flatMap_append,List.flatMap_singleton]
theorem zYb (j:Nat):lexU j 4=exts [] (j+1):=by
 show _=(List.range 4).flatMap fun k=>exts [k] j;unfold lexU
 congr 1
 funext k
 exact (zQc k j []).symm
theorem zOh {j:Nat} (hj:j<=2):∀x,(lexU j x).length<=16*x
 | 0=>Nat.le_refl _
 | x+1=>by
  have h:=zOh hj x
  have h16:4^j<=16:=by
   have h:j=0∨j=1∨j=2:=om;rcases h with rfl|rfl|rfl<;>decide
  rw[zMv,List.length_append,List.length_map,vC];omega
theorem zZ0 (a b:List Res):Pck a (a++b):=by
 refine Pck.perm List.perm_append_comm ?_
 induction b with
 | nil=>exact Pck.refl _
 | cons x b ih=>exact Pck.skip _ ih
def AllR (n:Nat) (w:World) (e:Ending) (w':World):Prop:=∃(A:Option Addr) (c:Nat) (S:List Meta),S.reverse.map (·.2.2)=exts [] n∧e=.returned (.slice A S.length c)∧Grew w w' (.row 23 1 A S.length c (S.reverse.map mcell)::S.map mrow)
end
section
variable [I:Sys]
theorem F.ent75:Enters TP 75:=jD Tryz.func75 rfl kr
theorem zW6 {n:Nat} (h3:n<=3) (ih:∀j,j+1=n->∀w,Calls TP 75 #[.int .i64 (j:Int)] w fun e w'=>AllR j w e w') (w:World):Calls TP 75 #[.int .i64 (n:Int)] w fun e w'=>AllR n w e w':=by
  refine enter (N:=34) [(0,.int .i64 (n:Int))] Tryz.func75 J Tryz.ntmps75 J J (csr (lax J J (zG (csr (zA J J (zE J J J kD ?_))))))
  refine lnx (zK J (fun hc0=>?_) (fun hc0=>?_))
  · skip
    obtain rfl:n=0:=om;refine wK 3 1 (csr (kB (vs:=[(0,_)]) J J U35 F.ti23 J J J ?_));intro b9;exact yZ (n:=1) 1 J (by unfold maxLen;omega) (.head _) (lax J J (zV (zU (zX J (rsO J J) (fun a w ha=>⟨some ⟨b9,0,none⟩,1,[(none,0,[])],rfl,rfl,ha.grown (.cons_cons _ (.cons_cons _ nsl))⟩)))))
  · skip
    obtain⟨j,rfl⟩:∃j,n=j+1:=⟨n-1,by omega⟩;have hj2:j<=2:=om
    have hp16:4^j<=16:=by
      have h:j=0∨j=1∨j=2:=om;rcases h with rfl|rfl|rfl<;>decide
    have hpos:0<4^j:=Nat.pow_pos (by decide);refine zO (zD (csr (lax J J (zG (csr (lax J J (zQ (wK 23 1 (qU (G:=Nat×Option Addr×Nat×List Meta) (fun g=>g.1<=4∧g.2.2.2.reverse.map (·.2.2)=lexU j g.1) (fun g=>4-g.1) (fun g=>[(0,.int .i64 ((j+1:Nat):Int)),(3,.slice g.2.1 g.2.2.2.length g.2.2.1),(4,.int .i64 (g.1:Int))]) (fun g=>.row 23 1 g.2.1 g.2.2.2.length g.2.2.1 (g.2.2.2.reverse.map mcell)::g.2.2.2.map mrow) (0,none,0,[]) ⟨Nat.zero_le _,rfl⟩ sbn pkk ?_)))))))));rintro⟨x,A3,c3,R⟩ ⟨hx0,hR⟩;dsimp only at hx0 hR ⊢;refine zG (csr (zA J J (zE J J J zEw ?_)))
    refine lnx (zK J (fun hc1=>?_) (fun hc1=>?_))
    · skip
      have hx3:x<=3:=om;have hlx:=zOh hj2 x;refine zO (zD (zG (zQ (csr (zA J J (zE (v:=.int .i64 (j:Int)) J J J (fun w=>qK w (by rw[kC _ om om];omega)) (kJ (X:=Option Addr×Nat×List Meta) (vs:=[_]) (p:=fun y=>y.2.2.reverse.map (·.2.2)=exts [] j) (val:=fun y=>.slice y.1 y.2.2.length y.2.1) (rs:=fun y=>.row 23 1 y.1 y.2.2.length y.2.1 (y.2.2.reverse.map mcell)::y.2.2.map mrow) J J F.ent75 (fun a w ha=>(ih j J w).mono (fun e w' h=>by obtain⟨A',c',S',h1,h2,h3⟩:=h;exact⟨(A',c',S'),h1,h2,h3⟩)) ?_)))))));rintro⟨A5,c5,S⟩ hS;dsimp only at hS ⊢;have hSl:S.length=4^j:=by have h:=congrArg List.length hS;rw[vC] at h;simpa using h
      refine vL (List.Perm.cons _ List.perm_append_comm) ?_;simp only[List.cons_append];refine lax J J (csr (vJ A5 om ?_));intro g5 hg5;refine lax J J (zQ (qU (G:=Nat×Option Addr×Nat×List Meta) (fun g=>g.1<=S.length∧g.2.2.2.reverse.map (·.2.2)=lexU j x++((exts [] j).take g.1).map (x::·)) (fun g=>S.length-g.1) (fun g=>[(0,.int .i64 ((j+1:Nat):Int)),(3,.slice g.2.1 g.2.2.2.length g.2.2.1),(4,.int .i64 (x:Int)),(5,.slice A5 S.length c5),(6,.int .i64 (g.1:Int))]) (fun g=>.row 23 1 g.2.1 g.2.2.2.length g.2.2.1 (g.2.2.2.reverse.map mcell)::.row 23 1 A5 S.length c5 (S.reverse.map mcell)::(g.2.2.2.map mrow++S.map mrow)) (0,A3,c3,R) ⟨Nat.zero_le _,by simp[hR]⟩ sbn pkk ?_));rintro⟨i,A6,c6,R⟩ ⟨hi0,hR⟩;dsimp only at hi0 hR ⊢;have hRl:R.length=(lexU j x).length+min i (4^j):=by have h:=congrArg List.length hR;simp only[List.length_append,List.length_map,List.length_take,List.length_reverse,vC] at h;exact h
      refine zG (csr (zA J J (zA J J (jR J J U35 (zE J J J jY ?_)))))
      refine lnx (zK J (fun hc2=>?_) (fun hc2=>?_))
      · skip
        have hi:i<S.length:=om;obtain⟨m,hm⟩:∃x,S.reverse[i]?=some x:=⟨_,List.getElem?_eq_getElem (by simp;omega)⟩;have hmS:m∈S:=List.mem_reverse.1 (List.mem_of_getElem? hm);have hml:(exts [] j)[i]?=some m.2.2:=qR hS hm;have hmlen:m.2.2.length<=2:=by rw[vW _ _ _ (List.mem_of_getElem? hml),List.length_nil];omega
        refine zO (zD (zG (zQ (zL (yD (fun a w ha=>zYt ha (m:=m) (by repeat (first|exact List.mem_append_right _ (List.mem_map_of_mem hmS)|apply List.Mem.tail))) ?_)))));intro hB;refine zA J J (zA J J (kB (vs:=[(0,_)]) J J U23 F.ti3 J J J ?_));intro b25;refine yZ (n:=1) 1 J (by unfold maxLen;omega) (.head _) (zA J J (zA J J (jO (j:=i) J (show _=some (Value.slice (some ⟨g5,0,none⟩) S.length c5) from by rw[<-hg5];rfl) J Tryz.underlying35 F.ti23 J hi (jM (v:=.slice m.1 m.2.2.length m.2.1) J J F.one23 (fun a w ha=>jQ ha (InR.mem (A:=A5)) hg5 (zo1 (xM hm))) (zB6 (cells:=ncell) J J J Tryz.underlying23 F.ti3 J J (fun _=>rfl) jAc (fun a w ha=>xR ha (by repeat (first|exact List.mem_append_right _ (List.mem_map_of_mem hmS)|apply List.Mem.tail))) hB J (by unfold maxLen;omega) om ?_)))));intro A30 c30;rw[<-zG5,Nat.add_comm 1 m.2.2.length];refine kB (vs:=[(0,_)]) J J U35 F.ti23 J J J ?_;intro b31;refine kI J J J Tryz.underlying35 F.ti23 J J J (by unfold maxLen;omega) om ?_;intro A32 c32;refine zF J J (zB (zJ (zD (zL (zA J J (zE J J J bdO (zF J J (zB (kS (i+1,A32,c32,(A30,c30,x::m.2.2)::R) ⟨by (try dsimp only);omega,?_⟩ tdo (by dsimp only;rw[List.length_cons];exact sbn) (by dsimp only;rw[List.length_cons,zAq];simp only[List.map_cons,mrow,mcell,List.length_cons,List.cons_append];exact pkk))))))))));dsimp only;rw[zAq,hR,zQw hml,List.append_assoc]
      · skip
        obtain rfl:i=S.length:=om;rw[List.take_of_length_le (by rw[vC,hSl];exact Nat.le_refl _),<-zMv] at hR;refine jV (zN (zN (zY (zJ (zD (zL (zA J J (zE J J J bdO (zF J J (zB (kS (x+1,A6,c6,R) ⟨by (try dsimp only);omega,hR⟩ tdo sbn (by dsimp only;exact .cons (.here _) (.skip _ (zZ0 _ _))))))))))))))
    · skip
      obtain rfl:x=4:=om;exact jV (zN (zN (zY (zD (csr (zA J J (lax J J (zV (zX J (rsO J J) (fun a w ha=>⟨A3,c3,R,by rw[hR,zYb],rfl,ha.grown (List.Sublist.refl _)⟩))))))))))

theorem zHn:∀(n:Nat),n<=3->∀w:World,Calls TP 75 #[.int .i64 (n:Int)] w fun e w'=>AllR n w e w'
  | 0,h=>fun w=>zW6 h (fun j e=>by omega) w
  | n+1,h=>fun w=>zW6 h (fun j e=>by
    obtain rfl:j=n:=om
    exact zHn j om) w
end
section
variable {i k n:Nat}
section
variable [I:Sys] {C:Ctx} {fr:LV} {hp:List Res} {a:Act} {w:World} {ops:Array Oper} {Q:QT} {rest:List Oper}
 {d:Nat} {ty:TypeId} {pos:String} {after:Array Edge}
theorem zF1 {t e:TypeId} {x y:Operand} {size bytes:Nat} {z:Value} {zs:List Value} (hm:madeCells z.cells (n*size)=zs.toArray) (hd:Nat.blt d C.N=true) (hx:ev fr x=some (.int .i64 (n:Int))) (hy:ev fr y=some (.int .i64 (n:Int))) (ht:C.P.underlying t=some (.slice e)) (hz:TI C.P e z size bytes) (hn:n<=1000) (hs:size<=100) (hb:bytes<=1000)
  (k:∀b,Lst C ops Q rest ((d,.slice (some ⟨b,0,none⟩) n n)::fr) (.row e size (some ⟨b,0,none⟩) n n zs::hp)):Lst C ops Q (⟨some d,.makeSlice t x y,ty,pos,after,none⟩::rest) fr hp:=by
 refine xV J fun a w ha=>?_;obtain⟨i,hi,hz0,hsz,hbz⟩:=hz;refine⟨zLz ..,?_⟩;have h1:n*size<=1000*100:=Nat.mul_le_mul hn hs;have h2:bytes*n<=1000*1000:=Nat.mul_le_mul hb hn
 have hlen:zs.length=n*size:=by
  have:=size_madeCells z.cells (n*size);rw[hm,List.size_toArray] at this;exact this
 have hmk:(Instr.makeSlice t (.int .i64 (n:Int)) (.int .i64 (n:Int))).run C.P w=.ok (.slice (some ⟨w.heap.size,0,none⟩) n n) (w.alloc (.cells zs.toArray e)):=by
  have h:=run_makeSlice (P:=C.P) w t e i z ht hi hz0 .i64 .i64 (n:Int) (n:Int) om (Int.le_refl _) (by rw[hsz,Int.toNat_natCast];omega) (by rw[hbz,<-Int.natCast_mul];omega) om;simp only[Int.toNat_natCast,hsz] at h;rw[h,hm]
 have hr:(execOp a.eval ⟨some d,.makeSlice t x y,ty,pos,after,none⟩).run C.P w=.ok (.value (.slice (some ⟨w.heap.size,0,none⟩) n n)) (w.alloc (.cells zs.toArray e)):=by
  simp only[execOp,ha.eval hx,ha.eval hy,Sem.run_bind,hmk,Result.andThen_ok,Sem.run_pure]
 rw[hr];refine k w.heap.size _ _ (At.put ?_ (kK hd) _);have h1:=ha.alloc (.cells zs.toArray e)
 refine⟨h1.size,h1.defs,h1.slots,h1.below,h1.base,fun r hr=>?_,?_⟩
 ·rcases List.mem_cons.1 hr with rfl|hr
  ·have h2:=h1.own _ (List.mem_cons_self ..);exact⟨hlen,.inr ⟨_,n,_,rfl,h2.1,h2.2,Nat.le_refl _,by unfold maxLen;omega,by rw[List.size_toArray,hlen],List.take_of_length_le (by show zs.length<=n*size;omega)⟩⟩
  ·exact h1.own r (List.mem_cons_of_mem _ hr)
 ·exact h1.apart
end
theorem zKx:∀n:Nat,ints (List.replicate n 0)=List.replicate n (.int .i64 0)
 | 0=>rfl
 | n+1=>by rw[List.replicate_succ,List.replicate_succ,<-zKx n];rfl
theorem zLs (n:Nat):madeCells (Value.int .i64 0).cells n=(ints (List.replicate n 0)).toArray:=by
 rw[zKx];unfold madeCells
 apply Array.toList_inj.1
 apply List.ext_getElem?
 intro i
 by_cases hi:i<n
 ·simp[Value.cells,hi,Nat.mod_one]
 ·simp[Value.cells,hi]
def zis (l:List Int):List Value:=l.map fun n=>.int .i64 n
theorem zHz (l:List Int):(zis l).length=l.length:=by simp[zis]
theorem zHx (l:List Int) (j:Nat) (v:Int):(zis l).set j (.int .i64 v)=zis (l.set j v):=by
 unfold zis;rw[List.map_set]
theorem zZg (n:Nat):madeCells (Value.int .i64 0).cells (n*1)=(zis (List.replicate n 0)).toArray:=by
 rw[Nat.mul_one,zLs];unfold zis ints;rw[List.map_replicate,List.map_replicate]
 rfl
def ten (k:Nat):Nat:=10^k
theorem zXh (k:Nat):ten (k+1)=ten k*10:=Nat.pow_succ 10 k
theorem jCl (k:Nat):0<ten k:=Nat.pow_pos (by decide)
theorem zFd (h:k<=3):ten k<=1000:=Nat.pow_le_pow_right (n:=10) (by decide) h
def negK (n i:Nat):List Int:=List.replicate i (-1)++List.replicate (n-i) 0
theorem zZo (h:i<=n):(negK n i).length=n:=by simp[negK];omega
theorem zYq (h:i<n):(negK n i).set i (-1)=negK n (i+1):=by
 unfold negK;rw[show n-i=(n-(i+1))+1 from by omega,List.replicate_succ,List.set_append,if_neg (by simp),List.length_replicate,Nat.sub_self,List.set_cons_zero,List.replicate_succ',List.append_assoc]
 rfl
theorem zXe (n:Nat):negK n n=List.replicate n (-1):=by simp[negK]
def tabK (n:Nat) (cs:List Nat):Nat->List Int
 | 0=>List.replicate n (-1)
 | k+1=>(tabK n cs k).set (cs.getD k 0) (k:Int)
theorem zFt (n:Nat) (cs:List Nat):∀k,(tabK n cs k).length=n
 | 0=>List.length_replicate
 | k+1=>by
  show ((tabK n cs k).set _ _).length=n;rw[List.length_set,zFt]
def cods (n:Nat) (l:List MZ):List Nat:=l.map fun x=>cdM x.2.2 n
theorem jB4 {l:List MZ} {x:MZ} (h:l[k]?=some x):(cods n l).getD k 0=cdM x.2.2 n:=by
 rw[List.getD_eq_getElem?_getD];unfold cods;rw[List.getElem?_map,h]
 rfl
end
section
variable [I:Sys]
theorem F.ent78:Enters TP 78:=jD Tryz.func78 rfl kr
theorem zGa {A:Option Addr} {c n:Nat} {l:List MZ} (h3:n<=3) (hok:∀x∈l,MOk x.2.2) (hll:l.length<=1000) (w:World) (hM:RdMs n w A l):Calls TP 76 #[.slice A l.length c,.int .i64 (n:Int)] w fun e w'=>∃b,e=.returned (.slice (some ⟨b,0,none⟩) (ten n) (ten n))∧Grew w w' [.row 3 1 (some ⟨b,0,none⟩) (ten n) (ten n) (zis (tabK (ten n) (cods n l) l.length))]:=by
 refine enter (N:=42) [(0,.slice A l.length c),(1,.int .i64 (n:Int))] Tryz.func76 J Tryz.ntmps76 J J (csr (lax J J (csr (lax J J (zG (csr (lax J J (zQ (qT (G:=Nat) (fun k=>k<=n) (fun k=>n-k) (fun k=>[(0,.slice A l.length c),(1,.int .i64 (n:Int)),(5,.int .i64 ((ten k:Nat):Int)),(6,.int .i64 (k:Int))]) (fun k=>[]) 0 (Nat.zero_le _) sbn sbl ?_)))))))));intro k hk;(try dsimp only at hk ⊢);refine zG (csr (zA J J (zA J J (zE J J J jY ?_))))
 refine lnx (zK J (fun hc0=>?_) (fun hc0=>?_))
 ·have h9:=zFd (show k<=3 by omega);refine zO (zD (zG (zQ (zL (zA J J (zE (v:=.int .i64 ((ten (k+1):Nat):Int)) J J J (fun w=>zDq w (by rw[kC _ om om,zXh];omega)) (zF J J (zB (zJ (zD (zL (zA J J (zE J J J bdO (zF J J (zB (kV (k+1) om tdo sbn sbl))))))))))))))))
 ·obtain rfl:k=n:=om;have h9:=zFd h3;have h8:=jCl k;refine jV (zN (zN (zY (zD (csr (zA J J (zF1 (n:=ten k) (zZg _) J J J U23 F.ti3 h9 om om ?_)))))));intro b18;refine lax J J (zG (csr (lax J J (zQ (qT (G:=Nat) (fun i=>i<=ten k) (fun i=>ten k-i) (fun i=>[(0,.slice A l.length c),(1,.int .i64 (k:Int)),(5,.int .i64 ((ten k:Nat):Int)),(7,.slice (some ⟨b18,0,none⟩) (ten k) (ten k)),(8,.int .i64 (i:Int))]) (fun i=>[.row 3 1 (some ⟨b18,0,none⟩) (ten k) (ten k) (zis (negK (ten k) i))]) 0 (Nat.zero_le _) sbn sbl ?_)))));intro i hi;(try dsimp only at hi ⊢);refine zG (csr (zA J J (zA J J (zE J J J jY ?_))))
  refine lnx (zK J (fun hc1=>?_) (fun hc1=>?_))
  ·have hi2:i<ten k:=om;refine zO (zD (zG (zQ (zL (zA J J (zA J J (jO (j:=i) J J J Tryz.underlying23 F.ti3 J hi2 (xZ (A:=some ⟨b18,0,none⟩) (zis (negK (ten k) (i+1))) (show _=some (Value.pointer (some ⟨b18,0+i*1,none⟩)) from rfl) J F.ti3 J (by rw[zHz,zZo om];omega) (by rw[show 0+i*1=i from by omega,zHx,zYq hi2]) (zB (zJ (zD (zL (zA J J (zE J J J bdO (zF J J (zB (kV (i+1) om tdo sbn sbl)))))))))))))))))
  ·obtain rfl:i=ten k:=om;refine jV (zN (zN (zY (zD (zG (csr (lax J J (zQ ?_))))))));rw[zXe];refine qT (G:=Nat) (fun i=>i<=l.length) (fun i=>l.length-i) (fun i=>[(0,.slice A l.length c),(1,.int .i64 (k:Int)),(7,.slice (some ⟨b18,0,none⟩) (ten k) (ten k)),(9,.int .i64 (i:Int))]) (fun i=>[.row 3 1 (some ⟨b18,0,none⟩) (ten k) (ten k) (zis (tabK (ten k) (cods k l) i))]) 0 (Nat.zero_le _) sbn sbl ?_;intro i hi;(try dsimp only at hi ⊢);refine zG (csr (zA J J (zA J J (jR J J U109 (zE J J J jY ?_)))))
   refine lnx (zK J (fun hc2=>?_) (fun hc2=>?_))
   ·have hi2:i<l.length:=om;obtain⟨b,o,hAe,hb,hcell⟩:=hM.outer om;obtain⟨x,hx⟩:∃x,l[i]?=some x:=⟨_,List.getElem?_eq_getElem hi2⟩;have hxm:=List.mem_of_getElem? hx;have hin:=hM.inner x hxm;have hco:=jB4 (n:=k) hx;have hlt:cdM x.2.2 k<ten k:=zC0 (hok x hxm) k;obtain⟨⟨sA,sc⟩,⟨wA,wc⟩,m⟩:=x;dsimp only at hlt hco;refine zO (zD (zG (zQ (zL (zA J J (zA J J (zA J J (jO (j:=i) J (show _=some (Value.slice (some ⟨b,o,none⟩) l.length c) from by rw[<-hAe];rfl) J Tryz.underlying109 F.ti112 J hi2 (qV (l:=[.slice sA k sc,.slice wA k wc]) J J F.agg112 F.ti112 J (fun a w ha j u hu=>ha.old (hcell i _ hx j u hu) hb) (jE (v:=.int .i64 ((cdM m k:Nat):Int)) (vs:=[_]) J J F.ent78 (fun a w ha=>zCd h3 (hok _ hxm) w (hin.later ha.below)) (zA J J (jO (j:=cdM m k) J J J Tryz.underlying23 F.ti3 J hlt (xZ (A:=some ⟨b18,0,none⟩) (zis (tabK (ten k) (cods k l) (i+1))) (show _=some (Value.pointer (some ⟨b18,0+cdM m k*1,none⟩)) from rfl) J F.ti3 J (by rw[zHz,zFt];omega) (by rw[show 0+cdM m k*1=cdM m k from by omega,zHx,<-hco];rfl) (zB (zJ (zD (zL (zA J J (zE J J J bdO (zF J J (zB (kV (i+1) om tdo sbn sbl))))))))))))))))))))))
   ·obtain rfl:i=l.length:=om;exact jV (zN (zN (zY (zD (csr (zA J J (lax J J (zV (zX J (rsO J J) (fun a w ha=>⟨b18,rfl,ha.grown (.cons_cons _ nsl)⟩))))))))))

end
section
variable {acc:List Mor} {c d kiln n:Nat} {cs days:List Nat} {fs:List Flt} {m x:Mor}
def addM (acc:List Mor) (m:Mor):List Mor:=if m∈acc then acc else acc++[m]
theorem zZb:x∈addM acc m↔x∈acc∨x=m:=by
 unfold addM
 split
 ·rename_i h;exact⟨.inl,fun h2=>h2.elim id fun e=>e▸h⟩
 ·rw[List.mem_append,List.mem_singleton]
theorem zS8 (h:acc.Nodup):(addM acc m).Nodup:=by
 unfold addM
 split
 ·exact h
 ·rename_i h2;rw[List.nodup_append];refine⟨h,by simp,fun x hx y hy e=>h2 ?_⟩;rw[List.mem_singleton] at hy;rw[<-hy,<-e];exact hx
theorem zEj:∀(l acc:List Mor),x∈l.foldl addM acc↔x∈acc∨x∈l
 | [],acc=>by simp
 | m::l,acc=>by
  rw[List.foldl_cons,zEj l,zZb,List.mem_cons,or_assoc]
theorem zCm:∀(l acc:List Mor),acc.Nodup->(l.foldl addM acc).Nodup
 | [],_,h=>h
 | _::l,_,h=>zCm l _ (zS8 h)
def nxtL (fs:List Flt) (kiln:Nat) (l:List Mor) (d:Nat):List Mor:=(stpL fs kiln l d).foldl addM []
def lvlL (fs:List Flt) (kiln:Nat) (days:List Nat):List Mor:=days.foldl (nxtL fs kiln) [start fs]
theorem zMn:lvlL fs kiln (days++[d])=nxtL fs kiln (lvlL fs kiln days) d:=by
 unfold lvlL;rw[List.foldl_append]
 rfl
theorem zN8:∀(days:List Nat) (l:List Mor) (S:Mor->Prop),(∀m,m∈l↔S m)->∀m,m∈days.foldl (nxtL fs kiln) l↔days.foldl (stp fs kiln) S m
 | [],_,_,h=>h
 | _::days,_,_,h=>zN8 days _ _ fun m=>by
  unfold nxtL;rw[zEj,zO6 h];simp
theorem jGf:m∈lvlL fs kiln days↔Rch fs kiln days m:=zN8 days _ _ (fun m=>by simp) m
theorem zGf (days:List Nat):(lvlL fs kiln days).Nodup:=by
 rcases List.eq_nil_or_concat days with rfl|⟨ds,d,rfl⟩
 ·simp[lvlL]
 ·rw[List.concat_eq_append,zMn];exact zCm _ _ List.nodup_nil
theorem zS5 (h3:fs.length<=3):Thin fs.length (start fs):=fun i hi=>⟨zKy fs h3 i hi,by
 cases h:(start fs).w.testBit i with
 | false=>rfl
 | true=>exact absurd (zWk.1 h).1 om⟩
theorem zJl {acts:List Nat} (h3:fs.length<=3) (hok:MOk x) (ht:Thin fs.length m) (hl:acts.length=fs.length) (h:dayE fs kiln m acts d=(0,x)):Thin fs.length x:=by
 obtain⟨-,-,-,rfl⟩:=jGc.1 h;refine fun i hi=>⟨zPb (fun i hi=>(ht i hi).1) _ om i hi,?_⟩
 rcases Nat.lt_or_ge i 3 with h4|h4
 ·rw[zG8 h4 _ om,if_neg om];exact (ht i hi).2
 ·have h8:(dRun fs m acts d acts.length).2.w<2^i:=Nat.lt_of_lt_of_le hok.w (Nat.pow_le_pow_right (n:=2) (by decide) h4);exact Nat.testBit_lt_two_pow h8
theorem Rch.thin (h3:fs.length<=3) (hf:∀f∈fs,FltOk f) (days:List Nat):∀m,Rch fs kiln days m->Thin fs.length m:=by
 have key:∀(days:List Nat) (S:Mor->Prop),(∀m,S m->MOk m∧Thin fs.length m)->∀m,days.foldl (stp fs kiln) S m->MOk m∧Thin fs.length m:=by
  intro days
  induction days with
  | nil=>exact fun _ h=>h
  | cons d days ih =>
   intro S hS;refine ih _ fun x hx=>?_;have hok:=zUw (d:=d) (kiln:=kiln) h3 hf (fun m hm=>(hS m hm).1) x hx;obtain⟨m,hm,acts,ha,hd⟩:=hx;obtain⟨y,e,hl,-⟩:=(zF5 _ _ _).1 ha;rw[List.nil_append] at e;subst e;exact⟨hok,zJl h3 hok (hS m hm).2 hl hd⟩
 refine fun m hm=>(key days _ ?_ m hm).2;rintro m rfl;exact⟨wC h3 hf _ (Nat.le_refl _),zS5 h3⟩
theorem zM6:∀k,k<=cs.length->tabK n (cs++[c]) k=tabK n cs k
 | 0,_=>rfl
 | k+1,h=>by
  show (tabK n (cs++[c]) k).set _ _=(tabK n cs k).set _ _;rw[zM6 k om,List.getD_eq_getElem?_getD,List.getElem?_append_left (show k<cs.length by omega),<-List.getD_eq_getElem?_getD]
theorem zZd:tabK n (cs++[c]) (cs.length+1)=(tabK n cs cs.length).set c (cs.length:Int):=by
 show (tabK n (cs++[c]) cs.length).set _ _=_;rw[zM6 _ (Nat.le_refl _),List.getD_eq_getElem?_getD,List.getElem?_append_right (Nat.le_refl _),Nat.sub_self]
 rfl
theorem zJd {n c:Nat} {cs:List Nat} (hc:c<n):∀k,k<=cs.length->((tabK n cs k)[c]?=some (-1)∧c∉cs.take k)∨∃j,j<k∧cs[j]?=some c∧(tabK n cs k)[c]?=some (j:Int)
 | 0,_=>.inl ⟨by show (List.replicate n (-1:Int))[c]?=_;rw[List.getElem?_replicate,if_pos hc],by simp⟩
 | k+1,h=>by
  obtain⟨x,hx⟩:∃x,cs[k]?=some x:=⟨_,List.getElem?_eq_getElem om⟩;have hg:cs.getD k 0=x:=by rw[List.getD_eq_getElem?_getD,hx];rfl
  have e:tabK n cs (k+1)=(tabK n cs k).set x (k:Int):=by
   show (tabK n cs k).set _ _=_;rw[hg]
  rw[e,List.take_add_one,hx]
  by_cases hxc:x=c
  ·subst hxc;exact .inr ⟨k,by omega,hx,List.getElem?_set_self (by rw[zFt];exact hc)⟩
  ·rw[List.getElem?_set_ne hxc]
   rcases zJd (cs:=cs) hc k om with ⟨h1,h2⟩|⟨j,h1,h2,h3⟩
   ·refine .inl ⟨h1,fun hm=>?_⟩
    rcases List.mem_append.1 hm with hm|hm
    ·exact h2 hm
    ·simp at hm;exact hxc hm.symm
   ·exact .inr ⟨j,by omega,h2,h3⟩
end
section
variable {d k kiln:Nat} {fs:List Flt} {l:List Mor} {m:Mor}
abbrev LZ:Type:=Option Addr×Nat×List MZ
def lcell (x:LZ):Value:=.slice x.1 x.2.2.length x.2.1
def lrow (n:Nat) (x:LZ):List Res:=.row 112 2 x.1 x.2.2.length x.2.1 (x.2.2.reverse.flatMap (mmc n))::x.2.2.flatMap (mmr n)
def lmor (x:LZ):List Mor:=x.2.2.reverse.map (·.2.2)
theorem vM (x:LZ):(lmor x).length=x.2.2.length:=by simp[lmor]
theorem yM {LS:List LZ} {x:LZ} (h:LS.reverse[k]?=some x):(LS.reverse.map lcell)[k]?=some (lcell x):=by rw[List.getElem?_map,h];rfl
theorem zZl (n:Nat) (x:MZ) (R:List MZ):(x::R).reverse.flatMap (mmc n)=R.reverse.flatMap (mmc n)++mmc n x:=by
 rw[List.reverse_cons,List.flatMap_append,List.flatMap_singleton]
theorem yI [I:Sys] {C:Ctx} {fr:LV} {hp:List Res} {a:Act} {w:World} (ha:At C fr hp a w) {n:Nat} {x:LZ} (h:∀r∈lrow n x,r∈hp):RdMs n w x.1 x.2.2.reverse:=by
 have h1:Res.row 112 2 x.1 x.2.2.reverse.length x.2.1 (x.2.2.reverse.flatMap (mmc n))∈hp:=by
  rw[List.length_reverse];exact h _ (List.mem_cons_self ..)
 refine jE4 ha h1 fun y hy r hr=>h r (List.mem_cons_of_mem _ (List.mem_flatMap.2 ⟨y,List.mem_reverse.1 hy,hr⟩))
def candL (fs:List Flt) (kiln d:Nat) (m:Mor) (l:List (List Nat)):List Mor:=l.filterMap fun acts=>if (dayE fs kiln m acts d).1=0 then some (dayE fs kiln m acts d).2 else none
theorem zK7 {l:List (List Nat)} {acts:List Nat} (h:l[k]?=some acts):candL fs kiln d m (l.take (k+1))=candL fs kiln d m (l.take k)++if (dayE fs kiln m acts d).1=0 then [(dayE fs kiln m acts d).2] else []:=by
 unfold candL;rw[List.take_add_one,h,List.filterMap_append]
 congr 1
 show List.filterMap _ [acts]=_;rw[List.filterMap_cons,List.filterMap_nil]
 split<;>rename_i h0<;>split at h0<;>simp_all
def fndL (fs:List Flt) (kiln d:Nat) (l:List Mor) (i:Nat):List Mor:=((l.take i).flatMap fun m=>candL fs kiln d m (exts [] fs.length)).foldl addM []
theorem zV1 {i:Nat} (h:l[i]?=some m):fndL fs kiln d l (i+1)=(candL fs kiln d m (exts [] fs.length)).foldl addM (fndL fs kiln d l i):=by
 unfold fndL;rw[List.take_add_one,h,List.flatMap_append,List.foldl_append];show List.foldl addM _ (List.flatMap _ [m])=_;rw[List.flatMap_singleton]
theorem zX8:fndL fs kiln d l l.length=nxtL fs kiln l d:=by
 unfold fndL nxtL stpL candL;rw[List.take_length]
theorem zJq {n:Nat} {R:List MZ} (hR:∀x∈R,MOk x.2.2∧Thin n x.2.2) (hm:MOk m) (ht:Thin n m):cdM m n∈cods n R↔m∈R.map (·.2.2):=by
 unfold cods;rw[List.mem_map,List.mem_map]
 constructor
 ·rintro⟨x,hx,e⟩;exact⟨x,hx,zVy (hR x hx).1 hm (hR x hx).2 ht e⟩
 ·rintro⟨x,hx,e⟩;exact⟨x,hx,by rw[e]⟩
end
section
variable {d i kiln:Nat} {fs:List Flt} {l:List Mor}
theorem zMa {p:Mor->Prop} (l acc:List Mor) (h1:∀x∈acc,p x) (h2:∀x∈l,p x):∀x∈l.foldl addM acc,p x:=fun x hx=>((zEj l acc).1 hx).elim (h1 x) (h2 x)
theorem zO9 {m:Mor} {L:List (List Nat)} (h3:fs.length<=3) (hf:∀f∈fs,FltOk f) (hm:MOk m) (ht:Thin fs.length m) (hL:∀a∈L,a.length=fs.length):∀y∈candL fs kiln d m L,MOk y∧Thin fs.length y:=by
 intro y hy;obtain⟨a,ha,h⟩:=List.mem_filterMap.1 hy
 split at h
 ·rename_i h0
  cases h
  have hok:=(yQ (fs:=fs) (kiln:=kiln) (m:=m) (acts:=a) (sugar:=d) hf hm (by rw[hL a ha];exact Nat.le_refl _) h3).1;exact⟨hok,zJl h3 hok ht (hL a ha) (Prod.ext h0 J)⟩
 ·cases h
theorem zFu {n:Nat}:∀a∈exts [] n,a.length=n:=fun a ha=>by
 obtain⟨y,e,hl,-⟩:=(zF5 _ _ _).1 ha;rw[List.nil_append] at e;rw[e,hl]
theorem jA1 (h3:fs.length<=3) (hf:∀f∈fs,FltOk f) (hl:∀m∈l,MOk m∧Thin fs.length m):∀y∈fndL fs kiln d l i,MOk y∧Thin fs.length y:=by
 refine zMa _ _ (fun x hx=>nomatch hx) fun x hx=>?_;obtain⟨m,hm,h⟩:=List.mem_flatMap.1 hx;obtain⟨h1,h2⟩:=hl m (List.mem_of_mem_take hm);exact zO9 h3 hf h1 h2 zFu x h
theorem zUi:(fndL fs kiln d l i).Nodup:=zCm _ _ List.nodup_nil
end
section
variable [I:Sys]
theorem F.ent101:Enters TP 101:=jD Tryz.func101 rfl kr
theorem F.ent76:Enters TP 76:=jD Tryz.func76 rfl kr
theorem F.ent77:Enters TP 77:=jD Tryz.func77 rfl kr
theorem F.one109:One TP 109:=⟨by unfold aggB;rw[Tryz.underlying109],by rw[Tryz.underlying109];simp⟩
theorem F.ti109:TI TP 109 (.slice none 0 0) 1 24:=TI.of kr
theorem zOv {fA dA:Option Addr} {fc dc kiln:Nat} {fs:List Flt} {days:List Nat} (hc:ChW fs kiln days) (w:World) (hF:RdL Flt.cells 4 w fA fs) (hD:RdL ncell 1 w dA days):Calls TP 73 #[(CG fA fs.length fc kiln dA days.length dc)] w fun e w'=>∃(A:Option Addr) (c:Nat) (LS:List LZ),LS.reverse.map lmor=(List.range (days.length+1)).map (fun i=>lvlL fs kiln (days.take i))∧e=.returned (.slice A LS.length c)∧Grew w w' (.row 109 1 A LS.length c (LS.reverse.map lcell)::LS.flatMap (lrow fs.length)):=by
 refine enter (N:=92) [(0,(CG fA fs.length fc kiln dA days.length dc))] Tryz.func73 J Tryz.ntmps73 J J (csr (jT J J ?_));intro b1;refine lax J J (csr (zZ J J F.agg25 F.ti25 (kJ (X:=(Option Addr×Nat)×(Option Addr×Nat)) (vs:=[_]) (p:=fun _=>True) (val:=fun y=>.agg (mmc fs.length (y.1,y.2,start fs)).toArray) (rs:=fun y=>mmr fs.length (y.1,y.2,start fs)) J J F.ent101 (fun a w ha=>(zX9 hc.f3 w (hF.later ha.below)).mono (fun e w' h=>by obtain⟨sA,sc,wA,wc,h1,h2⟩:=h;exact⟨((sA,sc),(wA,wc)),trivial,h1,h2⟩)) ?_)));rintro⟨⟨sA,sc⟩,⟨wA,wc⟩⟩ -;dsimp only[mmc,mmr,List.cons_append,List.nil_append];refine yV (vs:=[(0,.agg ([.slice sA fs.length sc,.slice wA fs.length wc]:List Value).toArray)]) [.slice sA fs.length sc,.slice wA fs.length wc] J J U109 F.ti112 J J J (Lit.agg (l1:=[.slice sA fs.length sc,.slice wA fs.length wc]) J (rfl)) ?_;intro b14;refine yZ (n:=1) 2 J (by unfold maxLen;omega) (.head _) (kB (vs:=[(0,_)]) J J Tryz.underlying104 F.ti109 J J J ?_);intro b15;refine yZ (n:=1) 1 J (by unfold maxLen;omega) (.head _) (lax J J (csr (zI J J F.fi25_0 F.ti22 (zS J J F.one22 (jR J J Tryz.underlying22 (kJ (X:=Option Addr×Nat×List Meta) (vs:=[_]) (p:=fun y=>y.2.2.reverse.map (·.2.2)=exts [] fs.length) (val:=fun y=>.slice y.1 y.2.2.length y.2.1) (rs:=fun y=>.row 23 1 y.1 y.2.2.length y.2.1 (y.2.2.reverse.map mcell)::y.2.2.map mrow) J J F.ent75 (fun a w ha=>(zHn fs.length hc.f3 w).mono (fun e w' h=>by obtain⟨A',c',S',h1,h2,h3⟩:=h;exact⟨(A',c',S'),h1,h2,h3⟩)) ?_))))));rintro⟨A4,c4,S⟩ hS;dsimp only at hS ⊢;have hSl:S.length=4^fs.length:=by have h:=congrArg List.length hS;rw[vC] at h;simpa using h
 have hS64:=Nat.pow_le_pow_right (n:=4) (by decide) hc.f3;have hS0:0<4^fs.length:=Nat.pow_pos (by decide);refine vL (List.Perm.cons _ List.perm_append_comm) ?_;simp only[List.cons_append,List.nil_append];refine lax J J (zG (zG (zL ?_)));have hd4:=hc.d4;have hf3:=hc.f3;refine vJ A4 om ?_;intro g4 hg4;refine lax J J (zQ (qU (G:=Nat×Option Addr×Nat×List LZ) (fun g=>g.1<=days.length∧g.2.2.2.reverse.map lmor=(List.range (g.1+1)).map (fun i=>lvlL fs kiln (days.take i))) (fun g=>days.length-g.1) (fun g=>[(1,pt b1),(3,.slice g.2.1 g.2.2.2.length g.2.2.1),(4,.slice A4 S.length c4),(5,.int .i64 (g.1:Int))]) (fun g=>.row 109 1 g.2.1 g.2.2.2.length g.2.2.1 (g.2.2.2.reverse.map lcell)::.blk b1 (CO fA fs.length fc kiln dA days.length dc 25)::.row 23 1 A4 S.length c4 (S.reverse.map mcell)::(g.2.2.2.flatMap (lrow fs.length)++S.map mrow)) (0,some ⟨b15,0,none⟩,1,[(some ⟨b14,0,none⟩,1,[((sA,sc),(wA,wc),start fs)])]) ⟨Nat.zero_le _,rfl⟩ sbn (by simp only[lrow,List.flatMap_cons,List.flatMap_nil,List.append_nil,List.reverse_cons,List.reverse_nil,List.nil_append,List.cons_append,mmr,mmc,List.map_cons,List.map_nil,lcell,List.length_cons,List.length_nil,Nat.zero_add];exact pkk) ?_));rintro⟨d,oA,oc,LS⟩ ⟨hd0,hLS⟩;dsimp only at hd0 hLS ⊢;have hLl:LS.length=d+1:=by have h:=congrArg List.length hLS;simpa using h
 refine zG (csr (zA J J (zI J J F.fi25_2 F.ti23 (zS J J F.one23 (jR J J U23 (zE J J J jY ?_))))))
 refine lnx (zK J (fun hc0=>?_) (fun hc0=>?_))
 ·have hd:d<days.length:=om;obtain⟨bd,bo,hdA,hbd,hcd⟩:=hD om;obtain⟨sg,hsg⟩:∃y,days[d]?=some y:=⟨_,List.getElem?_eq_getElem hd⟩;have hsg12:=hc.dd sg (List.mem_of_getElem? hsg);obtain⟨x,hx⟩:∃y,LS.reverse[d]?=some y:=⟨_,List.getElem?_eq_getElem (by simp;omega)⟩;have hxL:x∈LS:=List.mem_reverse.1 (List.mem_of_getElem? hx)
  have hxm:lmor x=lvlL fs kiln (days.take d):=by
   have h:=qR hLS hx;rw[List.getElem?_map,List.getElem?_range om] at h;injection h with h;exact h.symm
  have hxok:∀m∈x.2.2,MOk m.2.2∧Thin fs.length m.2.2:=fun m hm=>by
   have h:m.2.2∈lvlL fs kiln (days.take d):=hxm▸List.mem_map_of_mem (List.mem_reverse.2 hm);exact⟨(jGf.1 h).ok hc.f3 hc.ff _ _,(jGf.1 h).thin hc.f3 hc.ff _ _⟩
  have hxn:x.2.2.length<=1000:=by
   rw[<-vM,hxm];exact zIb (zGf _) fun m hm=>(jGf.1 hm).ok hc.f3 hc.ff _ _
  have hten:=zFd hc.f3;refine zO (zD (zG (zQ (csr (lax J J (csr (vJ oA om ?_)))))));intro g3 hg3;refine zI J J F.fi25_0 F.ti22 (zS J J F.one22 (jR J J Tryz.underlying22 (kJ (X:=Nat) (vs:=[_,_]) (p:=fun _=>True) (val:=fun y=>.slice (some ⟨y,0,none⟩) (ten fs.length) (ten fs.length)) (rs:=fun y=>[.row 3 1 (some ⟨y,0,none⟩) (ten fs.length) (ten fs.length) (zis (tabK (ten fs.length) (cods fs.length []) 0))]) J J F.ent76 (fun a w ha=>(zGa (l:=[]) (A:=none) (c:=0) hc.f3 (fun _ h=>nomatch h) (by simp) w ⟨fun h=>absurd h (Nat.lt_irrefl _),fun _ h=>nomatch h⟩).mono (fun e w' h=>by obtain⟨b,h1,h2⟩:=h;exact⟨b,trivial,h1,h2⟩)) ?_)));rintro b30 -;dsimp only[List.cons_append,List.nil_append];refine lax J J (zG (csr (lax J J (zQ (wK 112 2 (qU (G:=Nat×Option Addr×Nat×List MZ) (fun g=>g.1<=x.2.2.length∧g.2.2.2.reverse.map (·.2.2)=fndL fs kiln sg (lmor x) g.1) (fun g=>x.2.2.length-g.1) (fun g=>[(1,pt b1),(3,.slice oA LS.length oc),(4,.slice A4 S.length c4),(5,.int .i64 (d:Int)),(6,.slice g.2.1 g.2.2.2.length g.2.2.1),(7,.slice (some ⟨b30,0,none⟩) (ten fs.length) (ten fs.length)),(8,.int .i64 (g.1:Int))]) (fun g=>.row 112 2 g.2.1 g.2.2.2.length g.2.2.1 (g.2.2.2.reverse.flatMap (mmc fs.length))::.row 3 1 (some ⟨b30,0,none⟩) (ten fs.length) (ten fs.length) (zis (tabK (ten fs.length) (cods fs.length g.2.2.2.reverse) g.2.2.2.length))::.row 109 1 oA LS.length oc (LS.reverse.map lcell)::.blk b1 (CO fA fs.length fc kiln dA days.length dc 25)::.row 23 1 A4 S.length c4 (S.reverse.map mcell)::(g.2.2.2.flatMap (mmr fs.length)++(LS.flatMap (lrow fs.length)++S.map mrow))) (0,none,0,[]) ⟨Nat.zero_le _,rfl⟩ sbn pkk ?_))))));rintro⟨i,A6,c6,R⟩ ⟨hi0,hR⟩;dsimp only at hi0 hR ⊢;refine zG (csr (zA J J (zA J J (zA J J (jO (j:=d) J (show _=some (Value.slice (some ⟨g3,0,none⟩) LS.length oc) from by rw[<-hg3];rfl) J Tryz.underlying104 F.ti109 J om (jM (v:=.slice x.1 x.2.2.length x.2.1) J J F.one109 (fun a w ha=>jQ ha (InR.mem (A:=oA)) hg3 (zo1 (yM hx))) (jR J J Tryz.underlying109 (zE J J J jY ?_))))))))
  refine lnx (zK J (fun hc1=>?_) (fun hc1=>?_))
  ·have hi:i<x.2.2.length:=om;obtain⟨m,hm⟩:∃y,x.2.2.reverse[i]?=some y:=⟨_,List.getElem?_eq_getElem (by simp;omega)⟩;have hmx:m∈x.2.2:=List.mem_reverse.1 (List.mem_of_getElem? hm);have hml:(lmor x)[i]?=some m.2.2:=by unfold lmor;rw[List.getElem?_map,hm];rfl
   obtain⟨hmok,hmth⟩:=hxok m hmx;obtain⟨⟨mA,mc⟩,⟨vA,vc⟩,mo⟩:=m;dsimp only at hml hmok hmth;refine zO (zD (zG (zQ (csr (yD (fun a w ha=>vN (ha.own _ ((show ∀r∈lrow fs.length x,r∈_ from (by intro r hr;repeat (first|exact List.mem_append_right _ (List.mem_append_left _ (List.mem_flatMap.2 ⟨x,hxL,hr⟩))|apply List.Mem.tail))) _ (List.mem_cons_self ..))) om) ?_)))));rintro⟨gx,hgx⟩;refine lax J J (zQ (qU (G:=Nat×Option Addr×Nat×List MZ) (fun g=>g.1<=S.length∧g.2.2.2.reverse.map (·.2.2)=(candL fs kiln sg mo ((exts [] fs.length).take g.1)).foldl addM (fndL fs kiln sg (lmor x) i)) (fun g=>S.length-g.1) (fun g=>[(1,pt b1),(3,.slice oA LS.length oc),(4,.slice A4 S.length c4),(5,.int .i64 (d:Int)),(6,.slice g.2.1 g.2.2.2.length g.2.2.1),(7,.slice (some ⟨b30,0,none⟩) (ten fs.length) (ten fs.length)),(8,.int .i64 (i:Int)),(9,.int .i64 (g.1:Int))]) (fun g=>.row 112 2 g.2.1 g.2.2.2.length g.2.2.1 (g.2.2.2.reverse.flatMap (mmc fs.length))::.row 3 1 (some ⟨b30,0,none⟩) (ten fs.length) (ten fs.length) (zis (tabK (ten fs.length) (cods fs.length g.2.2.2.reverse) g.2.2.2.length))::.row 109 1 oA LS.length oc (LS.reverse.map lcell)::.blk b1 (CO fA fs.length fc kiln dA days.length dc 25)::.row 23 1 A4 S.length c4 (S.reverse.map mcell)::(g.2.2.2.flatMap (mmr fs.length)++(LS.flatMap (lrow fs.length)++S.map mrow))) (0,A6,c6,R) ⟨Nat.zero_le _,by simp[candL,hR]⟩ sbn pkk ?_));rintro⟨k,A6,c6,R⟩ ⟨hk0,hR⟩;dsimp only at hk0 hR ⊢;refine zG (csr (zA J J (zA J J (jR J J U35 (zE J J J jY ?_)))))
   refine lnx (zK J (fun hc2=>?_) (fun hc2=>?_))
   ·have hk:k<S.length:=om;obtain⟨s,hs⟩:∃y,S.reverse[k]?=some y:=⟨_,List.getElem?_eq_getElem (by simp;omega)⟩;have hsS:s∈S:=List.mem_reverse.1 (List.mem_of_getElem? hs);have hsl:(exts [] fs.length)[k]?=some s.2.2:=qR hS hs;have hsn:s.2.2.length=fs.length:=by rw[vW _ _ _ (List.mem_of_getElem? hsl),List.length_nil];omega
    have hRa:∀y∈R.reverse.map (·.2.2),MOk y∧Thin fs.length y:=by
     rw[hR];refine zMa _ _ (jA1 hc.f3 hc.ff fun z hz=>?_) (zO9 hc.f3 hc.ff hmok hmth fun a ha=>zFu a (List.mem_of_mem_take ha));rw[hxm] at hz;exact⟨(jGf.1 hz).ok hc.f3 hc.ff _ _,(jGf.1 hz).thin hc.f3 hc.ff _ _⟩
    have hRn:R.length<=1000:=by
     have h:=zIb (l:=R.reverse.map (·.2.2)) (by rw[hR];exact zCm _ _ zUi) fun y hy=>(hRa y hy).1;simpa using h
    refine zO (zD (zG (zQ (zG ?_))));rcases hD:dayE fs kiln mo s.2.2 sg with ⟨e,m1⟩
    obtain rfl|⟨er,rfl⟩:e=0∨∃er,e=er+1:=by
     cases e with
     | zero=>exact .inl rfl
     | succ er=>exact .inr ⟨er,rfl⟩
    ·refine qF (G:=Nat×(Option Addr×Nat)×(Option Addr×Nat)) (fun _=>True) (fun g=>[(10,.pointer (some ⟨g.1,0,none⟩)),(11,.int .i64 0),(1,pt b1),(3,.slice oA LS.length oc),(4,.slice A4 S.length c4),(5,.int .i64 (d:Int)),(6,.slice A6 R.length c6),(7,.slice (some ⟨b30,0,none⟩) (ten fs.length) (ten fs.length)),(8,.int .i64 (i:Int)),(9,.int .i64 (k:Int))]) (fun g=>.row 3 1 g.2.1.1 fs.length g.2.1.2 (ints (sts fs.length m1))::.row 4 1 g.2.2.1 fs.length g.2.2.2 (bools (wbs fs.length m1))::.blk g.1 (.cells #[.slice g.2.1.1 fs.length g.2.1.2,.slice g.2.2.1 fs.length g.2.2.2] 112 (0,0))::.row 112 2 A6 R.length c6 (R.reverse.flatMap (mmc fs.length))::.row 3 1 (some ⟨b30,0,none⟩) (ten fs.length) (ten fs.length) (zis (tabK (ten fs.length) (cods fs.length R.reverse) R.length))::.row 109 1 oA LS.length oc (LS.reverse.map lcell)::.blk b1 (CO fA fs.length fc kiln dA days.length dc 25)::.row 23 1 A4 S.length c4 (S.reverse.map mcell)::(R.flatMap (mmr fs.length)++(LS.flatMap (lrow fs.length)++S.map mrow))) ?_ ?_
     ·refine jS [] F.follows 24 J (fl 24) J (zC 0 J J J (kR J F.agg25 F.ti25) (zC 1 J J J (zP J F.fi25_2 F.ti23) (zC 2 J J J (jJ J F.one23) (anm 3 J J J (zC 4 J J J (jG (j:=d) (show _=some (Value.slice (some ⟨bd,bo,none⟩) days.length dc) from by rw[<-hdA];rfl) J Tryz.underlying23 F.ti3 J hd) (zC 5 J J J (jC (v:=.int .i64 (sg:Int)) J F.one3 (fun a w ha=>ha.old (hcd d _ hsg 0 _ J) hbd)) (anm 6 J J J (anm 7 J J J (zC 8 J J J (jG (j:=d) (show _=some (Value.slice (some ⟨g3,0,none⟩) LS.length oc) from by rw[<-hg3];rfl) J Tryz.underlying104 F.ti109 J om) (zC 9 J J J (jC (v:=.slice x.1 x.2.2.length x.2.1) J F.one109 (fun a w ha=>jQ ha (InR.mem (A:=oA)) hg3 (zo1 (yM hx)))) (anm 10 J J J (zC 11 J J J (jG (j:=i) (show _=some (Value.slice (some ⟨gx,0,none⟩) x.2.2.length x.2.1) from by rw[<-hgx];rfl) J Tryz.underlying109 F.ti112 J hi) ?_))))))))))))
      refine zAo 12 J J J kr kr kr sbl (qW (l:=[.slice mA fs.length mc,.slice vA fs.length vc]) J F.agg112 F.ti112 J (fun a w ha j u hu=>by
       obtain⟨b9,o9,h1,_,h3⟩:=(yI ha (x:=x) (n:=fs.length) (by intro r hr;repeat (first|exact List.mem_append_right _ (List.mem_append_left _ (List.mem_flatMap.2 ⟨x,hxL,hr⟩))|apply List.Mem.tail))).outer (by simp;omega);rw[hgx] at h1
       cases h1
       exact h3 i _ hm j u hu)) J ?_
      refine anm 13 J J J (anm 14 J J J (zC 15 J J J (jG (j:=k) (show _=some (Value.slice (some ⟨g4,0,none⟩) S.length c4) from by rw[<-hg4];rfl) J Tryz.underlying35 F.ti23 J hk) (zC 16 J J J (jC (v:=.slice s.1 s.2.2.length s.2.1) J F.one23 (fun a w ha=>jQ ha (InR.mem (A:=A4)) hg4 (zo1 (xM hs)))) ?_)))
      refine qG 17 21 kr J J J J ?_ ?_
      ·refine kJ (X:=(Option Addr×Nat)×(Option Addr×Nat)) (vs:=[_,_,_,_]) (p:=fun _=>True) (val:=fun y=>.tuple #[.agg (mmc fs.length (y.1,y.2,m1)).toArray,.int .i64 0]) (rs:=fun y=>mmr fs.length (y.1,y.2,m1)) J J F.ent77 (fun a w ha=>(yB (nd:=days.length) (dA:=dA) (dc:=dc) hc.f3 hc.ff hmok hsn om w (hF.later ha.below) ((yI ha (x:=x) (n:=fs.length) (by intro r hr;repeat (first|exact List.mem_append_right _ (List.mem_append_left _ (List.mem_flatMap.2 ⟨x,hxL,hr⟩))|apply List.Mem.tail))).inner _ (List.mem_reverse.2 hmx)) (xR ha (by repeat (first|exact List.mem_append_right _ (List.mem_append_right _ (List.mem_map_of_mem hsS))|apply List.Mem.tail)))).mono (fun e w' h=>by
        rw[hD] at h;rcases h with ⟨_,sA,sc,wA,wc,h1,h2⟩|⟨h0,_⟩
        ·exact⟨((sA,sc),(wA,wc)),trivial,h1,h2⟩
        ·exact absurd J h0)) ?_
       rintro⟨⟨qA,qc⟩,⟨uA,uc⟩⟩ -;dsimp only[mmc,mmr,List.cons_append,List.nil_append];refine zB (anb (anm 18 J J J (zC 19 J J J (jN J J) (zC 20 J J J (jN J J) (an1 21 J (zW J F.ti112 ?_))))));intro b10;exact zB (anb (an1 22 J (zH J J F.ti112 J (zB (anb (zC 23 J J J (jP J) (adn (jK (b10,(qA,qc),(uA,uc)) trivial sbn pkk))))))))
      ·refine zW J F.ti112 ?_;intro b10;refine zB (anb (an1 17 J ?_))
       refine kJ (X:=(Option Addr×Nat)×(Option Addr×Nat)) (vs:=[_,_,_,_]) (p:=fun _=>True) (val:=fun y=>.tuple #[.agg (mmc fs.length (y.1,y.2,m1)).toArray,.int .i64 0]) (rs:=fun y=>mmr fs.length (y.1,y.2,m1)) J J F.ent77 (fun a w ha=>(yB (nd:=days.length) (dA:=dA) (dc:=dc) hc.f3 hc.ff hmok hsn om w (hF.later ha.below) ((yI ha (x:=x) (n:=fs.length) (by intro r hr;repeat (first|exact List.mem_append_right _ (List.mem_append_left _ (List.mem_flatMap.2 ⟨x,hxL,hr⟩))|apply List.Mem.tail))).inner _ (List.mem_reverse.2 hmx)) (xR ha (by repeat (first|exact List.mem_append_right _ (List.mem_append_right _ (List.mem_map_of_mem hsS))|apply List.Mem.tail)))).mono (fun e w' h=>by
        rw[hD] at h;rcases h with ⟨_,sA,sc,wA,wc,h1,h2⟩|⟨h0,_⟩
        ·exact⟨((sA,sc),(wA,wc)),trivial,h1,h2⟩
        ·exact absurd J h0)) ?_
       rintro⟨⟨qA,qc⟩,⟨uA,uc⟩⟩ -;dsimp only[mmc,mmr,List.cons_append,List.nil_append];exact zB (anb (anm 18 J J J (zC 19 J J J (jN J J) (zC 20 J J J (jN J J) (an1 22 J (zH J J F.ti112 J (zB (anb (zC 23 J J J (jP J) (adn (jK (b10,(qA,qc),(uA,uc)) trivial sbn pkk)))))))))))
     ·rintro⟨b10,⟨qA,qc⟩,⟨uA,uc⟩⟩ -;(try dsimp only);refine zD (zG ?_)
      have h1ok:MOk m1:=by
       have h:=(yQ (kiln:=kiln) (acts:=s.2.2) (sugar:=sg) hc.ff hmok om hc.f3).1;rw[hD] at h;exact h
      have h1th:=zJl hc.f3 h1ok hmth hsn hD;have hlt:cdM m1 fs.length<ten fs.length:=zC0 h1ok _;have hst:=zK7 (fs:=fs) (kiln:=kiln) (d:=sg) (m:=mo) hsl;rw[hD,if_pos J] at hst
      rcases zJd (cs:=cods fs.length R.reverse) hlt R.length (by simp[cods]) with ⟨hg,hnew⟩|⟨jj,hj1,hj2,hg⟩
      ·refine zL (zA J J (zE J J J kD (zA J J (zM J J (zA J J (zM J J (zZ J J F.agg112 F.ti112 (zM J J (jE (v:=.int .i64 ((cdM m1 fs.length:Nat):Int)) (vs:=[_]) J J F.ent78 (fun a w ha=>zCd hc.f3 h1ok w (zGe ha (x:=((qA,qc),(uA,uc),m1)) (by intro r hr;simp only[mmr,List.mem_cons,List.not_mem_nil,or_false] at hr;rcases hr with rfl|rfl<;>simp))) (zM J J (jO (j:=cdM m1 fs.length) J J J Tryz.underlying23 F.ti3 J hlt (zM J J (jM (v:=.int .i64 (-1)) J J F.one3 (fun a w ha=>jQ ha (InR.mem (A:=some ⟨b30,0,none⟩)) J (by rw[show 0+cdM m1 fs.length*1=cdM m1 fs.length from by omega];unfold zis;rw[List.getElem?_map,hg];rfl)) ?_)))))))))))));refine zM J J (zE J J J jY (jH J J J (lnx (qE J (csr (zA J J (zZ J J F.agg112 F.ti112 (jE (v:=.int .i64 ((cdM m1 fs.length:Nat):Int)) (vs:=[_]) J J F.ent78 (fun a w ha=>zCd hc.f3 h1ok w (zGe ha (x:=((qA,qc),(uA,uc),m1)) (by intro r hr;simp only[mmr,List.mem_cons,List.not_mem_nil,or_false] at hr;rcases hr with rfl|rfl<;>simp))) (zA J J (jR J J Tryz.underlying109 (jO (j:=cdM m1 fs.length) J J J Tryz.underlying23 F.ti3 J hlt (xZ (A:=some ⟨b30,0,none⟩) (zis (tabK (ten fs.length) (cods fs.length (((qA,qc),(uA,uc),m1)::R).reverse) (R.length+1))) (show _=some (Value.pointer (some ⟨b30,0+cdM m1 fs.length*1,none⟩)) from rfl) J F.ti3 J (by rw[zHz,zFt];omega) (by rw[show 0+cdM m1 fs.length*1=cdM m1 fs.length from by omega,zHx];have h:=zZd (n:=ten fs.length) (cs:=cods fs.length R.reverse) (c:=cdM m1 fs.length);simp only[cods,List.length_map,List.length_reverse] at h ⊢;rw[<-h,List.reverse_cons,List.map_append];rfl) (lnx (zL (zA J J (zZ J J F.agg112 F.ti112 (yV (vs:=[(0,.agg ([.slice qA fs.length qc,.slice uA fs.length uc]:List Value).toArray)]) [.slice qA fs.length qc,.slice uA fs.length uc] J J Tryz.underlying109 F.ti112 J J J (Lit.agg (l1:=[.slice qA fs.length qc,.slice uA fs.length uc]) J (rfl)) ?_)))))))))))))))));intro b85;refine kI J J J Tryz.underlying109 F.ti112 J J J (by unfold maxLen;omega) om ?_;intro A86 c86;refine zF J J (zB (zJ (zD (zL (zA J J (zE J J J bdO (zF J J (zB ?_))))))));have hnm:m1∉R.reverse.map (·.2.2):=fun hm1=>hnew (by rw[List.take_of_length_le (by simp[cods])];exact (zJq (fun y hy=>hRa _ (List.mem_map_of_mem hy)) h1ok h1th).2 hm1);refine kS (k+1,A86,c86,((qA,qc),(uA,uc),m1)::R) ⟨by (try dsimp only);omega,?_⟩ tdo (by dsimp only;rw[List.length_cons];exact sbn) (by dsimp only;rw[List.length_cons,zZl];simp only[List.flatMap_cons,mmr,mmc,List.cons_append,List.nil_append];exact pkk);dsimp only;rw[hst,List.foldl_append,<-hR,zAq];show _=addM _ m1;unfold addM;rw[if_neg hnm]
      ·refine zL (zA J J (zE J J J kD (zA J J (zM J J (zA J J (zM J J (zZ J J F.agg112 F.ti112 (zM J J (jE (v:=.int .i64 ((cdM m1 fs.length:Nat):Int)) (vs:=[_]) J J F.ent78 (fun a w ha=>zCd hc.f3 h1ok w (zGe ha (x:=((qA,qc),(uA,uc),m1)) (by intro r hr;simp only[mmr,List.mem_cons,List.not_mem_nil,or_false] at hr;rcases hr with rfl|rfl<;>simp))) (zM J J (jO (j:=cdM m1 fs.length) J J J Tryz.underlying23 F.ti3 J hlt (zM J J (jM (v:=.int .i64 (jj:Int)) J J F.one3 (fun a w ha=>jQ ha (InR.mem (A:=some ⟨b30,0,none⟩)) J (by rw[show 0+cdM m1 fs.length*1=cdM m1 fs.length from by omega];unfold zis;rw[List.getElem?_map,hg];rfl)) ?_)))))))))))));refine zM J J (zE J J J jY ?_)
       refine jH J J J (lnx (zK J (fun hc3=>?_) (fun hc3=>?_)))
       ·omega
        done
       ·refine zO (zJ (zD (zL (zA J J (zE J J J bdO (zF J J (zB ?_)))))));have hm1:m1∈R.reverse.map (·.2.2):=(zJq (fun y hy=>hRa _ (List.mem_map_of_mem hy)) h1ok h1th).1 (List.mem_of_getElem? hj2);refine kS (k+1,A6,c6,R) ⟨by (try dsimp only);omega,?_⟩ tdo sbn pkk;dsimp only;rw[hst,List.foldl_append,<-hR];show _=addM _ m1;unfold addM;rw[if_pos hm1]
    ·refine qF (G:=Nat) (fun _=>True) (fun g=>[(10,pt g),(11,.int .i64 ((er+1:Nat):Int)),(1,pt b1),(3,.slice oA LS.length oc),(4,.slice A4 S.length c4),(5,.int .i64 (d:Int)),(6,.slice A6 R.length c6),(7,.slice (some ⟨b30,0,none⟩) (ten fs.length) (ten fs.length)),(8,.int .i64 (i:Int)),(9,.int .i64 (k:Int))]) (fun g=>.blk g (.cells #[.slice none 0 0,.slice none 0 0] 112 (0,0))::.row 112 2 A6 R.length c6 (R.reverse.flatMap (mmc fs.length))::.row 3 1 (some ⟨b30,0,none⟩) (ten fs.length) (ten fs.length) (zis (tabK (ten fs.length) (cods fs.length R.reverse) R.length))::.row 109 1 oA LS.length oc (LS.reverse.map lcell)::.blk b1 (CO fA fs.length fc kiln dA days.length dc 25)::.row 23 1 A4 S.length c4 (S.reverse.map mcell)::(R.flatMap (mmr fs.length)++(LS.flatMap (lrow fs.length)++S.map mrow))) ?_ ?_
     ·refine jS [] F.follows 24 J (fl 24) J (zC 0 J J J (kR J F.agg25 F.ti25) (zC 1 J J J (zP J F.fi25_2 F.ti23) (zC 2 J J J (jJ J F.one23) (anm 3 J J J (zC 4 J J J (jG (j:=d) (show _=some (Value.slice (some ⟨bd,bo,none⟩) days.length dc) from by rw[<-hdA];rfl) J Tryz.underlying23 F.ti3 J hd) (zC 5 J J J (jC (v:=.int .i64 (sg:Int)) J F.one3 (fun a w ha=>ha.old (hcd d _ hsg 0 _ J) hbd)) (anm 6 J J J (anm 7 J J J (zC 8 J J J (jG (j:=d) (show _=some (Value.slice (some ⟨g3,0,none⟩) LS.length oc) from by rw[<-hg3];rfl) J Tryz.underlying104 F.ti109 J om) (zC 9 J J J (jC (v:=.slice x.1 x.2.2.length x.2.1) J F.one109 (fun a w ha=>jQ ha (InR.mem (A:=oA)) hg3 (zo1 (yM hx)))) (anm 10 J J J (zC 11 J J J (jG (j:=i) (show _=some (Value.slice (some ⟨gx,0,none⟩) x.2.2.length x.2.1) from by rw[<-hgx];rfl) J Tryz.underlying109 F.ti112 J hi) ?_))))))))))))
      refine zAo 12 J J J kr kr kr sbl (qW (l:=[.slice mA fs.length mc,.slice vA fs.length vc]) J F.agg112 F.ti112 J (fun a w ha j u hu=>by
       obtain⟨b9,o9,h1,_,h3⟩:=(yI ha (x:=x) (n:=fs.length) (by intro r hr;repeat (first|exact List.mem_append_right _ (List.mem_append_left _ (List.mem_flatMap.2 ⟨x,hxL,hr⟩))|apply List.Mem.tail))).outer (by simp;omega);rw[hgx] at h1
       cases h1
       exact h3 i _ hm j u hu)) J ?_
      refine anm 13 J J J (anm 14 J J J (zC 15 J J J (jG (j:=k) (show _=some (Value.slice (some ⟨g4,0,none⟩) S.length c4) from by rw[<-hg4];rfl) J Tryz.underlying35 F.ti23 J hk) (zC 16 J J J (jC (v:=.slice s.1 s.2.2.length s.2.1) J F.one23 (fun a w ha=>jQ ha (InR.mem (A:=A4)) hg4 (zo1 (xM hs)))) ?_)))
      refine qG 17 21 kr J J J J ?_ ?_
      ·refine jE (v:=.tuple #[.agg ([.slice none 0 0,.slice none 0 0]:List Value).toArray,.int .i64 ((er+1:Nat):Int)]) (vs:=[_,_,_,_]) J J F.ent77 (fun a w ha=>(yB (nd:=days.length) (dA:=dA) (dc:=dc) hc.f3 hc.ff hmok hsn om w (hF.later ha.below) ((yI ha (x:=x) (n:=fs.length) (by intro r hr;repeat (first|exact List.mem_append_right _ (List.mem_append_left _ (List.mem_flatMap.2 ⟨x,hxL,hr⟩))|apply List.Mem.tail))).inner _ (List.mem_reverse.2 hmx)) (xR ha (by repeat (first|exact List.mem_append_right _ (List.mem_append_right _ (List.mem_map_of_mem hsS))|apply List.Mem.tail)))).mono (fun e w' h=>by
        rw[hD] at h;rcases h with ⟨h0,_⟩|⟨_,h1,h2⟩
        ·exact absurd h0 (Nat.succ_ne_zero er)
        ·exact⟨h1,h2⟩)) ?_
       refine zB (anb (anm 18 J J J (zC 19 J J J (jN J J) (zC 20 J J J (jN J J) (an1 21 J (zW J F.ti112 ?_))))));intro b10;exact zB (anb (an1 22 J (zH J J F.ti112 J (zB (anb (zC 23 J J J (jP J) (adn (jK b10 trivial sbn pkk))))))))
      ·refine zW J F.ti112 ?_;intro b10;refine zB (anb (an1 17 J ?_))
       refine jE (v:=.tuple #[.agg ([.slice none 0 0,.slice none 0 0]:List Value).toArray,.int .i64 ((er+1:Nat):Int)]) (vs:=[_,_,_,_]) J J F.ent77 (fun a w ha=>(yB (nd:=days.length) (dA:=dA) (dc:=dc) hc.f3 hc.ff hmok hsn om w (hF.later ha.below) ((yI ha (x:=x) (n:=fs.length) (by intro r hr;repeat (first|exact List.mem_append_right _ (List.mem_append_left _ (List.mem_flatMap.2 ⟨x,hxL,hr⟩))|apply List.Mem.tail))).inner _ (List.mem_reverse.2 hmx)) (xR ha (by repeat (first|exact List.mem_append_right _ (List.mem_append_right _ (List.mem_map_of_mem hsS))|apply List.Mem.tail)))).mono (fun e w' h=>by
        rw[hD] at h;rcases h with ⟨h0,_⟩|⟨_,h1,h2⟩
        ·exact absurd h0 (Nat.succ_ne_zero er)
        ·exact⟨h1,h2⟩)) ?_
       exact zB (anb (anm 18 J J J (zC 19 J J J (jN J J) (zC 20 J J J (jN J J) (an1 22 J (zH J J F.ti112 J (zB (anb (zC 23 J J J (jP J) (adn (jK b10 trivial sbn pkk)))))))))))
     ·rintro b10 -;(try dsimp only);refine zD (csr (zA J J (zE J J J kD (zA J J (zR J J J (zR J J J (zR J J J (zR J J J (zR J J J (zR J J J (jU J J J (lnx (kL J (zO (zJ (zD (zL (zA J J (zE J J J bdO (zF J J (zB ?_)))))))))))))))))))));have hst:=zK7 (fs:=fs) (kiln:=kiln) (d:=sg) (m:=mo) hsl;rw[hD,if_neg (Nat.succ_ne_zero er),List.append_nil] at hst;refine kS (k+1,A6,c6,R) ⟨by (try dsimp only);omega,by dsimp only;rw[hst,hR]⟩ tdo sbn pkk
   ·obtain rfl:k=S.length:=om;rw[List.take_of_length_le (by rw[vC,hSl];exact Nat.le_refl _),<-zV1 hml] at hR;refine jV (zN (zN (zY (zJ (zD (zL (zA J J (zE J J J bdO (zF J J (zB (kS (i+1,A6,c6,R) ⟨by (try dsimp only);omega,hR⟩ tdo sbn pkk)))))))))))
  ·obtain rfl:i=x.2.2.length:=om;rw[<-vM x,zX8,hxm] at hR;refine jV (zN (zN (zY (zD (zL (zA J J (zA J J (kB (vs:=[(0,_)]) J J U104 F.ti109 J J J ?_))))))));intro b89;refine kI J J J Tryz.underlying104 F.ti109 J J J (by unfold maxLen;omega) om ?_;intro A90 c90;refine zF J J (zB (zJ (zD (zL (zA J J (zE J J J bdO (zF J J (zB (kS (d+1,A90,c90,(A6,c6,R)::LS) ⟨by (try dsimp only);omega,?_⟩ tdo (by dsimp only;rw[List.length_cons];exact sbn) (by dsimp only;rw[List.length_cons,zAq,List.flatMap_cons,List.append_assoc];simp only[lrow,lcell,List.cons_append];exact pkk))))))))));dsimp only;rw[zAq,hLS,zLm (k:=d+1),show lmor (A6,c6,R)=_ from hR]
   congr 2
   rw[List.take_add_one,hsg];exact zMn.symm
 ·obtain rfl:d=days.length:=om;exact jV (zN (zN (zY (zD (csr (zA J J (lax J J (zV (zX J (rsO J J) (fun a w ha=>⟨oA,oc,LS,hLS,rfl,ha.grown (.cons_cons _ (.cons _ (.cons _ (List.sublist_append_left _ _))))⟩))))))))))

end
section
variable {A:Option Addr} {w:World}
theorem zOp {n hi:Int} (h:szd n 1 hi=0):1<=n∧n<=hi:=by
 unfold szd at h
 split at h
 ·omega
 ·split at h<;>omega
theorem zW1 {f:FltZ} (h:chkF f=0):∃g:Flt,FltOk g∧g.toZ=f:=by
 obtain⟨p,g,n,wd⟩:=f;unfold chkF btw at h
 split at h
 ·rename_i h1;simp only[Bool.and_eq_true,decide_eq_true_eq] at h1;obtain⟨⟨⟨a1,a2⟩,a3,a4⟩,a5,a6⟩:=h1;refine⟨⟨p.toNat,g.toNat,n.toNat,wd⟩,⟨by dsimp only;omega,by dsimp only;omega,by dsimp only;omega,by dsimp only;omega⟩,?_⟩;unfold Flt.toZ;dsimp only;rw[Int.toNat_of_nonneg om,Int.toNat_of_nonneg om,Int.toNat_of_nonneg om]
 ·cases h
theorem zQd:∀(l:List FltZ),(∀f∈l,chkF f=0)->∃m:List Flt,(∀f∈m,FltOk f)∧m.map Flt.toZ=l
 | [],_=>⟨[],fun _ h=>(nomatch h),rfl⟩
 | f::l,h=>by
  obtain⟨g,hg,rfl⟩:=zW1 (h f (List.mem_cons_self ..));obtain⟨m,hm,rfl⟩:=zQd l fun x hx=>h x (List.mem_cons_of_mem _ hx);refine⟨g::m,fun x hx=>?_,rfl⟩
  rcases List.mem_cons.1 hx with rfl|hx
  ·exact hg
  ·exact hm x hx
theorem zPn {hi:Nat}:∀(l:List Int),(∀n∈l,btw n 0 hi=true)->∃m:List Nat,(∀n∈m,n<=hi)∧toZs m=l
 | [],_=>⟨[],fun _ h=>(nomatch h),rfl⟩
 | n::l,h=>by
  have h0:=h n (List.mem_cons_self ..);unfold btw at h0;simp only[Bool.and_eq_true,decide_eq_true_eq] at h0;obtain⟨m,hm,rfl⟩:=zPn l fun x hx=>h x (List.mem_cons_of_mem _ hx)
  refine⟨n.toNat::m,fun x hx=>?_,?_⟩
  ·rcases List.mem_cons.1 hx with rfl|hx
   ·omega
   ·exact hm x hx
  ·show ((n.toNat:Nat):Int)::toZs m=_;rw[Int.toNat_of_nonneg h0.1]
theorem zD7 {fz:List FltZ} {kz:Int} {dz:List Int} (h:chk fz kz dz=0):∃fs kiln days,ChV fs kiln days∧fs.map Flt.toZ=fz∧((kiln:Nat):Int)=kz∧toZs days=dz:=by
 unfold chk at h
 split at h
 ·rename_i h1;exact absurd h h1
 rename_i h1
 split at h
 ·cases h
 rename_i h2
 split at h
 ·cases h
 rename_i h3
 split at h
 ·rename_i h4;exact absurd h h4
 rename_i h4
 split at h
 ·cases h
 rename_i h5;obtain⟨a1,a2⟩:=zOp (Decidable.not_not.1 h1);obtain⟨b1,b2⟩:=zOp (Decidable.not_not.1 h4)
 obtain⟨fs,hf,rfl⟩:=zQd fz fun f hf=>by
  rcases Nat.eq_zero_or_pos (chkF f) with h|h
  ·exact h
  ·exact absurd (List.any_eq_true.2 ⟨f,hf,by simp;omega⟩) h2
 obtain⟨days,hd,rfl⟩:=zPn (hi:=12) dz fun n hn=>by
  cases hb:btw n 0 12 with
  | true=>rfl
  | false=>exact absurd (List.any_eq_true.2 ⟨n,hn,by rw[hb];rfl⟩) h5
 have hk:0<=kz∧kz<=3:=by
  cases hb:btw kz 0 3 with
  | false=>exact absurd hb h3
  | true =>
   unfold btw at hb;simpa using hb
 rw[List.length_map] at a1 a2;have e:(toZs days).length=days.length:=by unfold toZs;rw[List.length_map]
 rw[e] at b1 b2;exact⟨fs,kz.toNat,days,⟨by omega,by omega,hf,by omega,by omega,by omega,hd⟩,rfl,Int.toNat_of_nonneg hk.1,rfl⟩
theorem RdL.unmapped {α β:Type} {cells:β->List Value} {cl:α->List Value} {size:Nat} {l:List α} (f:α->β) (h:RdL cells size w A (l.map f)) (hc:∀x,cells (f x)=cl x):RdL cl size w A l:=fun hl=>by
 obtain⟨b,o,h1,h2,h3⟩:=h (by simpa using hl);refine⟨b,o,h1,h2,fun k x hk j u hu=>h3 k (f x) (by rw[List.getElem?_map,hk];rfl) j u (by rw[hc];exact hu)⟩
theorem zKc {fs:List Flt} (h:RdL FltZ.cells 4 w A (fs.map Flt.toZ)):RdL Flt.cells 4 w A fs:=RdL.unmapped Flt.toZ h fun _=>rfl
theorem zJ6 {days:List Nat} (h:RdL zcell 1 w A (toZs days)):RdL ncell 1 w A days:=RdL.unmapped (fun (n:Nat)=>(n:Int)) h fun _=>rfl
theorem yR (l:List Nat):(toZs l).length=l.length:=List.length_map ..
end
section
def FailsQ (fs:List Flt) (kiln:Nat) (days:List Nat) (n e:Nat):Prop:=∃d,d<=days.length∧(∀j,j<d->(bstA fs kiln (days.take (j+1))).is=true)∧(d<days.length->(bstA fs kiln (days.take (d+1))).is=false)∧n=(if d<days.length then d else 0)∧e=(if d<days.length then 0 else 11)
def RawP {α:Type} (P:List Flt->Nat->List Nat->α->Prop) (err:Nat->α) (fz:List FltZ) (kz:Int) (dz:List Int) (x:α):Prop :=
 (chk fz kz dz≠0∧x=err (chk fz kz dz))∨∃fs kiln days,ChV fs kiln days∧fs.map Flt.toZ=fz∧((kiln:Nat):Int)=kz∧toZs days=dz∧P fs kiln days x
theorem zR6:∀{l m:List Flt},l.map Flt.toZ=m.map Flt.toZ->l=m
 | [],[],_=>rfl
 | [],_::_,h=>nomatch h
 | _::_,[],h=>nomatch h
 | x::l,y::m,h=>by
  rw[List.map_cons,List.map_cons] at h;injection h with h1 h2;rw[zR6 h2]
  congr 1
  obtain⟨a,b,c,d⟩:=x;obtain⟨a',b',c',d'⟩:=y;unfold Flt.toZ at h1;injection h1 with e1 e2 e3 e4;dsimp only at e1 e2 e3 e4;rw[Int.ofNat_inj.1 e1,Int.ofNat_inj.1 e2,Int.ofNat_inj.1 e3,e4]
theorem zOd:∀{l m:List Nat},toZs l=toZs m->l=m
 | [],[],_=>rfl
 | [],_::_,h=>nomatch h
 | _::_,[],h=>nomatch h
 | x::l,y::m,h=>by
  unfold toZs at h;rw[List.map_cons,List.map_cons] at h;injection h with h1 h2;rw[zOd (l:=l) (m:=m) h2,Int.ofNat_inj.1 h1]
theorem RawP.uniq {α:Type} {P:List Flt->Nat->List Nat->α->Prop} {err:Nat->α} {fz:List FltZ} {kz:Int} {dz:List Int} {x y:α} (hP:∀fs kiln days,ChV fs kiln days->P fs kiln days x->P fs kiln days y->x=y) (h:RawP P err fz kz dz x) (h':RawP P err fz kz dz y):x=y:=by
 rcases h with ⟨h1,h2⟩|⟨fs,kiln,days,hc,h1,h2,h3,h4⟩<;>rcases h' with ⟨h1',h2'⟩|⟨fs',kiln',days',hc',h1',h2',h3',h4'⟩
 ·rw[h2,h2']
 ·subst h1' h2' h3';exact absurd (chk0 hc') h1
 ·subst h1 h2 h3;exact absurd (chk0 hc) h1'
 ·subst h1 h2 h3;obtain rfl:=zR6 h1';obtain rfl:=zOd h3';obtain rfl:=Int.ofNat_inj.1 h2';exact hP _ _ _ hc h4 h4'
end
section
variable [I:Sys]
theorem F.ent73:Enters TP 73:=jD Tryz.func73 rfl kr
theorem F.ent34:Enters TP 34:=jD Tryz.func34 rfl kr
end
section
def askE (c:Nat) (known:Bool):Nat:=if c≠0 then c else if known then 0 else 3
theorem zDv {c:Nat} {k:Bool} (h:c≠0):askE c k=c:=if_pos h
theorem zDp {d n:Nat} (h:d<n):btw (d:Int) 0 ((n:Int)-1)=true:=by unfold btw;simp;omega
end
section
variable [I:Sys]
variable {dA fA:Option Addr} {dc fc:Nat} {dz:List Int} {fz:List FltZ} {kz:Int}
theorem F.ent71:Enters TP 71:=jD Tryz.func71 rfl kr
theorem jGh {d:Int} (hfl:fz.length<1000000) (hdl:dz.length<1000000) (w:World) (hF:RdL FltZ.cells 4 w fA fz) (hD:RdL zcell 1 w dA dz):Calls TP 90 #[.agg (CY fA fz.length fc kz dA dz.length dc).toArray,.int .i64 d] w fun e w'=>e=.returned (.int .i64 ((askE (chk fz kz dz) (btw d 0 ((dz.length:Int)-1)):Nat):Int))∧Grew w w' []:=by
 refine enter (N:=18) [(0,.agg (CY fA fz.length fc kz dA dz.length dc).toArray),(1,.int .i64 d)] Tryz.func90 J Tryz.ntmps90 J J (csr (jT J J ?_));intro b2;refine lax J J (zG (csr (zZ J J F.agg25 F.ti25 (jE (v:=.int .i64 ((chk fz kz dz:Nat):Int)) (vs:=[_]) J J F.ent33 (fun a w ha=>zAk hfl hdl w (hF.later ha.below) (hD.later ha.below)) (lax J J (csr (zA J J (zE J J J kT ?_))))))))
 refine lnx (zK J (fun hc0=>?_) (fun hc0=>?_))
 ·exact csr (zA J J (lax J J (zV (zU (zX J (rsO J J) (fun a w ha=>⟨by rw[zDv om],ha.grown nsl⟩))))))
 ·have hk:chk fz kz dz=0:=om;rw[hk];refine zO (zD (zG (csr (zA J J (zI J J F.fi25_2 F.ti23 (zS J J F.one23 (jR J J Tryz.underlying23 (zE (v:=.int .i64 ((dz.length:Int)-1)) J J J (fun w=>qK w (by rw[kC _ om om])) (jE (v:=.bool (btw d 0 ((dz.length:Int)-1))) (vs:=[_,_,_]) J J F.ent68 (fun a w ha=>yT d 0 ((dz.length:Int)-1) w) ?_)))))))))
  refine qC J J (lnx (kH J (fun hc1=>?_) (fun hc1=>?_)))
  ·exact csr (lax J J (zV (zU (zX J (rsO J J) (fun a w ha=>⟨by rw[show btw d 0 ((dz.length:Int)-1)=false from by simpa using hc1];rfl,ha.grown nsl⟩)))))
  ·exact zO (zD (csr (lax J J (zV (zX J (rsO J J) (fun a w ha=>⟨by rw[show btw d 0 ((dz.length:Int)-1)=true from by simpa using hc1];rfl,ha.grown nsl⟩))))))

theorem zI7 (hfl:fz.length<1000000) (hdl:dz.length<1000000) {kn:Bool} (w:World) (hF:RdL FltZ.cells 4 w fA fz) (hD:RdL zcell 1 w dA dz):Calls TP 71 #[.agg (CY fA fz.length fc kz dA dz.length dc).toArray,.bool kn] w fun e w'=>e=.returned (.int .i64 ((askE (chk fz kz dz) kn:Nat):Int))∧Grew w w' []:=by
 refine enter (N:=13) [(0,.agg (CY fA fz.length fc kz dA dz.length dc).toArray),(1,.bool kn)] Tryz.func71 J Tryz.ntmps71 J J (csr (jT J J ?_));intro b2;refine lax J J (zG (csr (zZ J J F.agg25 F.ti25 (jE (v:=.int .i64 ((chk fz kz dz:Nat):Int)) (vs:=[_]) J J F.ent34 (fun a w ha=>zJa hfl hdl w (hF.later ha.below) (hD.later ha.below)) (lax J J (csr (zA J J (zE J J J kT ?_))))))))
 refine lnx (zK J (fun hc0=>?_) (fun hc0=>?_))
 ·exact csr (zA J J (lax J J (zV (zU (zX J (rsO J J) (fun a w ha=>⟨by rw[zDv om],ha.grown nsl⟩))))))
 ·have hk:chk fz kz dz=0:=om;rw[hk]
  refine zO (zD (zG (csr (zA J J (qC J J (lnx (kH J (fun hc1=>?_) (fun hc1=>?_))))))))
  ·exact csr (lax J J (zV (zU (zX J (rsO J J) (fun a w ha=>⟨by rw[show kn=false from by simpa using hc1];rfl,ha.grown nsl⟩)))))
  ·exact zO (zD (csr (lax J J (zV (zX J (rsO J J) (fun a w ha=>⟨by rw[show kn=true from by simpa using hc1];rfl,ha.grown nsl⟩))))))

end
end Go.Proofs.YteppiphdbondeaaGreat.N
