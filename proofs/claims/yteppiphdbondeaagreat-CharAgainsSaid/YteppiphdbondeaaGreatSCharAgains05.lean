/- Parts of the walk of the law CharAgains: Rng, Sx4, Sx5, ChP, T1, ChP2, T2, T3, SxI, ChI, ChP3, T4, ChT, T5, RngO, SxJ, T6, T7, RngP, ChW, T8, G3, MapK. -/
import Derived.Test.YteppiphdbondeaaGreatSCharAgains04
import Derived.Test.YteppiphdbondeaaGreatSCharAgains01
import Derived.RangeFuncRecord
import Derived.DeepKeys3
import Derived.Test.YteppiphdbondeaaGreatProg
import Derived.Test.YteppiphdbondeaaGreatSCharAgains03
import Derived.ArgAppend
import Derived.WideKeyMaps
import Derived.Maps.RangeRun
namespace Go.Proofs.YteppiphdbondeaaGreat.N
set_option linter.unusedSectionVars false
open Go.RowKit
section
variable [I:Sys]
variable {B N:Nat} {P:Program} {R:Ending->World->Prop} {ds:List Deferred} {rec:Loop} {w0:World}
section
variable {C:Ctx} {fr frC:LV} {hp hp':List Res} {a:Act} {w:World} {ops:Array Oper} {Q:QT} {rest:List Oper}
 {d:Nat} {ty:TypeId} {pos:String} {after:Array Edge} {r:Nat}
theorem At.putRec {rec':Loop} (ha:At C fr (.blk r (.loop rec)::hp) a w):At C fr (.blk r (.loop rec')::hp) a (w.putObj r (.loop rec')):=by
 have hb:=ha.own _ (List.mem_cons_self ..);refine ha.turn (Upd.head hp) ⟨rfl,rfl,rfl,by simp,fun k _ hk=>World.putObj_heap_other (fun e=>hk (by rw[e];rfl))⟩ ⟨hb.1,?_⟩ (fun k hk=>.inl hk);exact World.putObj_heap_same (Array.getElem?_eq_some_iff.1 hb.2).1
def YieldAt (P:Program) (r:Nat) (args:Array Value) (v:World) (R:Ending->World->Prop):Prop :=
 ∃rec:Loop,v.heap[r]?=some (.loop rec)∧args.size=rec.params.size ∧
  Rounds P r rec.fn ((rec.params.zip args).foldl (fun t (x:Tmp×Value)=>t.setIfInBounds x.1 x.2) rec.tmps) rec.assign rec.body v R
theorem YieldAt.mono {args:Array Value} {v:World} {R':Ending->World->Prop} (h:YieldAt P r args v R) (hr:∀e v',R e v'->R' e v'):YieldAt P r args v R':=by
 obtain⟨rec,h1,h2,h3⟩:=h;exact⟨rec,h1,h2,h3.mono hr⟩
omit I in
theorem zTo (r:Nat) (args:Array Value):Tame P (Instr.yield r args):=Tame.bind (zBy r) fun rec=>by
 show Tame P (if args.size≠rec.params.size then _ else _)
 split
 ·exact Tame.bind (yJ _) fun _=>trivial
 ·trivial
theorem zJs {X:Type} {frB:X->List (Nat×Value)} {hp1:X->List Res} {N0:Nat} {ds0:List Deferred} {frI:LV} {hpI:List Res} {aI:Act} {v:Value}
  (ha:At ⟨P,B,w0,N0,ds0⟩ frI (.blk r (.loop rec)::hpI) aI w) (hready:rec.state=.ready) (hps:rec.params=#[d]) (hsz:rec.tmps.size=N) (hd:Nat.blt d N=true) (hsl:∀t u,look frC t=some u->rec.tmps.getD t undef=u)
  (hfa:fits rec.assign=true) (hfb:fits rec.body=true)
  (hassign:∀K:Act->World->Prop,(∀x,Ex ⟨P,B,w0,N,[]⟩ (Exit.then K (fun _ _ _=>False)) .normal (frB x) (.blk r (.loop rec)::hp1 x))->Cod ⟨P,B,w0,N,[]⟩ rec.assign (Exit.then K (fun _ _ _=>False)) ((d,v)::frC) (.blk r (.loop rec)::hpI))
  (hbody:∀x,Cod ⟨P,B,w0,N,[]⟩ rec.body (roundPost P r R) (frB x) (.blk r (.loop {rec with state:=.busy})::hp1 x)):YieldAt P r #[v] w R:=by
 have hl:=(ha.own _ (List.mem_cons_self ..)).2;refine⟨rec,hl,by rw[hps];simp,zPh hfa hfb ?_⟩;have e:(rec.params.zip #[v]).foldl (fun t (x:Tmp×Value)=>t.setIfInBounds x.1 x.2) rec.tmps=rec.tmps.setIfInBounds d v:=by rw[hps];simp
 rw[e];have h0:At ⟨P,B,w0,N,[]⟩ frC (.blk r (.loop rec)::hpI) {tmps:=rec.tmps,defers:=[]} w:=⟨hsz,rfl,hsl,ha.below,ha.base,ha.own,ha.apart⟩;refine hassign _ ?_ _ _ (h0.put (kK hd) v);intro x a w ha v₁ hv;have ha1:=ha.rely hv;exact⟨_,run_beginRound (ha1.own _ (List.mem_cons_self ..)).2 hready,hbody x a _ ha1.putRec⟩
theorem zAz (hready:rec.state=.ready) (hpe:rec.pending=none)
  (k:∀a w,At ⟨P,B,w0,N,ds⟩ fr (.blk r (.loop rec)::hp) a w->R (.returned (.bool true)) w):Ex ⟨P,B,w0,N,ds⟩ (roundPost P r R) .normal fr (.blk r (.loop {rec with state:=.busy})::hp):=by
 intro a w ha v₁ hv;have ha1:=ha.rely hv;obtain⟨st,pe,_,_,_,_,_,_⟩:=rec;simp only at hready hpe;subst hready;subst hpe;exact⟨_,_,run_endRound (P:=P) none (ha1.own _ (List.mem_cons_self ..)).2,k a _ ha1.putRec⟩
def isJump:Exit->Code->Prop
 | .ret,.ret=>True
 | .exit i,.exit j=>i=j
 | _,_=>False
theorem zQx {e:Exit} {j:Code} (hj:isJump e j)
  (k:∀a w,At ⟨P,B,w0,N,ds⟩ fr (.blk r (.loop {rec with state:=.done,pending:=some j})::hp) a w->R (.returned (.bool false)) w):Ex ⟨P,B,w0,N,ds⟩ (roundPost P r R) e fr (.blk r (.loop {rec with state:=.busy})::hp):=by
 intro a w ha
 have key:∀v₁,Rl w v₁->∃x v',(Instr.endRound r (some j)).run P v₁=.ok x v'∧R (.returned x) v':=fun v₁ hv =>
  have ha1:=ha.rely hv
  ⟨_,_,run_endRound (P:=P) (some j) (ha1.own _ (List.mem_cons_self ..)).2,k a _ ha1.putRec⟩
 cases e<;>cases j<;>first|exact hj.elim|exact key|(simp only[isJump] at hj;subst hj;exact key)
theorem zZt {D:Nat} {fn:Func} (e:Exit) (he:e=.ret∨e=.normal) (x:Value)
  (hr:∀a w,At ⟨P,B,w0,N,[{target:=.collected D,args:=#[]}]⟩ fr (.blk D (.deferred none)::hp) a w->ResV P fn a.tmps x w)
  (k:∀a w,At ⟨P,B,w0,N,[{target:=.collected D,args:=#[]}]⟩ fr (.blk D (.deferred none)::hp) a w->R (.returned x) w) :
  Ex ⟨P,B,w0,N,[{target:=.collected D,args:=#[]}]⟩ (bodyPostD P fn R) e fr (.blk D (.deferred (some []))::hp):=by
 intro a w ha
 have key:Leaves P fn a.tmps R a.defers .returning w:=by
  rw[ha.defs];refine zIt (by simp) fun v₁ hv=>?_;have ha1:=ha.rely hv;have hD:=(ha1.own _ (List.mem_cons_self ..)).2
  have at2:At ⟨P,B,w0,N,[{target:=.collected D,args:=#[]}]⟩ fr (.blk D (.deferred none)::hp) a (v₁.putObj D (.deferred none)):=by
   refine ha1.turn (Upd.head _) ⟨rfl,rfl,rfl,by simp,fun k _ hk=>World.putObj_heap_other (fun e=>hk (by rw[e];rfl))⟩ ⟨(ha1.own _ (List.mem_cons_self ..)).1,?_⟩ (fun k hk=>.inl hk);exact World.putObj_heap_same (Array.getElem?_eq_some_iff.1 hD).1
  exact⟨_,run_takeDeferred hD,x,hr a _ at2,k a _ at2⟩
 rcases he with rfl|rfl<;>exact key
end
end
section
variable [I:Sys]
variable {A:Option Addr} {b bytes c cb m n:Nat} {e t:TypeId} {p:Addr} {x y:Operand} {xs:List Value} {z:Value}
def ncell (n:Nat):List Value:=[.int .i64 (n:Int)]
section
variable {C:Ctx} {fr:LV} {hp hp':List Res} {a:Act} {w:World} {ops:Array Oper} {Q:QT} {rest:List Oper}
 {d:Nat} {ty:TypeId} {pos:String} {after:Array Edge}
theorem At.as_row (ha:At C fr hp a w) {b e size:Nat} (hu:Upd (.blk b (.cells ([]:List Value).toArray e (0,0))) (.row e size (some ⟨b,0,none⟩) 0 0 []) hp hp'):At C fr hp' a w:=by
 have hb:=ha.own _ hu.mem;exact ha.turn hu (⟨rfl,rfl,rfl,Nat.le_refl _,fun _ _ _=>rfl⟩:w.grownBy w _) ⟨by simp,.inr ⟨b,0,#[],rfl,hb.1,hb.2,Nat.le_refl _,Nat.zero_le _,by simp,by simp⟩⟩ (fun k hk=>.inl hk)
theorem zBv {l:List Oper} {e:Nat} (size:Nat) (hu:Upd (.blk b (.cells ([]:List Value).toArray e (0,0))) (.row e size (some ⟨b,0,none⟩) 0 0 []) hp hp') (h:Lst C ops Q l fr hp'):Lst C ops Q l fr hp:=fun a w ha=>h a w (ha.as_row hu)
theorem zGo {size:Nat} {news:List Value} {hp':Option Addr->Nat->List Res} (hd:Nat.blt d C.N=true)
  (hx:ev fr x=some (.slice A n c)) (hy:ev fr y=some (.slice (some p) m cb)) (ht:C.P.underlying t=some (.slice e)) (hi:TI C.P e z size bytes) (hzs:z.cells.size=size) (hs0:Nat.blt 0 size=true)
  (hnews:∀a w,At C fr hp a w->∀j u,news[j]?=some u->w.cell? (p.add j)=some u) (hl:news.length=m*size) (ho:∀u∈news,u.oneCell'=true) [hr:InR A e size n c xs hp] [hu:∀A' c',UpR A e size n c xs (.row e size A' (n+m) c' (xs++news)) hp (hp' A' c')]
  (hplace:∀(w:World) (v':Value) (w':World),w.ownsRow C.B e size (.slice A n c) n xs->(∀j u,news[j]?=some u->w.cell? (p.add j)=some u)->(Builtin.append_ #[t,t] ty #[.slice A n c,.slice (some p) m cb]).run C.P w=.ok v' w'->∀k,v'.ownBlock=some k->(Value.slice A n c).ownBlock=some k∨w.heap.size<=k)
  (h63:n+m<=maxLen) (hbytes:(n+m)*bytes<=140737488355328)
  (k:∀A' c',Lst C ops Q rest ((d,.slice A' (n+m) c')::fr) (hp' A' c')) :
  Lst C ops Q (⟨some d,.call {callee:=.builtin .append,args:=#[x,y],argTypes:=#[t,t]},ty,pos,after,none⟩::rest) fr hp:=by
 refine xV J fun a w ha=>?_;obtain⟨i,hi1,hi2,hi3,hi4⟩:=hi;have hown:=ha.own _ hr.mem;subst hi3;subst hi4;obtain⟨v',w',hrun,hown',hg,_⟩:=run_append_own (P:=C.P) w C.B t ty e i z i.size i.bytes ht hi1 hi2 J J hzs (kK hs0) _ n xs hown p m cb news hl (hnews a w ha) ho h63 hbytes ha.base;have hpl:=hplace w v' w' hown (hnews a w ha) hrun;obtain⟨A',c',rfl⟩:=zC6 hown';refine⟨yL fun cs=>by simp only[List.map_toArray,List.map_cons,List.map_nil,ha.eval hx,ha.eval hy];exact zCq ht,?_⟩
 have hr':(execOp a.eval ⟨some d,.call {callee:=.builtin .append,args:=#[x,y],argTypes:=#[t,t]},ty,pos,after,none⟩).run C.P w=.ok (.value (.slice A' (n+m) c')) w':=by
  simp only[execOp,resolve,invoke,builtin,Sem.run_bind,Sem.run_pure,Result.andThen_ok,List.map_toArray,List.map_cons,List.map_nil,ha.eval hx,ha.eval hy,hrun]
 rw[hr'];exact k A' c' _ _ ((ha.turn (hu A' c').upd hg hown' hpl).put (kK hd) _)
theorem zKn {l:List Nat} {hp':Option Addr->Nat->List Res} (hd:Nat.blt d C.N=true)
  (hx:ev fr x=some (.slice A n c)) (hy:ev fr y=some (.slice (some p) m cb)) (ht:C.P.underlying t=some (.slice e)) (hi:TI C.P e z 1 bytes) (hzs:z.cells.size=1)
  (hnews:∀a w,At C fr hp a w->∀j u,(ints l)[j]?=some u->w.cell? (p.add j)=some u) (hl:l.length=m) [hr:InR A e 1 n c xs hp] [hu:∀A' c',UpR A e 1 n c xs (.row e 1 A' (n+m) c' (xs++ints l)) hp (hp' A' c')]
  (h63:n+m<=maxLen) (hbytes:(n+m)*bytes<=140737488355328)
  (k:∀A' c',Lst C ops Q rest ((d,.slice A' (n+m) c')::fr) (hp' A' c')) :
  Lst C ops Q (⟨some d,.call {callee:=.builtin .append,args:=#[x,y],argTypes:=#[t,t]},ty,pos,after,none⟩::rest) fr hp:=by
 have ho:∀u∈ints l,u.oneCell'=true:=by
  intro u hu';obtain⟨n,_,rfl⟩:=List.mem_map.1 hu';simp[Value.oneCell']
 have hi':=hi;obtain⟨i,hi1,hi2,hi3,hi4⟩:=hi';subst hi4;refine zGo hd hx hy ht hi hzs J hnews (by rw[zFv];omega) ho (fun w v' w' hown hn hrun=>?_) h63 hbytes k;exact zDs ht hi1 hi2 (hi3▸hown) (by rw[zFv,hi3];omega) hn ho h63 hbytes hrun
theorem zGs {ct:TypeId} {o:Nat} {cs cs':List Value} {v:Value} (hx:ev fr x=some (.pointer (some ⟨b,o,none⟩))) (hy:ev fr y=some v) (hi:TI C.P t z 1 m) [hc:Cells v [v]]
  (ho:o<cs.length) (hcs:cs'=cs.set o v) (hu:Upd (.blk b (.cells cs.toArray ct (0,0))) (.blk b (.cells cs'.toArray ct (0,0))) hp hp')
  (k:Lst C ops Q rest fr hp'):Lst C ops Q (⟨none,.store t x y,ty,pos,after,none⟩::rest) fr hp:=by
 obtain⟨i,hi,_,hsz,_⟩:=hi;refine zD2 (fun _ _ _=>zB1 ..) (fun a w ha=>?_) k;have hs:Splice cs o [v] cs':=⟨by rw[hcs,List.set_eq_take_append_cons_drop,if_pos ho,List.append_assoc];rfl,by simp;omega⟩;obtain⟨w',h1,h2,h3⟩:=zDe hs (ha.mem_blk hu.mem) hc.one C.P;refine⟨w',?_,ha.turn hu h3 ⟨(ha.own _ hu.mem).1,h2⟩ (fun k hk=>.inl hk)⟩;simp[execOp,ha.eval hx,ha.eval hy,Instr.storeAt,Instr.sureAddr,storeVar,sizeOf,typeInfo,hi,hc.eq,hsz,h1]
end
theorem zG5 (l:List Nat):ints l=l.flatMap ncell:=by
 induction l with
 | nil=>rfl
 | cons n l ih=>rw[List.flatMap_cons,<-ih];rfl
end
section
variable [I:Sys]
variable {C:Ctx} {fr:LV} {hp:List Res} {ops:Array Oper} {Q:QT} {rest:List Oper} {d:Nat} {ty:TypeId} {pos:String} {after:Array Edge}
theorem RdL.take {α:Type} {cells:α->List Value} {size:Nat} {w:World} {A:Option Addr} {l:List α} (h:RdL cells size w A l) (n:Nat):RdL cells size w A (l.take n):=fun hl=>by
 rw[List.length_take] at hl;obtain⟨b,o,h1,h2,h3⟩:=h om;refine⟨b,o,h1,h2,fun k x hk j u hu=>h3 k x ?_ j u hu⟩;rw[List.getElem?_take] at hk
 split at hk
 ·exact hk
 ·cases hk
end
section
structure Flt where
 power:Nat
 gain:Nat
 now:Nat
 washed:Bool
 deriving DecidableEq,Inhabited
def Flt.cells (f:Flt):List Value:=[.int .i64 (f.power:Int),.int .i64 (f.gain:Int),.int .i64 (f.now:Int),.bool f.washed]
def FltOk (f:Flt):Prop:=1<=f.power∧f.power<=4∧f.gain<=f.power∧f.now<=f.power
structure Mor where
 s:List Nat
 w:Nat
 deriving DecidableEq,Inhabited
abbrev O5 (a b c w d t:Nat):Obj:=.cells #[.int .i64 (a:Int),.int .i64 (b:Int),.int .i64 (c:Int),.int .u8 (w:Int),.int .i64 (d:Int)] t (0,0)
abbrev OO (a b:Nat) (c:Bool) (t:Nat):Obj:=.cells #[.int .i64 (a:Int),.int .i64 (b:Int),.bool c] t (0,0)
def Mor.cells (m:Mor):List Value:=m.s.map (fun (x:Nat)=>Value.int .i64 (x:Int))++[.int .u8 (m.w:Int)]
def Mor.val (m:Mor):Value:=.agg m.cells.toArray
structure MOk (m:Mor):Prop where
 three:m.s.length=3
 small:∀x∈m.s,x<=4
 w:m.w<8
def wWith (w n:Nat):Nat:=w ||| 2^n
def wOut (w n:Nat):Nat:=w &&& (7-2^n)
def startN (fs:List Flt) (k:Nat):Mor:=⟨((fs.take k).map Flt.now)++List.replicate (3-(fs.take k).length) 0,(List.range k).foldl (fun w i=>if (fs.getD i default).washed then wWith w i else w) 0⟩
def start (fs:List Flt):Mor:=startN fs fs.length
def dStep (fs:List Flt) (m:Mor) (st:Nat×Mor) (i kind:Nat):Nat×Mor :=
 let now:=m.s.getD i 0
 let f:=fs.getD i default
 if kind=0 then (st.1-min st.1 now,⟨st.2.s.set i (now-min st.1 now),st.2.w⟩)
 else if kind=2 then (st.1,⟨st.2.s.set i (min f.power (now+f.gain)),wWith st.2.w i⟩)
 else if kind=3 then (st.1,⟨st.2.s.set i f.power,wOut st.2.w i⟩)
 else (st.1,⟨st.2.s.set i now,st.2.w⟩)
def dRun (fs:List Flt) (m:Mor) (acts:List Nat) (sugar k:Nat):Nat×Mor:=(List.range k).foldl (fun st i=>dStep fs m st i (acts.getD i 0)) (sugar,m)
def barred (m:Mor) (acts:List Nat) (k:Nat):Bool:=(List.range k).any fun i=>acts.getD i 0==2&&m.w.testBit i
def firesN (acts:List Nat) (k:Nat):Nat:=(acts.take k).countP (·==3)
def dayE (fs:List Flt) (kiln:Nat) (m:Mor) (acts:List Nat) (sugar:Nat):Nat×Mor :=
 if barred m acts acts.length then (12,m)
 else if kiln<firesN acts acts.length then (6,m)
 else if 0<(dRun fs m acts sugar acts.length).1 then (9,m)
 else (0,(dRun fs m acts sugar acts.length).2)
theorem zU7:∀w:Fin 8,∀n:Fin 3,IntKind.u8.wrap (((BitVec.ofInt IntKind.u8.bits (w.1:Int) ||| BitVec.ofInt IntKind.u8.bits ((2^n.1:Nat):Int)).toNat:Nat):Int)=((wWith w.1 n.1:Nat):Int):=by decide
theorem zXm:∀w:Fin 8,∀n:Fin 3,IntKind.u8.wrap (((BitVec.ofInt IntKind.u8.bits (w.1:Int) &&& ~~~ BitVec.ofInt IntKind.u8.bits ((2^n.1:Nat):Int)).toNat:Nat):Int)=((wOut w.1 n.1:Nat):Int):=by decide
theorem zXu:∀n:Fin 3,IntKind.u8.wrap ((1:Int)*2^(min ((n.1:Int)).toNat IntKind.u8.bits))=((2^n.1:Nat):Int):=by decide
theorem zZ1:∀w:Fin 8,∀n:Fin 3,((w.1:Int)).fdiv (2^(min ((n.1:Int)).toNat IntKind.u8.bits))=((w.1 >>> n.1:Nat):Int):=by decide
theorem zZr:∀w:Fin 8,IntKind.u8.wrap (((BitVec.ofInt IntKind.u8.bits (w.1:Int) &&& BitVec.ofInt IntKind.u8.bits 1).toNat:Nat):Int)=((w.1%2:Nat):Int):=by decide
theorem jC1:∀w:Fin 8,∀n:Fin 3,wWith w.1 n.1<8:=by decide
theorem jEj:∀w:Fin 8,∀n:Fin 3,wOut w.1 n.1<8:=by decide
theorem zWf:∀w:Fin 8,∀n:Fin 3,decide ((((w.1 >>> n.1)%2:Nat):Int)=1)=w.1.testBit n.1:=by decide
theorem zZn {w n:Nat} (hw:w<8) (hn:n<3):decide ((((w >>> n)%2:Nat):Int)=1)=w.testBit n:=zWf ⟨w,hw⟩ ⟨n,hn⟩
section
variable {x n:Nat} (hx:x<8) (hn:n<3)
include hx hn
theorem jDz:IntKind.u8.wrap (((BitVec.ofInt IntKind.u8.bits (x:Int) ||| BitVec.ofInt IntKind.u8.bits ((2^n:Nat):Int)).toNat:Nat):Int)=((wWith x n:Nat):Int):=zU7 ⟨x,hx⟩ ⟨n,hn⟩
theorem jFo:IntKind.u8.wrap (((BitVec.ofInt IntKind.u8.bits (x:Int) &&& ~~~ BitVec.ofInt IntKind.u8.bits ((2^n:Nat):Int)).toNat:Nat):Int)=((wOut x n:Nat):Int):=zXm ⟨x,hx⟩ ⟨n,hn⟩
omit hx in
theorem jAa:IntKind.u8.wrap ((1:Int)*2^(min ((n:Int)).toNat IntKind.u8.bits))=((2^n:Nat):Int):=zXu ⟨n,hn⟩
theorem jFi:((x:Int)).fdiv (2^(min ((n:Int)).toNat IntKind.u8.bits))=((x >>> n:Nat):Int):=zZ1 ⟨x,hx⟩ ⟨n,hn⟩
theorem jFe:IntKind.u8.wrap (((BitVec.ofInt IntKind.u8.bits ((x >>> n:Nat):Int) &&& BitVec.ofInt IntKind.u8.bits 1).toNat:Nat):Int)=(((x >>> n)%2:Nat):Int):=zZr ⟨x >>> n,Nat.lt_of_le_of_lt (Nat.shiftRight_le ..) hx⟩
theorem zOa:wWith x n<8:=jC1 ⟨x,hx⟩ ⟨n,hn⟩
theorem jCj:wOut x n<8:=jEj ⟨x,hx⟩ ⟨n,hn⟩
end
end
section
variable [I:Sys]
theorem F.fi202_0:FI TP 202 0 3 0:=⟨_,_,Tryz.underlying202,rfl,rfl,rfl⟩
theorem F.fi27_0:FI TP 27 0 3 0:=⟨_,_,Tryz.underlying27,rfl,rfl,rfl⟩
theorem F.fi27_1:FI TP 27 1 3 1:=⟨_,_,Tryz.underlying27,rfl,rfl,rfl⟩
theorem F.one3:One TP 3:=⟨by unfold aggB;rw[Tryz.underlying3],by rw[Tryz.underlying3];simp⟩
theorem F.ti3:TI TP 3 (.int .i64 0) 1 8:=TI.of kr
theorem zV9 (x n:Nat) (hx:x<8) (hn:n<3) (w:World):Calls TP 99 #[.int .u8 (x:Int),.int .i64 (n:Int)] w fun e w'=>e=.returned (.int .u8 ((wWith x n:Nat):Int))∧Grew w w' []:=by
 exact enter (N:=9) [(0,.int .u8 (x:Int)),(1,.int .i64 (n:Int))] Tryz.func99 J Tryz.ntmps99 J J (csr (lax J J (csr (zA J J (zA J J (zRp J J J om (jAa hn) (zE J J J (fun w=>jD7 w (jDz hx hn)) (lax J J (zV (zX J (rsO J J) (fun a w ha=>⟨rfl,ha.grown nsl⟩)))))))))))

theorem zWz (x n:Nat) (hx:x<8) (hn:n<3) (w:World):Calls TP 140 #[.int .u8 (x:Int),.int .i64 (n:Int)] w fun e w'=>e=.returned (.int .u8 ((wOut x n:Nat):Int))∧Grew w w' []:=by
 exact enter (N:=9) [(0,.int .u8 (x:Int)),(1,.int .i64 (n:Int))] Tryz.func140 J Tryz.ntmps140 J J (csr (lax J J (csr (zA J J (zA J J (zRp J J J om (jAa hn) (zE J J J (fun w=>zF8 w (jFo hx hn)) (lax J J (zV (zX J (rsO J J) (fun a w ha=>⟨rfl,ha.grown nsl⟩)))))))))))

theorem jF3 (x n:Nat) (hx:x<8) (hn:n<3) (w:World):Calls TP 138 #[.int .u8 (x:Int),.int .i64 (n:Int)] w fun e w'=>e=.returned (.bool (x.testBit n))∧Grew w w' []:=by
 exact enter (N:=10) [(0,.int .u8 (x:Int)),(1,.int .i64 (n:Int))] Tryz.func138 J Tryz.ntmps138 J J (csr (lax J J (csr (zA J J (zA J J (zDi J J J om (jFi hx hn) (zE J J J (fun w=>jC2 w (jFe hx hn)) (zE J J J kD (lax J J (zV (zX J (rsO J J) (fun a w ha=>⟨by rw[zZn hx hn],ha.grown nsl⟩))))))))))))

theorem jF5 (f:Flt) (x:Nat) (_hf:FltOk f) (hx:x<=4) (y:Nat) (hy:y<=x) (w:World):Calls TP 164 #[.agg #[.int .i64 (y:Int)],.agg #[.int .i64 (f.power:Int),.int .i64 (f.gain:Int),.int .i64 (f.now:Int),.bool f.washed],.int .i64 (x:Int)] w fun e w'=>e=.returned (.int .i64 ((x-y:Nat):Int))∧Grew w w' []:=by
 refine enter (N:=11) [(0,.agg #[.int .i64 (y:Int)]),(1,.agg #[.int .i64 (f.power:Int),.int .i64 (f.gain:Int),.int .i64 (f.now:Int),.bool f.washed]),(2,.int .i64 (x:Int))] Tryz.func164 J Tryz.ntmps164 J J (csr (jT J J ?_));intro b3;refine jT J J ?_;intro b4;exact lax J J (csr (zA J J (zI J J F.fi202_0 F.ti3 (zS J J F.one3 (zE (v:=.int .i64 ((x-y:Nat):Int)) J J J (fun w=>qK w (by rw[kC _ om om];omega)) (lax J J (zV (zX J (rsO J J) (fun a w ha=>⟨rfl,ha.grown nsl⟩)))))))))

theorem jDt (f:Flt) (x:Nat) (_hf:FltOk f) (_hx:x<=4) (w:World):Calls TP 165 #[.agg #[],.agg #[.int .i64 (f.power:Int),.int .i64 (f.gain:Int),.int .i64 (f.now:Int),.bool f.washed],.int .i64 (x:Int)] w fun e w'=>e=.returned (.int .i64 (x:Int))∧Grew w w' []:=by
 refine enter (N:=8) [(0,.agg #[]),(1,.agg #[.int .i64 (f.power:Int),.int .i64 (f.gain:Int),.int .i64 (f.now:Int),.bool f.washed]),(2,.int .i64 (x:Int))] Tryz.func165 J Tryz.ntmps165 J J (csr (jT J J ?_));intro b3;refine jT J J ?_;intro b4;exact lax J J (csr (zA J J (lax J J (zV (zX J (rsO J J) (fun a w ha=>⟨rfl,ha.grown nsl⟩))))))

theorem jDv (f:Flt) (x:Nat) (_hf:FltOk f) (_hx:x<=4) (w:World):Calls TP 163 #[.agg #[],.agg #[.int .i64 (f.power:Int),.int .i64 (f.gain:Int),.int .i64 (f.now:Int),.bool f.washed],.int .i64 (x:Int)] w fun e w'=>e=.returned (.int .i64 (f.power:Int))∧Grew w w' []:=by
 refine enter (N:=9) [(0,.agg #[]),(1,.agg #[.int .i64 (f.power:Int),.int .i64 (f.gain:Int),.int .i64 (f.now:Int),.bool f.washed]),(2,.int .i64 (x:Int))] Tryz.func163 J Tryz.ntmps163 J J (csr (jT J J ?_));intro b3;refine jT J J ?_;intro b4;exact lax J J (csr (zI J J F.fi27_0 F.ti3 (zS J J F.one3 (lax J J (zV (zX J (rsO J J) (fun a w ha=>⟨rfl,ha.grown nsl⟩)))))))

theorem jEz (f:Flt) (x:Nat) (hf:FltOk f) (hx:x<=4) (w:World):Calls TP 162 #[.agg #[],.agg #[.int .i64 (f.power:Int),.int .i64 (f.gain:Int),.int .i64 (f.now:Int),.bool f.washed],.int .i64 (x:Int)] w fun e w'=>e=.returned (.int .i64 ((min f.power (x+f.gain):Nat):Int))∧Grew w w' []:=by
 refine enter (N:=14) [(0,.agg #[]),(1,.agg #[.int .i64 (f.power:Int),.int .i64 (f.gain:Int),.int .i64 (f.now:Int),.bool f.washed]),(2,.int .i64 (x:Int))] Tryz.func162 J Tryz.ntmps162 J J (csr (jT J J ?_));intro b3;refine jT J J ?_;intro b4;exact lax J J (csr (zI J J F.fi27_0 F.ti3 (zS J J F.one3 (zA J J (zI J J F.fi27_1 F.ti3 (zS J J F.one3 (zE (v:=.int .i64 ((x+f.gain:Nat):Int)) J J J (fun w=>zAw w (by obtain⟨h1,h2,h3,h4⟩:=hf;rw[kC _ om om];omega)) (zH1 J J J (lax J J (zV (zX J (rsO J J) (fun a w ha=>⟨by congr 2;split<;>omega,ha.grown nsl⟩))))))))))))

end
section
variable {i k s:Nat} {m:Mor}
theorem zIn (fs:List Flt) (k:Nat) (x:Flt) (hx:fs[k]?=some x) (hk:k<3):startN fs (k+1)=⟨(startN fs k).s.set k x.now,if x.washed then wWith (startN fs k).w k else (startN fs k).w⟩:=by
 have hlt:=(List.getElem?_eq_some_iff.1 hx).1;have h1:fs.take (k+1)=fs.take k++[x]:=by rw[List.take_add_one,hx];rfl
 have h2:(fs.take k).length=k:=by rw[List.length_take];omega
 have h3:fs.getD k default=x:=by rw[List.getD_eq_getElem?_getD,hx];rfl
 unfold startN;rw[List.range_succ,List.foldl_append,List.foldl_cons,List.foldl_nil,h3,h1]
 congr 1
 simp only[List.map_append,List.map_cons,List.map_nil,List.length_append,h2,List.length_singleton,List.append_assoc];rw[List.set_append_right _ _ (by rw[List.length_map,h2];exact Nat.le_refl _)];simp only[List.length_map,h2,Nat.sub_self];have:3-k=(3-(k+1))+1:=om;rw[this,List.replicate_succ]
 rfl
theorem wC {fs:List Flt} (h3:fs.length<=3) (hf:∀f∈fs,FltOk f) (k:Nat) (hk:k<=fs.length):MOk (startN fs k):=by
 refine⟨?_,fun x hx=>?_,?_⟩
 ·simp only[startN,List.length_append,List.length_map,List.length_replicate,List.length_take];omega
 ·simp only[startN,List.mem_append,List.mem_map,List.mem_replicate] at hx
  rcases hx with ⟨f,hf1,rfl⟩|⟨_,rfl⟩
  ·obtain⟨_,h2,_,h4⟩:=hf f (List.mem_of_mem_take hf1);omega
  ·omega
 ·induction k with
  | zero=>exact (by decide:0<8)
  | succ k ih =>
   obtain⟨x,hx⟩:∃x,fs[k]?=some x:=⟨_,List.getElem?_eq_getElem om⟩;rw[zIn fs k x hx om];dsimp only
   split
   ·exact zOa (ih om) om
   ·exact ih om
theorem MOk.form (h:MOk m):∃z0 z1 z2 zw:Nat,m=⟨[z0,z1,z2],zw⟩∧z0<=4∧z1<=4∧z2<=4∧zw<8:=by
 obtain⟨s,w⟩:=m;obtain⟨h1,h2,h3⟩:=h;rcases s with _|⟨a,_|⟨b,_|⟨c,_|⟨d,r⟩⟩⟩⟩<;>simp at h1;exact⟨a,b,c,w,rfl,h2 a (by simp),h2 b (by simp),h2 c (by simp),h3⟩
theorem zM5 (a b c:Nat) (v:Value) (z k x:Nat) (_hv:v=.int .u8 (z:Int)) (hk:k<3):∃y0 y1 y2:Nat,[a,b,c].set k x=[y0,y1,y2]∧[Value.int .i64 (a:Int),.int .i64 (b:Int),.int .i64 (c:Int),v].set k (.int .i64 (x:Int))=[Value.int .i64 (y0:Int),.int .i64 (y1:Int),.int .i64 (y2:Int),v]:=by
 rcases k with _|_|_|k
 ·exact⟨x,b,c,rfl,rfl⟩
 ·exact⟨a,x,c,rfl,rfl⟩
 ·exact⟨a,b,x,rfl,rfl⟩
 ·omega
theorem zG9 (a b c:Nat) (v:Value) (k:Nat) (hk:k<3):[Value.int .i64 (a:Int),.int .i64 (b:Int),.int .i64 (c:Int),v][k]?=some (.int .i64 (([a,b,c].getD k 0:Nat):Int)):=by
 rcases k with _|_|_|k
 ·rfl
 ·rfl
 ·rfl
 ·omega
def actOf (m:Mor) (i kind sugar:Nat):Value×Nat :=
 if kind=0 then (.iface 202 (.agg #[.int .i64 ((min sugar (m.s.getD i 0):Nat):Int)]),sugar-min sugar (m.s.getD i 0))
 else if kind=2 then (.iface 193 (.agg #[]),sugar) else if kind=3 then (.iface 194 (.agg #[]),sugar) else (.iface 203 (.agg #[]),sugar)
theorem zL5 (s sugar:Nat):(if (s:Int)<(sugar:Int) then (s:Int) else (sugar:Int))=((min sugar s:Nat):Int):=by split<;>omega
theorem actOf0 (h:(k:Int)=0):actOf m i k s=(.iface 202 (.agg #[.int .i64 ((min s (m.s.getD i 0):Nat):Int)]),s-min s (m.s.getD i 0)):=by unfold actOf;rw[if_pos (by omega)]
theorem actOf2 (h:(k:Int)=2):actOf m i k s=(.iface 193 (.agg #[]),s):=by unfold actOf;rw[if_neg (by omega),if_pos (by omega)]
theorem actOf3 (h:(k:Int)=3):actOf m i k s=(.iface 194 (.agg #[]),s):=by unfold actOf;rw[if_neg (by omega),if_neg (by omega),if_pos (by omega)]
theorem actOf1 (h0:¬(k:Int)=0) (h2:¬(k:Int)=2) (h3:¬(k:Int)=3):actOf m i k s=(.iface 203 (.agg #[]),s):=by unfold actOf;rw[if_neg (by omega),if_neg (by omega),if_neg (by omega)]
theorem zKb {z0 z1 z2 b:Nat} (h0:z0<=b) (h1:z1<=b) (h2:z2<=b) (i:Nat):[z0,z1,z2].getD i 0<=b:=by
 rcases i with _|_|_|i
 ·exact h0
 ·exact h1
 ·exact h2
 ·exact Nat.zero_le _
end
section
variable [I:Sys]
theorem F.agg27:aggB TP 27=true:=by unfold aggB;rw[Tryz.underlying27]
theorem F.agg93:aggB TP 93=true:=by unfold aggB;rw[Tryz.underlying93]
theorem F.ent99:Enters TP 99:=jD Tryz.func99 rfl kr
theorem F.fi25_0:FI TP 25 0 22 0:=⟨_,_,Tryz.underlying25,rfl,rfl,rfl⟩
theorem F.fi27_2:FI TP 27 2 3 2:=⟨_,_,Tryz.underlying27,rfl,rfl,rfl⟩
theorem F.fi27_3:FI TP 27 3 4 3:=⟨_,_,Tryz.underlying27,rfl,rfl,rfl⟩
theorem F.fi78_0:FI TP 78 0 25 0:=⟨_,_,Tryz.underlying78,rfl,rfl,rfl⟩
theorem F.fi93_0:FI TP 93 0 90 0:=⟨_,_,Tryz.underlying93,rfl,rfl,rfl⟩
theorem F.fi93_1:FI TP 93 1 91 3:=⟨_,_,Tryz.underlying93,rfl,rfl,rfl⟩
theorem F.one22:One TP 22:=⟨by unfold aggB;rw[Tryz.underlying22],by rw[Tryz.underlying22];simp⟩
theorem F.one4:One TP 4:=⟨by unfold aggB;rw[Tryz.underlying4],by rw[Tryz.underlying4];simp⟩
theorem F.one91:One TP 91:=⟨by unfold aggB;rw[Tryz.underlying91],by rw[Tryz.underlying91];simp⟩
theorem F.ti22:TI TP 22 (.slice none 0 0) 1 24:=TI.of kr
theorem F.ti25:TI TP 25 (.agg #[.slice none 0 0,.int .i64 0,.slice none 0 0]) 3 56:=TI.of kr
theorem F.ti4:TI TP 4 (.bool false) 1 1:=TI.of kr
theorem F.ti27:TI TP 27 (.agg #[.int .i64 0,.int .i64 0,.int .i64 0,.bool false]) 4 32:=TI.of kr
theorem F.ti90:TI TP 90 (.agg #[.int .i64 0,.int .i64 0,.int .i64 0]) 3 24:=TI.of kr
theorem F.ti91:TI TP 91 (.int .u8 0) 1 1:=TI.of kr
theorem F.ti93:TI TP 93 (.agg #[.int .i64 0,.int .i64 0,.int .i64 0,.int .u8 0]) 4 32:=TI.of kr
theorem zFf (fA dA:Option Addr) (fc nd dc kiln:Nat) (fs:List Flt) (h3:fs.length<=3) (hf:∀f∈fs,FltOk f) (w:World) (hA:RdL Flt.cells 4 w fA fs):Calls TP 66 #[(CG fA fs.length fc kiln dA nd dc)] w fun e w'=>e=.returned (Mor.val (start fs))∧Grew w w' []:=by
 refine enter (N:=29) [(0,(CG fA fs.length fc kiln dA nd dc))] Tryz.func66 J Tryz.ntmps66 J J (csr (jT J J ?_));intro b1;refine zW J F.ti93 ?_;intro b2;refine lnx (csr (zW J F.ti93 ?_));intro b3;refine lnx (zG (csr (zI J J F.fi78_0 F.ti25 (zI J J F.fi25_0 F.ti22 (zS J J F.one22 (jR J J U22 (zA J J (lnx (zQ (qT (G:=Nat) (fun k=>k<=fs.length) (fun k=>fs.length-k) (fun k=>[(2,pt b2),(3,pt b3),(8,.slice fA fs.length fc),(9,.int .i64 (fs.length:Int)),(10,.int .i64 (k:Int))]) (fun k=>[.blk b3 (.cells (Mor.cells (startN fs (k))).toArray 93 (0,0)),.blk b2 (.cells #[.int .i64 0,.int .i64 0,.int .i64 0,.int .u8 0] 93 (0,0))]) 0 (Nat.zero_le _) sbn sbl ?_))))))))));intro k hk;(try dsimp only at hk ⊢);refine csr (zE J J J jY ?_)
 refine lnx (zG (zK J (fun hc0=>?_) (fun hc0=>?_)))
 ·have hk':k<fs.length:=om;obtain⟨b,o,rfl,hb,hcell⟩:=hA om;obtain⟨x,hx⟩:∃x,fs[k]?=some x:=⟨_,List.getElem?_eq_getElem hk'⟩;obtain⟨hx1,hx2,hx3,hx4⟩:=hf x (List.mem_of_getElem? hx);obtain⟨z0,z1,z2,zw,hz,hz0,hz1,hz2,hzw⟩:=(wC h3 hf k om).form;have hnx:=zIn fs k x hx om;rw[hz] at hnx;rw[hz];simp only[Mor.cells,List.map_cons,List.map_nil,List.cons_append,List.nil_append] at hnx ⊢;obtain⟨y0,y1,y2,hy1,hy2⟩:=zM5 z0 z1 z2 (.int .u8 (zw:Int)) zw k x.now J om;refine zO (zD (zG (zQ (csr (zA J J (jO (j:=k) J J J U22 F.ti27 J hk' (qV (l:=[.int .i64 (x.power:Int),.int .i64 (x.gain:Int),.int .i64 (x.now:Int),.bool x.washed]) J J F.agg27 F.ti27 J (fun a w ha j u hu=>ha.old (hcell k x hx j u hu) hb) (zW J F.ti27 ?_))))))));intro b5;refine zF J J (zH J J F.ti27 J (lnx (csr (zA J J (zI J J F.fi27_2 F.ti3 (zS J J F.one3 (zI J J F.fi93_0 F.ti90 (zC4 (j:=k) J J J Tryz.underlying90 F.ti3 J om (zGs (cs:=(V4 z0 z1 z2 zw)) (cs':=(V4 y0 y1 y2 zw)) J J F.ti3 (by simp;omega) (by rw[Nat.zero_add,Nat.mul_one];exact hy2.symm) (.tail _ (.head _)) (lnx (csr (zI J J F.fi27_3 F.ti4 (zS J J F.one4 ?_)))))))))))))
  refine lnx (kH J (fun hc1=>?_) (fun hc1=>?_))
  ·refine zL (zI J J F.fi93_1 F.ti91 (zS J J F.one91 (zA J J (jE (vs:=[_,_]) J J F.ent99 (fun a w ha=>zV9 zw k hzw om w) (zI J J F.fi93_1 F.ti91 (zH J J F.ti91 J (zB (zJ (zD (zL (zE J J J bdO (zA J J (zB (kV (k+1) om tdo sbn (by (try dsimp only);rw[hnx,hy1,if_pos hc1];simp only[List.map_cons,List.map_nil,List.cons_append,List.nil_append];exact sbl)))))))))))))))
  ·refine zO (zJ (zD (zL (zE J J J bdO (zA J J (zB (kV (k+1) om tdo sbn (by (try dsimp only);rw[hnx,hy1,if_neg (by rw[hc1];simp)];simp only[List.map_cons,List.map_nil,List.cons_append,List.nil_append];exact sbl))))))))
 ·obtain rfl:k=fs.length:=om;obtain⟨z0,z1,z2,zw,hz,_⟩:=(wC h3 hf fs.length (Nat.le_refl _)).form;rw[hz];simp only[Mor.cells,List.map_cons,List.map_nil,List.cons_append,List.nil_append];exact jV (zN (zN (zY (zD (csr (zZ J J F.agg93 F.ti93 (zH J J F.ti93 J (lnx (zV (zX J (fun a w ha=>by exact xC (ha:=ha) J J F.agg93 F.ti93 J) (fun a w ha=>⟨by unfold start;rw[hz];rfl,ha.grown nsl⟩)))))))))))

theorem F.pl193:Places TP 193 []:=.inl ⟨_,Tryz.underlying193,by kernel_rfl⟩
theorem F.pl194:Places TP 194 []:=.inl ⟨_,Tryz.underlying194,by kernel_rfl⟩
theorem F.pl202:Places TP 202 [(0,1)]:=.inl ⟨_,Tryz.underlying202,by kernel_rfl⟩
theorem F.pl203:Places TP 203 []:=.inl ⟨_,Tryz.underlying203,by kernel_rfl⟩
theorem F.ti193:TI TP 193 (.agg #[]) 0 0:=TI.of kr
theorem F.ti194:TI TP 194 (.agg #[]) 0 0:=TI.of kr
theorem F.ti202:TI TP 202 (.agg #[.int .i64 0]) 1 8:=TI.of kr
theorem F.ti203:TI TP 203 (.agg #[]) 0 0:=TI.of kr
theorem jFp (z0 z1 z2 zw i k s:Nat) (hz0:z0<=4) (hz1:z1<=4) (hz2:z2<=4) (hi:i<3) (hs:s<=12) (w:World):Calls TP 139 #[.agg (V4 z0 z1 z2 zw).toArray,.int .i64 (i:Int),.int .i64 (k:Int),.int .i64 (s:Int)] w fun e w'=>e=.returned (.tuple #[(actOf ⟨[z0,z1,z2],zw⟩ i k s).1,.int .i64 ((actOf ⟨[z0,z1,z2],zw⟩ i k s).2:Int)])∧Grew w w' []:=by
 refine enter (N:=39) [(0,.agg (V4 z0 z1 z2 zw).toArray),(1,.int .i64 (i:Int)),(2,.int .i64 (k:Int)),(3,.int .i64 (s:Int))] Tryz.func139 J Tryz.ntmps139 J J (csr (jT J J ?_));intro b4;refine zF J J (lax J J (zG (csr (zA J J (lnx (zQ (csr (zE J J J kD ?_))))))))
 refine lax J J (zK J (fun hc0=>?_) (fun hc0=>?_))
 ·refine csr (zA J J (zA J J (zI J J F.fi93_0 F.ti90 (zC4 (j:=i) J J J Tryz.underlying90 F.ti3 J hi (jM (v:=.int .i64 (([z0,z1,z2].getD i 0:Nat):Int)) J J F.one3 (fun a w ha=>qY (ha.mem_blk (InB.mem (b:=b4) (o:=.cells (V4 z0 z1 z2 zw).toArray 93 (0,0)))) (by rw[Nat.zero_add,Nat.mul_one];exact zG9 z0 z1 z2 _ i hi)) ?_)))));have hmn:[z0,z1,z2].getD i 0<=4:=zKb hz0 hz1 hz2 i;refine zH1 J J J ?_;rw[zL5];exact lax J J (csr (zA J J (kM (vs:=[(0,_)]) (l':=[_]) J J F.ti202 F.pl202 (.cons J J (.nil _)) J (vG J J Tryz.underlying202 J (zA J J (zA J J (zE (v:=.int .i64 ((s-min s ([z0,z1,z2].getD i 0):Nat):Int)) J J J (fun w=>qK w (by rw[kC _ om om];omega)) (zF J J (lax J J (zV (jW (zU (zX J (fun a w ha=>xN J J J ha) (fun a w ha=>⟨by rw[actOf0 hc0];first|rfl|skip,ha.grown nsl⟩))))))))))))))
 ·refine csr (zE J J J kD ?_)
  refine lax J J (zK J (fun hc1=>?_) (fun hc1=>?_))
  ·exact csr (kM (vs:=[]) (l':=[]) J J F.ti193 F.pl193 (.nil _) J (vG J J Tryz.underlying193 J (zA J J (zF J J (lax J J (zV (jW (zU (zX J (fun a w ha=>xN J J J ha) (fun a w ha=>⟨by rw[actOf2 hc1];first|rfl|skip,ha.grown nsl⟩))))))))))
  ·refine csr (zE J J J kD ?_)
   refine lax J J (zK J (fun hc2=>?_) (fun hc2=>?_))
   ·exact csr (kM (vs:=[]) (l':=[]) J J F.ti194 F.pl194 (.nil _) J (vG J J Tryz.underlying194 J (zA J J (zF J J (lax J J (zV (jW (zU (zX J (fun a w ha=>xN J J J ha) (fun a w ha=>⟨by rw[actOf3 hc2];first|rfl|skip,ha.grown nsl⟩))))))))))
   ·exact zO (zJ (zD (csr (kM (vs:=[]) (l':=[]) J J F.ti203 F.pl203 (.nil _) J (vG J J Tryz.underlying203 J (zA J J (zF J J (lax J J (zV (zX J (fun a w ha=>xN J J J ha) (fun a w ha=>⟨by rw[actOf1 hc0 hc1 hc2];first|rfl|skip,ha.grown nsl⟩)))))))))))

end
section
variable {P:Program} {args:Array Operand} {f t:Nat} {name:String} {rcv rv:Value} {ts:Array TypeId} {vs:List Value} {x:Operand} {α β:Type}
def pureOf {α:Type} (P:Program):Sem α->Option α
 | .pure a=>some a
 | .program k=>pureOf P (k P)
 | _=>none
theorem zKj {s:Sem α} {x:α} (h:pureOf P s=some x) (w:World):s.run P w=.ok x w:=by
 induction s with
 | pure a=>cases h;rfl
 | program k ih=>exact ih P h
 | _=>cases h
theorem zQv {s:Sem α} {x:α} {f:α->Sem β} (h:pureOf P s=some x) (hf:Tame P (f x)):Tame P (s >>= f):=by
 show Tame P (s.bind f)
 induction s with
 | pure a=>cases h;exact hf
 | program k ih=>exact ih P h
 | _=>cases h
variable [I:Sys]
section
variable {C:Ctx} {fr:LV} {hp hp':List Res} {ops:Array Oper} {Q:QT} {rest:List Oper} {d:Nat} {ty:TypeId} {pos:String} {after:Array Edge}
theorem zS7 {X:Type} {p:X->Prop} {val:X->Value} {rs:X->List Res} (hd:Nat.blt d C.N=true)
  (hx:ev fr x=some (.iface t rv)) (hargs:args.toList.map (ev fr)=vs.map some) (hm:pureOf C.P (Go.method (C.P.types.size+Made.depth) t rv name)=some (f,rcv)) (hf:Enters C.P f)
  (hc:∀a w,At C fr hp a w->Calls C.P f (rcv::vs).toArray w fun e w'=>∃y,p y∧e=.returned (val y)∧At C fr (rs y) a w')
  (k:∀y,p y->Lst C ops Q rest ((d,val y)::fr) (rs y)):Lst C ops Q (⟨some d,.call {callee:=.invoke x name,args:=args,argTypes:=ts},ty,pos,after,none⟩::rest) fr hp:=by
 refine xV J fun a w ha=>?_;have e1:(#[Value.iface t rv]++vs.toArray)[0]?=some (.iface t rv):=by simp
 have e2:(#[Value.iface t rv]++vs.toArray).extract 1 (#[Value.iface t rv]++vs.toArray).size=vs.toArray:=by simp
 have e3 : #[rcv]++vs.toArray=(rcv::vs).toArray:=by simp
 have he:execOp a.eval ⟨some d,.call {callee:=.invoke x name,args:=args,argTypes:=ts},ty,pos,after,none⟩=((program:Sem Program) >>= fun P=>Go.method (P.types.size+Made.depth) t rv name >>= fun y=>callFunc y.1 (#[y.2]++vs.toArray)):=by
  simp only[execOp,resolve,wI ha hargs,ha.eval hx,pure_bind,invoke,e1,e2,callMethod]
 have hm':pureOf C.P ((program:Sem Program) >>= fun P=>Go.method (P.types.size+Made.depth) t rv name)=some (f,rcv):=hm
 have hr:(execOp a.eval ⟨some d,.call {callee:=.invoke x name,args:=args,argTypes:=ts},ty,pos,after,none⟩).run C.P w=.ok (.enter f (rcv::vs).toArray) w:=by
  rw[he,<-bind_assoc,Sem.run_bind,zKj hm' w,Result.andThen_ok,e3];exact hf.1 _ w
 refine⟨by rw[he,<-bind_assoc];exact zQv hm' (hf.2 _),?_⟩;rw[hr];refine (hc a w ha).mono ?_;rintro e w' ⟨y,h1,rfl,h2⟩;exact k y h1 _ _ (h2.put (kK hd) _)
theorem zCu {v:Value} (hd:Nat.blt d C.N=true)
  (hx:ev fr x=some (.iface t rv)) (hargs:args.toList.map (ev fr)=vs.map some) (hm:pureOf C.P (Go.method (C.P.types.size+Made.depth) t rv name)=some (f,rcv)) (hf:Enters C.P f)
  (hc:∀a w,At C fr hp a w->Calls C.P f (rcv::vs).toArray w fun e w'=>e=.returned v∧Grew w w' [])
  (k:Lst C ops Q rest ((d,v)::fr) hp):Lst C ops Q (⟨some d,.call {callee:=.invoke x name,args:=args,argTypes:=ts},ty,pos,after,none⟩::rest) fr hp:=by
 refine zS7 (X:=Unit) (p:=fun _=>True) (val:=fun _=>v) (rs:=fun _=>hp) hd hx hargs hm hf (fun a w ha=>(hc a w ha).mono fun e w' ⟨h1,h2⟩=>⟨(),trivial,h1,?_⟩) (fun _ _=>k);have:=ha.more h2;simpa using this
theorem zIv {s:Sem α} {x:α} {f:α->Sem β} {y:β} (h:pureOf P s=some x) (hf:pureOf P (f x)=some y):pureOf P (s >>= f)=some y:=by
 show pureOf P (s.bind f)=some y
 induction s with
 | pure a=>cases h;exact hf
 | program k ih=>exact ih P h
 | _=>cases h
theorem zTa {s:Sem α} {x:α} (h:pureOf P s=some x):Tame P s:=by
 induction s with
 | pure a=>trivial
 | program k ih=>exact ih P h
 | _=>cases h
theorem zFp {dst:Option Tmp} {aS:List Value} {cs:List Value} (hx:ev fr x=some (.func (.method name) (Value.iface t rv::aS).toArray cs.toArray))
  (hn:pureOf C.P (Go.nilAhead (C.P.types.size+Made.depth) t rv name)=some (some false)):Yld C ⟨dst,.nilCheck x,ty,pos,after,none⟩ fr hp (.func (.method name) (Value.iface t rv::aS).toArray cs.toArray):=by
 have h:∀a:Act,a.eval x=.func (.method name) (Value.iface t rv::aS).toArray cs.toArray->pureOf C.P (execOp a.eval ⟨dst,.nilCheck x,ty,pos,after,none⟩)=some (.value (.func (.method name) (Value.iface t rv::aS).toArray cs.toArray)):=by
  intro a ha;simp only[execOp,ha,List.getElem?_toArray,List.getElem?_cons_zero];refine zIv (s:=(program:Sem Program)) (x:=C.P) J (zIv hn ?_)
  rfl
 exact⟨rfl,fun a w ha=>⟨zTa (h a (ha.eval hx)),zKj (h a (ha.eval hx)) w⟩⟩
end
end
section
variable {i k s:Nat} {m:Mor} {x:Operand}
def aftOf (f:Flt) (now i kind s:Nat) (m:Mor):Nat:=if kind=0 then now-min s (m.s.getD i 0) else if kind=2 then min f.power (now+f.gain) else if kind=3 then f.power else now
theorem Act.m0 (n : Int) : pureOf TP (Go.method (TP.types.size + Made.depth) 202 (.agg #[.int .i64 n]) "muscovado/char.after") = some (164, .agg #[.int .i64 n]) := by kernel_rfl
theorem Act.m2 : pureOf TP (Go.method (TP.types.size + Made.depth) 193 (.agg #[]) "muscovado/char.after") = some (162, .agg #[]) := by kernel_rfl
theorem Act.m3 : pureOf TP (Go.method (TP.types.size + Made.depth) 194 (.agg #[]) "muscovado/char.after") = some (163, .agg #[]) := by kernel_rfl
theorem Act.m1 : pureOf TP (Go.method (TP.types.size + Made.depth) 203 (.agg #[]) "muscovado/char.after") = some (165, .agg #[]) := by kernel_rfl
theorem Act.n0 (n : Int) : pureOf TP (Go.nilAhead (TP.types.size + Made.depth) 202 (.agg #[.int .i64 n]) "muscovado/char.after") = some (some false) := by kernel_rfl
theorem Act.n2 : pureOf TP (Go.nilAhead (TP.types.size + Made.depth) 193 (.agg #[]) "muscovado/char.after") = some (some false) := by kernel_rfl
theorem Act.n3 : pureOf TP (Go.nilAhead (TP.types.size + Made.depth) 194 (.agg #[]) "muscovado/char.after") = some (some false) := by kernel_rfl
theorem Act.n1 : pureOf TP (Go.nilAhead (TP.types.size + Made.depth) 203 (.agg #[]) "muscovado/char.after") = some (some false) := by kernel_rfl
variable [I:Sys]
section
variable {B N:Nat} {w0:World} {ds:List Deferred} {fr:LV} {hp hp':List Res} {ops:Array Oper} {Q:QT} {rest:List Oper} {d:Nat} {ty:TypeId} {pos:String} {after:Array Edge}
theorem zNt {dst : Option Tmp} (hx : ev fr x = some (.func (.method "muscovado/char.after") #[(actOf m i k s).1] #[])) : Yld ⟨TP, B, w0, N, ds⟩ ⟨dst, .nilCheck x, ty, pos, after, none⟩ fr hp (.func (.method "muscovado/char.after") #[(actOf m i k s).1] #[]) := by
 unfold actOf at hx ⊢
 split at hx
 ·rename_i h;rw[if_pos h];exact zFp hx (Act.n0 _)
 ·rename_i h0;rw[if_neg h0]
  split at hx
  ·rename_i h;rw[if_pos h];exact zFp hx Act.n2
  ·rename_i h2;rw[if_neg h2]
   split at hx
   ·rename_i h;rw[if_pos h];exact zFp hx Act.n3
   ·rename_i h3;rw[if_neg h3];exact zFp hx Act.n1
theorem zWu {now:Nat} {f:Flt} {args:Array Operand} {ts:Array TypeId} (hd:Nat.blt d N=true) (hx:ev fr x=some (actOf m i k s).1)
  (hargs:args.toList.map (ev fr)=[Value.agg #[.int .i64 (f.power:Int),.int .i64 (f.gain:Int),.int .i64 (f.now:Int),.bool f.washed],.int .i64 (now:Int)].map some) (hf:FltOk f) (hn:now<=4) (hm:min s (m.s.getD i 0)<=now)
  (kk : Lst ⟨TP, B, w0, N, ds⟩ ops Q rest ((d, .int .i64 ((aftOf f now i k s m : Nat) : Int)) :: fr) hp) : Lst ⟨TP, B, w0, N, ds⟩ ops Q (⟨some d, .call { callee := .invoke x "muscovado/char.after", args := args, argTypes := ts }, ty, pos, after, none⟩ :: rest) fr hp := by
 unfold actOf at hx;unfold aftOf at kk
 split at hx
 ·rename_i h;rw[if_pos h] at kk;exact zCu hd hx hargs (Act.m0 _) (jD Tryz.func164 J kr) (fun a w ha=>jF5 f now hf hn _ hm w) kk
 ·rename_i h0;rw[if_neg h0] at kk
  split at hx
  ·rename_i h;rw[if_pos h] at kk;exact zCu hd hx hargs Act.m2 (jD Tryz.func162 J kr) (fun a w ha=>jEz f now hf hn w) kk
  ·rename_i h2;rw[if_neg h2] at kk
   split at hx
   ·rename_i h;rw[if_pos h] at kk;exact zCu hd hx hargs Act.m3 (jD Tryz.func163 J kr) (fun a w ha=>jDv f now hf hn w) kk
   ·rename_i h3;rw[if_neg h3] at kk;exact zCu hd hx hargs Act.m1 (jD Tryz.func165 J kr) (fun a w ha=>jDt f now hf hn w) kk
end
theorem zXn (m:Mor) (i k s:Nat) (w:World):(Instr.typeAssert (actOf m i k s).1 189 193 true).run TP w=.ok (.tuple #[.agg #[],.bool (decide ((k:Int)=2))]) w:=by
 unfold actOf
 split
 ·rename_i h;subst h;simp[Instr.typeAssert,go_sem]
 ·split
  ·rename_i h;subst h;simp[Instr.typeAssert,go_sem]
  ·rename_i h0 h2;have e:decide ((k:Int)=2)=false:=decide_eq_false om;rw[e]
   split
   ·simp[Instr.typeAssert,go_sem]
   ·simp[Instr.typeAssert,go_sem]
theorem zZm (m:Mor) (i k s:Nat) (w:World):(Instr.typeAssert (actOf m i k s).1 189 194 true).run TP w=.ok (.tuple #[.agg #[],.bool (decide ((k:Int)=3))]) w:=by
 unfold actOf
 split
 ·rename_i h;subst h;simp[Instr.typeAssert,go_sem]
 ·split
  ·rename_i h;subst h;simp[Instr.typeAssert,go_sem]
  ·split
   ·rename_i h;subst h;simp[Instr.typeAssert,go_sem]
   ·rename_i h0 h2 h3;have e:decide ((k:Int)=3)=false:=decide_eq_false om;rw[e];simp[Instr.typeAssert,go_sem]
end
section
variable {acts:List Nat} {fs:List Flt} {k kiln sugar x:Nat} {m:Mor}
theorem zYw {f:Flt} {now i kind s:Nat} (hf:FltOk f) (hn:now<=4):aftOf f now i kind s m<=4:=by
 obtain⟨_,h2,_,_⟩:=hf;unfold aftOf
 split
 ·omega
 ·split
  ·omega
  ·split<;>omega
theorem zAa (fs:List Flt) (m:Mor) (acts:List Nat) (sugar k:Nat):dRun fs m acts sugar (k+1)=dStep fs m (dRun fs m acts sugar k) k (acts.getD k 0):=by
 unfold dRun;rw[List.range_succ,List.foldl_append]
 rfl
theorem zEi (fs:List Flt) (m:Mor) (st:Nat×Mor) (i kind:Nat):dStep fs m st i kind=((actOf m i kind st.1).2,⟨st.2.s.set i (aftOf (fs.getD i default) (m.s.getD i 0) i kind st.1 m),if kind=2 then wWith st.2.w i else if kind=3 then wOut st.2.w i else st.2.w⟩):=by
 unfold dStep actOf aftOf
 by_cases h0:kind=0
 ·subst h0;simp
 ·by_cases h2:kind=2
  ·subst h2;simp
  ·by_cases h3:kind=3
   ·subst h3;simp
   ·simp[h0,h2,h3]
theorem MOk.set (h:MOk m) {i x w:Nat} (hx:x<=4) (hw:w<8):MOk ⟨m.s.set i x,w⟩ :=
 ⟨by simp[h.three],fun y hy=>(List.mem_or_eq_of_mem_set hy).elim (h.small y) fun e=>e▸hx,hw⟩
theorem MOk.getD (h:MOk m) (i:Nat):m.s.getD i 0<=4:=by
 rw[List.getD_eq_getElem?_getD]
 cases hi:m.s[i]? with
 | none=>exact Nat.zero_le _
 | some x=>exact h.small x (List.mem_of_getElem? hi)
theorem zH7 (hf:∀f∈fs,FltOk f) (hm:MOk m):∀k,k<=fs.length->k<=3->MOk (dRun fs m acts sugar k).2∧(dRun fs m acts sugar k).1<=sugar:=by
 intro k
 induction k with
 | zero=>exact fun _ _=>⟨hm,Nat.le_refl _⟩
 | succ k ih =>
  intro hk h3;obtain⟨h1,h2⟩:=ih om om;obtain⟨x,hx⟩:∃x,fs[k]?=some x:=⟨_,List.getElem?_eq_getElem om⟩;have e:fs.getD k default=x:=by rw[List.getD_eq_getElem?_getD,hx];rfl
  rw[zAa,zEi,e]
  refine⟨h1.set (zYw (hf x (List.mem_of_getElem? hx)) (hm.getD k)) ?_,?_⟩
  ·split
   ·exact zOa h1.w om
   ·split
    ·exact jCj h1.w om
    ·exact h1.w
  ·unfold actOf;dsimp only
   split
   ·dsimp only;omega
   ·split
    ·exact h2
    ·split<;>exact h2
theorem zA7 (hx:acts[k]?=some x) (h:barred m acts k=false) (hn:(decide ((x:Int)=2)&&m.w.testBit k)=false):barred m acts (k+1)=false:=by
 unfold barred at h ⊢;have e:acts.getD k 0=x:=by rw[List.getD_eq_getElem?_getD,hx];rfl
 rw[List.range_succ,List.any_append,h];simp only[List.any_cons,List.any_nil,Bool.or_false,Bool.false_or,e]
 have:(x==2)=decide ((x:Int)=2):=by
  by_cases h2:x=2
  ·subst h2;rfl
  ·have h3:¬(x:Int)=2:=om;simp[h2,h3]
 rw[this];exact hn
theorem zG3 (hx:acts[k]?=some x) (hn:(decide ((x:Int)=2)&&m.w.testBit k)=true):barred m acts acts.length=true:=by
 unfold barred;rw[List.any_eq_true];have hlt:=(List.getElem?_eq_some_iff.1 hx).1;have e:acts.getD k 0=x:=by rw[List.getD_eq_getElem?_getD,hx];rfl
 refine⟨k,List.mem_range.2 hlt,?_⟩;rw[e];simp only[Bool.and_eq_true,decide_eq_true_eq] at hn;have h2:x=2:=om;rw[hn.2,h2]
 rfl
theorem zKq (hx:acts[k]?=some x):firesN acts (k+1)=firesN acts k+if (x:Int)=3 then 1 else 0:=by
 unfold firesN;rw[List.take_add_one,hx,List.countP_append];simp only[Option.toList,List.countP_cons,List.countP_nil,Nat.zero_add]
 congr 1
 by_cases h:x=3
 ·subst h;rfl
 ·have h3:¬(x:Int)=3:=om;simp[h,h3]
theorem zN5 (acts:List Nat) (k:Nat):firesN acts k<=k:=by
 unfold firesN;exact Nat.le_trans List.countP_le_length (by rw[List.length_take];omega)
def dayEnd (x:Nat×Mor):Ending:=if x.1=0 then .returned x.2.val else .panicked [{v:=.iface 168 (.agg #[.int .i64 (x.1:Int)]),recovered:=false}]
theorem day12 (h:barred m acts acts.length=true):dayE fs kiln m acts sugar=(12,m):=by unfold dayE;rw[if_pos h]
theorem day6 (h:barred m acts acts.length=false) (h2:kiln<firesN acts acts.length):dayE fs kiln m acts sugar=(6,m):=by unfold dayE;rw[if_neg (by rw[h];simp),if_pos h2]
theorem day9 {fs:List Flt} {kiln:Nat} {m:Mor} {acts:List Nat} {sugar:Nat} (h:barred m acts acts.length=false) (h2:¬kiln<firesN acts acts.length) (h3:0<(dRun fs m acts sugar acts.length).1):dayE fs kiln m acts sugar=(9,m):=by unfold dayE;rw[if_neg (by rw[h];simp),if_neg h2,if_pos h3]
theorem day0 {fs:List Flt} {kiln:Nat} {m:Mor} {acts:List Nat} {sugar:Nat} (h:barred m acts acts.length=false) (h2:¬kiln<firesN acts acts.length) (h3:¬0<(dRun fs m acts sugar acts.length).1):dayE fs kiln m acts sugar=(0,(dRun fs m acts sugar acts.length).2):=by unfold dayE;rw[if_neg (by rw[h];simp),if_neg h2,if_neg h3]
theorem yQ (hf:∀f∈fs,FltOk f) (hm:MOk m) (hl:acts.length<=fs.length) (h3:fs.length<=3):MOk (dayE fs kiln m acts sugar).2∧((dayE fs kiln m acts sugar).1≠0->(dayE fs kiln m acts sugar).2=m):=by
 have h:=(zH7 (acts:=acts) (sugar:=sugar) hf hm acts.length hl om).1;unfold dayE
 split
 ·exact⟨hm,fun _=>rfl⟩
 ·split
  ·exact⟨hm,fun _=>rfl⟩
  ·split
   ·exact⟨hm,fun _=>rfl⟩
   ·exact⟨h,fun x=>absurd J x⟩
end
section
variable [I:Sys]
theorem F.ent138:Enters TP 138:=jD Tryz.func138 rfl kr
theorem F.ent139:Enters TP 139:=jD Tryz.func139 rfl kr
theorem F.ent140:Enters TP 140:=jD Tryz.func140 rfl kr
theorem F.fi25_1:FI TP 25 1 3 1:=⟨_,_,Tryz.underlying25,rfl,rfl,rfl⟩
theorem F.follows:TP.follows .mixedOrders=true:=by kernel_rfl
theorem F.pl168:Places TP 168 [(0,1)]:=.inl ⟨_,Tryz.underlying168,by kernel_rfl⟩
theorem F.ti168:TI TP 168 (.agg #[.int .i64 0]) 1 8:=TI.of kr
theorem jF1 (fA dA aA:Option Addr) (fc nd dc ac kiln:Nat) (fs:List Flt) (h3:fs.length<=3) (hf:∀f∈fs,FltOk f) (z0 z1 z2 zw:Nat) (hz0:z0<=4) (hz1:z1<=4) (hz2:z2<=4) (hzw:zw<8) (acts:List Nat) (hla:acts.length<=fs.length) (sugar:Nat) (hs:sugar<=12) (w:World) (hF:RdL Flt.cells 4 w fA fs) (hA:RdL ncell 1 w aA acts):Calls TP 117 #[(CG fA fs.length fc kiln dA nd dc),.agg (V4 z0 z1 z2 zw).toArray,.slice aA acts.length ac,.int .i64 (sugar:Int)] w fun e w'=>e=dayEnd (dayE fs kiln (⟨[z0,z1,z2],zw⟩:Mor) acts sugar)∧Grew w w' []:=by
 have hm:MOk (⟨[z0,z1,z2],zw⟩:Mor):=⟨rfl,(by simp;omega),hzw⟩;refine enter (N:=102) [(0,(CG fA fs.length fc kiln dA nd dc)),(1,.agg (V4 z0 z1 z2 zw).toArray),(2,.slice aA acts.length ac),(3,.int .i64 (sugar:Int))] Tryz.func117 J Tryz.ntmps117 J J (csr (jT J J ?_));intro b4;refine jT J J ?_;intro b5;refine zW J F.ti93 ?_;intro b8;refine lnx (csr (lax J J (zG (csr (zA J J (jR J J U23 (zA J J (lnx (zQ (qT (G:=Nat) (fun k=>k<=acts.length∧barred (⟨[z0,z1,z2],zw⟩:Mor) acts k=false) (fun k=>acts.length-k) (fun k=>[(3,.int .i64 (sugar:Int)),(4,pt b4),(5,pt b5),(2,.slice aA acts.length ac),(8,pt b8),(9,.int .i64 ((firesN acts k:Nat):Int)),(16,.slice aA acts.length ac),(17,.int .i64 (acts.length:Int)),(18,.int .i64 (k:Int))]) (fun k=>[.blk b8 (.cells #[.int .i64 0,.int .i64 0,.int .i64 0,.int .u8 0] 93 (0,0)),.blk b5 (.cells (V4 z0 z1 z2 zw).toArray 93 (0,0)),.blk b4 (CO fA fs.length fc kiln dA nd dc 78)]) 0 ⟨Nat.zero_le _,rfl⟩ sbn sbl ?_))))))))));intro k hk;(try dsimp only at hk ⊢);refine csr (zE J J J jY ?_)
 refine lnx (zG (zK J (fun hc0=>?_) (fun hc0=>?_)))
 ·have hk':k<acts.length:=om;obtain⟨b,o,rfl,hb,hcell⟩:=hA om;obtain⟨x,hx⟩:∃x,acts[k]?=some x:=⟨_,List.getElem?_eq_getElem hk'⟩;refine zO (zD (zG (zQ (csr (zA J J (jO (j:=k) J J J U23 F.ti3 J hk' (jM (v:=.int .i64 (x:Int)) J J F.one3 (fun a w ha=>ha.old (hcell k x hx 0 _ J) hb) ?_)))))))
  refine zF J J (lax J J (zG (csr (vU 8 30 (.bool (decide ((x:Int)=2)&&zw.testBit k)) ?_ ?_))))
  ·refine zA J J (zE J J J kD ?_)
   refine zA J J (vE (t:=25) J (fun hg25=>?_) (fun hg25=>?_))
   ·exact zM J J (zI J J F.fi93_1 F.ti91 (zM J J (zS J J F.one91 (zM J J (zA J J (zM J J (jE (vs:=[_,_]) J J F.ent138 (fun a w ha=>jF3 zw k hzw om w) (jH J J J (zB (qN (.cons (by first|(simp_all[look];done)|(simp_all[look];omega)) sbn) sbl))))))))))
   ·exact zR J J J (zR J J J (zR J J J (zR J J J (jU J J J (zB (qN (.cons (by first|(simp_all[look];done)|(simp_all[look];omega)) sbn) sbl))))))
  refine lnx (kH J (fun hc1=>?_) (fun hc1=>?_))
  ·exact zL (kM (vs:=[(0,_)]) (l':=[_]) J J F.ti168 F.pl168 (.cons J J (.nil _)) J (vG J J Tryz.underlying168 J (zHm J (yS (zE4 (yS (yS (zE4 (yS (zI6 J (fun a w ha=>⟨by rw[day12 (zG3 hx hc1)];rfl,ha.grown nsl⟩)))))))))))
  ·have hbk:=zA7 hx hk.2 hc1;have hfk:=zKq hx;have hfl:=zN5 acts k;refine zO (zD (csr (zA J J (zE J J J kD ?_))))
   refine lnx (zK J (fun hc2=>?_) (fun hc2=>?_))
   ·refine zL (zA J J (zE (v:=.int .i64 ((firesN acts k+1:Nat):Int)) J J J bdP (zF J J (zB (zJ (zD (zL (zE J J J bdO (zA J J (zB ?_))))))))));rw[if_pos hc2] at hfk;refine kV (k+1) ⟨by omega,hbk⟩ tdo (by (try dsimp only);rw[hfk];exact sbn) sbl
   ·refine zO (zJ (zD (zL (zE J J J bdO (zA J J (zB ?_))))));rw[if_neg hc2,Nat.add_zero] at hfk;refine kV (k+1) ⟨by omega,hbk⟩ tdo (by (try dsimp only);rw[hfk];exact sbn) sbl
 ·obtain⟨hk,hbar⟩:=hk;obtain rfl:k=acts.length:=om;refine jV (zN (zN (zY (zD (zG (csr (zA J J (zI J J F.fi78_0 F.ti25 (zI J J F.fi25_1 F.ti3 (zS J J F.one3 (zE J J J wM ?_)))))))))))
  refine lnx (zK J (fun hc3=>?_) (fun hc3=>?_))
  ·exact zL (kM (vs:=[(0,_)]) (l':=[_]) J J F.ti168 F.pl168 (.cons J J (.nil _)) J (vG J J Tryz.underlying168 J (zHm J (yS (zI6 J (fun a w ha=>⟨by rw[day6 hbar om];rfl,ha.grown nsl⟩))))))
  ·have hkiln:¬kiln<firesN acts acts.length:=om;refine zO (zD (csr (zZ J J F.agg93 F.ti93 (zW J F.ti93 ?_))));intro b12;refine zH J J F.ti93 J (lnx (zG (csr (zA J J (jR J J U23 (zA J J (lnx (zQ (qT (G:=Nat) (fun k=>k<=acts.length) (fun k=>acts.length-k) (fun k=>[(3,.int .i64 (((dRun fs (⟨[z0,z1,z2],zw⟩:Mor) acts sugar k).1:Nat):Int)),(4,pt b4),(5,pt b5),(8,pt b8),(12,pt b12),(46,.slice aA acts.length ac),(47,.int .i64 (acts.length:Int)),(48,.int .i64 (k:Int))]) (fun k=>[.blk b12 (.cells (Mor.cells (dRun fs (⟨[z0,z1,z2],zw⟩:Mor) acts sugar k).2).toArray 93 (0,0)),.blk b8 (.cells #[.int .i64 0,.int .i64 0,.int .i64 0,.int .u8 0] 93 (0,0)),.blk b5 (.cells (V4 z0 z1 z2 zw).toArray 93 (0,0)),.blk b4 (CO fA fs.length fc kiln dA nd dc 78)]) 0 (Nat.zero_le _) sbn sbl ?_)))))))));intro k hk;(try dsimp only at hk ⊢);refine csr (zE J J J jY ?_)
   refine lnx (zG (zK J (fun hc4=>?_) (fun hc4=>?_)))
   ·have hk':k<acts.length:=om;obtain⟨b,o,rfl,hb,hcell⟩:=hA om;obtain⟨x,hx⟩:∃x,acts[k]?=some x:=⟨_,List.getElem?_eq_getElem hk'⟩;have hk3:k<fs.length:=om;obtain⟨f,hfx⟩:∃f,fs[k]?=some f:=⟨_,List.getElem?_eq_getElem hk3⟩;have hfok:=hf f (List.mem_of_getElem? hfx);obtain⟨bf,bo,rfl,hbf,hcf⟩:=hF om;have hnx:=zAa fs (⟨[z0,z1,z2],zw⟩:Mor) acts sugar k;obtain⟨hmk,hsk⟩:=zH7 (sugar:=sugar) (acts:=acts) hf hm k om om;rw[zEi,show acts.getD k 0=x from by rw[List.getD_eq_getElem?_getD,hx];rfl,show fs.getD k default=f from by rw[List.getD_eq_getElem?_getD,hfx];rfl] at hnx
    generalize hst:dRun fs (⟨[z0,z1,z2],zw⟩:Mor) acts sugar k=st at hnx hmk hsk ⊢
    obtain⟨sk,nk⟩:=st;obtain⟨n0,n1,n2,nw,rfl,hn0,hn1,hn2,hnw⟩:=hmk.form;have hgm:[z0,z1,z2].getD k 0<=4:=zKb hz0 hz1 hz2 k;dsimp only at hnx hsk ⊢;have hmi:min sk ([z0,z1,z2].getD k 0)<=[z0,z1,z2].getD k 0:=Nat.min_le_right ..;obtain⟨y0,y1,y2,hy1,hy2⟩:=zM5 n0 n1 n2 (.int .u8 (nw:Int)) nw k (aftOf f ([z0,z1,z2].getD k 0) k x sk (⟨[z0,z1,z2],zw⟩:Mor)) J om;rw[hy1] at hnx;simp only[Mor.cells,List.map_cons,List.map_nil,List.cons_append,List.nil_append];refine zO (zD (zG (zQ (csr (zA J J (jO (j:=k) J J J Tryz.underlying23 F.ti3 J hk' (jM (v:=.int .i64 (x:Int)) J J F.one3 (fun a w ha=>ha.old (hcell k x hx 0 _ J) hb) (zF J J (lax J J (csr (lax J J (csr (zZ J J F.agg93 F.ti93 (zA J J (zA J J (zA J J (jE (vs:=[_,_,_,_]) J J F.ent139 (fun a w ha=>jFp z0 z1 z2 zw k x sk hz0 hz1 hz2 om om w) (zA J J (jF J J J (jF J J J (zF J J (lax J J (zG (jS [.b b12] F.follows 19 J (fl 19) J (anm 0 J J J (anm 1 J J J (zC 2 J J J (zP J F.fi78_0 F.ti25) (zC 3 J J J (zP J F.fi25_0 F.ti22) (zC 4 J J J (jJ J F.one22) (anm 5 J J J (zC 6 J J J (jG (j:=k) J J Tryz.underlying22 F.ti27 J om) (zC 7 J J J (qW (l:=[.int .i64 (f.power:Int),.int .i64 (f.gain:Int),.int .i64 (f.now:Int),.bool f.washed]) J F.agg27 F.ti27 J (fun a w ha j u hu=>ha.old (hcf k f hfx j u hu) hbf)) (anm 8 J J J (zC 9 J J J (zP J F.fi93_0 F.ti90) (zC 10 J J J (zGj (j:=k) J J Tryz.underlying90 F.ti3 J om) (zC 11 J J J (jC (v:=.int .i64 (([z0,z1,z2].getD k 0:Nat):Int)) J F.one3 (fun a w ha=>qY (ha.mem_blk (InB.mem (b:=b5) (o:=.cells (V4 z0 z1 z2 zw).toArray 93 (0,0)))) (by rw[Nat.zero_add,Nat.mul_one];exact zG9 z0 z1 z2 _ k om))) (zC 12 J J J (zQi (fs:=[_]) (cs:=[]) J J) (zC 13 J J J (zNt (m:=(⟨[z0,z1,z2],zw⟩:Mor)) (i:=k) (k:=x) (s:=sk) J) (anm 14 J J J (zC 16 J J J (zP J F.fi93_0 F.ti90) ?_))))))))))))))))))))))))))))))))))))))));refine an1 15 J (zWu (m:=(⟨[z0,z1,z2],zw⟩:Mor)) (i:=k) (k:=x) (s:=sk) (now:=[z0,z1,z2].getD k 0) (f:=f) J J J hfok hgm hmi (zB (anb (zC 17 J J J (zGj (j:=k) J J Tryz.underlying90 F.ti3 J om) (an1 18 J (zGs (cs:=(V4 n0 n1 n2 nw)) (cs':=(V4 y0 y1 y2 nw)) J J F.ti3 (by simp;omega) (by rw[Nat.zero_add,Nat.mul_one];exact hy2.symm) (.head _) (zB (anb (adn (zD (csr (zA J J (lnx (zQ (csr (zDf (r:=.tuple #[.agg #[],.bool (decide ((x:Int)=2))]) J J (fun w=>zXn _ _ _ _ w) ?_))))))))))))))))
    refine jF J J J (jF J J J (lnx (zK J (fun hc5=>?_) (fun hc5=>?_))))
    ·refine zL (zI J J F.fi93_1 F.ti91 (zS J J F.one91 (zA J J (jE (vs:=[_,_]) J J F.ent99 (fun a w ha=>zV9 nw k hnw om w) (zI J J F.fi93_1 F.ti91 (zH J J F.ti91 J (zB (zJ (zJ (zD (zL (zE J J J bdO (zA J J (zB (kV (k+1) om tdo (by (try dsimp only);rw[hnx];exact sbn) (by (try dsimp only);rw[hnx];dsimp only;rw[if_pos om];simp only[List.map_cons,List.map_nil,List.cons_append,List.nil_append];exact sbl))))))))))))))))
    ·refine csr (zDf (r:=.tuple #[.agg #[],.bool (decide ((x:Int)=3))]) J J (fun w=>zZm _ _ _ _ w) ?_)
     refine jF J J J (jF J J J (lnx (zK J (fun hc6=>?_) (fun hc6=>?_))))
     ·refine zL (zI J J F.fi93_1 F.ti91 (zS J J F.one91 (zA J J (jE (vs:=[_,_]) J J F.ent140 (fun a w ha=>zWz nw k hnw om w) (zI J J F.fi93_1 F.ti91 (zH J J F.ti91 J (zB (zJ (zJ (zD (zL (zE J J J bdO (zA J J (zB (kV (k+1) om tdo (by (try dsimp only);rw[hnx];exact sbn) (by (try dsimp only);rw[hnx];dsimp only;rw[if_neg om,if_pos om];simp only[List.map_cons,List.map_nil,List.cons_append,List.nil_append];exact sbl))))))))))))))))
     ·refine zO (zJ (zJ (zD (zL (zE J J J bdO (zA J J (zB (kV (k+1) om tdo (by (try dsimp only);rw[hnx];exact sbn) (by (try dsimp only);rw[hnx];dsimp only;rw[if_neg om,if_neg om];simp only[List.map_cons,List.map_nil,List.cons_append,List.nil_append];exact sbl)))))))))
   ·obtain rfl:k=acts.length:=om;obtain⟨hmk,hsk⟩:=zH7 (sugar:=sugar) (acts:=acts) hf hm acts.length om om;have h9:=@day9 fs kiln (⟨[z0,z1,z2],zw⟩:Mor) acts sugar hbar hkiln;have h0:=@day0 fs kiln (⟨[z0,z1,z2],zw⟩:Mor) acts sugar hbar hkiln
    generalize dRun fs (⟨[z0,z1,z2],zw⟩:Mor) acts sugar acts.length=st at h9 h0 hmk hsk ⊢
    obtain⟨sk,nk⟩:=st;obtain⟨n0,n1,n2,nw,rfl,hn0,hn1,hn2,hnw⟩:=hmk.form;dsimp only at h9 h0 hsk ⊢;simp only[Mor.cells,List.map_cons,List.map_nil,List.cons_append,List.nil_append];refine jV (zN (zN (zY (zD (zG (csr (zA J J (zE J J J wM ?_))))))))
    refine lnx (zK J (fun hc7=>?_) (fun hc7=>?_))
    ·exact zL (kM (vs:=[(0,_)]) (l':=[_]) J J F.ti168 F.pl168 (.cons J J (.nil _)) J (vG J J Tryz.underlying168 J (zHm J (yS (zI6 J (fun a w ha=>⟨by rw[h9 om];rfl,ha.grown nsl⟩))))))
    ·exact zO (zD (csr (zZ J J F.agg93 F.ti93 (zH J J F.ti93 J (lnx (zV (zX J (fun a w ha=>by exact xC (ha:=ha) J J F.agg93 F.ti93 J) (fun a w ha=>⟨by rw[h0 om];rfl,ha.grown nsl⟩))))))))

variable {hp:List Res}
theorem F.fi168_0:FI TP 168 0 36 0:=⟨_,_,Tryz.underlying168,rfl,rfl,rfl⟩
theorem F.ti36:TI TP 36 (.int .i64 0) 1 8:=TI.of kr
theorem F.one36:One TP 36:=⟨by unfold aggB;rw[Tryz.underlying36],by rw[Tryz.underlying36];simp⟩
theorem jCe (p0 p1 p2:Option Addr) (w:World):CallsD TP 116 #[.pointer p0,.pointer p1,.pointer p2] .returning w fun e u w'=>e=.returned (.tuple #[])∧u=.returning∧Rl w w':=by
 refine enterS (C:=⟨TP,w.heap.size,w,0,[]⟩) (vs:=[.pointer p0,.pointer p1,.pointer p2]) (N:=14) [(0,.pointer p0),(1,.pointer p1),(2,.pointer p2)] (At.bare0 _ w) Tryz.func116 J Tryz.ntmps116 J J fun c₀ cs hu=>(zOk (zUs (by simp[recoverD,hu]) J (zDf (r:=.tuple #[.agg #[.int .i64 0],.bool false]) J J (fun w=>by simp[Instr.typeAssert,go_sem]) (zA J J (jF J J J (jF J J J (zW J F.ti168 ?_)))))));intro b3;refine zH J J F.ti168 J (zF J J (zB (zQb (zPt (csr (zA J J (lnx (kL J (zO ?_)))))))));exact fun a w' ha=>⟨ha.defs,.returning,by rw[<-hu],_,zJb (C:=⟨TP,_,_,14,_⟩) J ha,rfl,rfl,ha.below⟩
section
variable {B N N0:Nat} {w0:World} {ds0:List Deferred} {fr fr0:LV} {a0:Act} {w:World} {b4 b5 b8 b9:Nat} {o4:Obj} {z0 z1 z2 zw:Nat} {fn:Func} {R:Ending->World->Prop}
abbrev mcells (z0 z1 z2 zw:Nat):List Value:=(V4 z0 z1 z2 zw)
abbrev tryH (b4 b5 b8 b9:Nat) (o4:Obj) (z0 z1 z2 zw:Nat) (nx:List Value) (e:Int):List Res:=[.blk b9 (.cells #[.int .i64 e] 36 (0,0)),.blk b8 (.cells nx.toArray 93 (0,0)),.blk b5 (.cells (mcells z0 z1 z2 zw).toArray 93 (0,0)),.blk b4 o4]
theorem zW3 (ha0:At ⟨TP,B,w0,N0,ds0⟩ fr0 (tryH b4 b5 b8 b9 o4 z0 z1 z2 zw [.int .i64 0,.int .i64 0,.int .i64 0,.int .u8 0] 0) a0 w) (n:Int) :
  CallsD TP 116 #[pt b5,pt b8,pt b9] (.panicking [{v:=.iface 168 (.agg #[.int .i64 n]),recovered:=false}]) w
   fun e u w'=>e=.returned (.tuple #[])∧u=.panicking [{v:=.iface 168 (.agg #[.int .i64 n]),recovered:=true}]∧At ⟨TP,B,w0,N0,ds0⟩ fr0 (tryH b4 b5 b8 b9 o4 z0 z1 z2 zw (mcells z0 z1 z2 zw) n) a0 w':=by
 refine enterS (vs:=[pt b5,pt b8,pt b9]) (N:=14) [(0,pt b5),(1,pt b8),(2,pt b9)] ha0 Tryz.func116 J Tryz.ntmps116 J J fun c₀ cs hu0=>(zOk (zXf (x:=.iface 168 (.agg #[.int .i64 n])) (cs':={c₀ with mode:=.panicking [{v:=.iface 168 (.agg #[.int .i64 n]),recovered:=true}]}::cs) (by simp[recoverD,hu0]) J (zDf (r:=.tuple #[.agg #[.int .i64 n],.bool true]) J J (fun w=>by simp[Instr.typeAssert,go_sem]) (zA J J (jF J J J (jF J J J (zW J F.ti168 ?_)))))));intro b3;refine zH J J F.ti168 J (zF J J (zB (zQb (zPt (csr (zA J J (lnx (qE J (jS [.b b8,.b b9] F.follows 5 J (fl 5) J (zC 1 J J J (zP J F.fi168_0 F.ti36) (zC 2 J J J (jJ J F.one36) (an1 0 J (zZ J J F.agg93 F.ti93 (zB (anb (an1 3 J (zH J J F.ti93 J (zB (anb (an1 4 J (zH J J F.ti36 J (zB (anb (adn ?_))))))))))))))))))))))));exact fun a w' ha=>⟨ha.defs,_,rfl,_,zJb (C:=⟨TP,_,_,14,_⟩) J ha,rfl,rfl,(ha0.back ha).pck (.skip _ (.refl _))⟩
def tryD (b5 b8 b9:Nat):Deferred:={target:=.fn (.func 116) #[.pointer (some ⟨b5,0,none⟩),.pointer (some ⟨b8,0,none⟩),.pointer (some ⟨b9,0,none⟩)],args:=#[]}
theorem zJ8:Invokes TP (.func 116) #[pt b5,pt b8,pt b9] #[] 116 #[pt b5,pt b8,pt b9] :=
 zDc (jD Tryz.func116 J kr) (by simp)
theorem zTt (k:∀a w,At ⟨TP,B,w0,N,[tryD b5 b8 b9]⟩ fr hp a w->∃v,ResV TP fn a.tmps v w∧R (.returned v) w):Ex ⟨TP,B,w0,N,[tryD b5 b8 b9]⟩ (bodyPostD TP fn R) .ret fr hp:=by
 intro a w ha;show Leaves TP fn a.tmps R a.defers .returning w;rw[ha.defs];refine zI1 (by simp) zJ8 ((jCe _ _ _ w).mono ?_);rintro e u w' ⟨rfl,rfl,hr⟩;obtain⟨v,h1,h2⟩:=k a w' (ha.rely hr);exact⟨v,h1,h2⟩
theorem zOr {n:Int} (k:∀a w,At ⟨TP,B,w0,N,[tryD b5 b8 b9]⟩ fr (tryH b4 b5 b8 b9 o4 z0 z1 z2 zw (mcells z0 z1 z2 zw) n) a w->∃v,ResV TP fn a.tmps v w∧R (.returned v) w) :
  Ex ⟨TP,B,w0,N,[tryD b5 b8 b9]⟩ (bodyPostD TP fn R) (.panic [{v:=.iface 168 (.agg #[.int .i64 n]),recovered:=false}]) fr (tryH b4 b5 b8 b9 o4 z0 z1 z2 zw [.int .i64 0,.int .i64 0,.int .i64 0,.int .u8 0] 0):=by
 intro a w ha;show Leaves TP fn a.tmps R a.defers (.panicking [{v:=.iface 168 (.agg #[.int .i64 n]),recovered:=false}]) w;rw[ha.defs];refine zI1 (by simp) zJ8 ((zW3 ha n).mono ?_);rintro e u w' ⟨rfl,rfl,ha'⟩;obtain⟨v,h1,h2⟩:=k a _ ha';exact⟨v,h1,h2⟩
theorem zE3 {C:Ctx} {a:Act} {u t n m:Nat} {ty ty' ct ct':TypeId} {z x:Value} {l:List Value} {b b':Nat} (h:fn.results=#[.cell u ty,.cell t ty']) (hu:look fr u=some (pt b)) (hv:look fr t=some (.pointer (some ⟨b',0,none⟩))) (ht:aggB C.P ty=true) (hi:TI C.P ty z n m) (ht':One C.P ty')
  [hm:InB b (.cells l.toArray ct (0,0)) hp] [hm':InB b' (.cells #[x] ct' (0,0)) hp] (hl:l.length=n) (ha:At C fr hp a w):ResV C.P fn a.tmps ((.tuple #[.agg l.toArray,x])) w:=by
 refine⟨wH ..,fun v₁ hrely=>?_⟩;have ha:=ha.rely hrely;have h2:=ha.slots u _ hu;have h1:=ha.slots t _ hv;have hl':=zB3 ha ht hi hl (ct:=ct) (b:=b);have hc:v₁.cell? ⟨b',0,none⟩=some x:=qY (ha.mem_blk hm'.mem) J;have hl2:(loadVar ty' ⟨b',0,none⟩).run C.P v₁=.ok x v₁:=by simp[loadVar,zAb ht'.1 ht'.2,hc]
 simp only[results,h,Array.getD_eq_getD_getElem?] at h1 h2 ⊢;simp[h1,h2,zF3,hl',hl2]
end
end
section
variable [I:Sys]
theorem F.agg78:aggB TP 78=true:=by unfold aggB;rw[Tryz.underlying78]
theorem F.ent117:Enters TP 117:=jD Tryz.func117 rfl kr
theorem F.ti78:TI TP 78 (.agg #[.slice none 0 0,.int .i64 0,.slice none 0 0]) 3 56:=TI.of kr
theorem zN2 (fA dA aA:Option Addr) (fc nd dc ac kiln:Nat) (fs:List Flt) (h3:fs.length<=3) (hf:∀f∈fs,FltOk f) (z0 z1 z2 zw:Nat) (hz0:z0<=4) (hz1:z1<=4) (hz2:z2<=4) (hzw:zw<8) (acts:List Nat) (hla:acts.length<=fs.length) (sugar:Nat) (hs:sugar<=12) (w:World) (hF:RdL Flt.cells 4 w fA fs) (hA:RdL ncell 1 w aA acts):Calls TP 97 #[(CG fA fs.length fc kiln dA nd dc),.agg (V4 z0 z1 z2 zw).toArray,.slice aA acts.length ac,.int .i64 (sugar:Int)] w fun e w'=>e=.returned (.tuple #[(dayE fs kiln (⟨[z0,z1,z2],zw⟩:Mor) acts sugar).2.val,.int .i64 (((dayE fs kiln (⟨[z0,z1,z2],zw⟩:Mor) acts sugar).1:Nat):Int)])∧Grew w w' []:=by
 have hm:MOk (⟨[z0,z1,z2],zw⟩:Mor):=⟨rfl,(by simp;omega),hzw⟩;refine zO4 (N:=16) [(0,(CG fA fs.length fc kiln dA nd dc)),(1,.agg (V4 z0 z1 z2 zw).toArray),(2,.slice aA acts.length ac),(3,.int .i64 (sugar:Int))] Tryz.func97 J Tryz.ntmps97 J J (csr (jT J J ?_));intro b4;refine jT J J ?_;intro b5;refine zW J F.ti93 ?_;intro b8;refine zW J F.ti36 ?_;intro b9;refine lnx (csr (wG (fs:=[]) (cs:=[_,_,_]) J J J (zMk (first:=[]) (cap:=[_,_,_]) (vs:=[]) J J (lnx (csr (zZ J J F.agg78 F.ti78 (zZ J J F.agg93 F.ti93 (zA J J (zA J J ?_)))))))));obtain⟨hok2,hsame⟩:=yQ (fs:=fs) (kiln:=kiln) (m:=(⟨[z0,z1,z2],zw⟩:Mor)) (acts:=acts) (sugar:=sugar) hf hm hla h3;have hday:∀w,RdL Flt.cells 4 w fA fs->RdL ncell 1 w aA acts->Calls TP 117 #[(CG fA fs.length fc kiln dA nd dc),.agg (V4 z0 z1 z2 zw).toArray,.slice aA acts.length ac,.int .i64 (sugar:Int)] w (fun e w'=>e=dayEnd (dayE fs kiln (⟨[z0,z1,z2],zw⟩:Mor) acts sugar)∧Grew w w' []):=fun w hF hA=>jF1 fA dA aA fc nd dc ac kiln fs h3 hf z0 z1 z2 zw hz0 hz1 hz2 hzw acts hla sugar hs w hF hA
 generalize hst:dayE fs kiln (⟨[z0,z1,z2],zw⟩:Mor) acts sugar=st at hok2 hsame hday ⊢
 obtain⟨n,nm⟩:=st;dsimp only at hok2 hsame hday ⊢
 by_cases hn:n≠0
 ·refine zNn (vs:=[_,_,_,_]) (ch:=[{v:=.iface 168 (.agg #[.int .i64 (n:Int)]),recovered:=false}]) J F.ent117 (fun a w ha=>(hday w (RdL.later hF ha.below) (RdL.later hA ha.below)).mono (fun e w' h=>⟨h.1.trans (by unfold dayEnd;rw[if_neg hn]),h.2⟩)) (yS (zOr (fun a w ha=>?_)));obtain rfl:=hsame hn;exact⟨_,by exact zE3 (C:=⟨TP,_,_,_,_⟩) (fn:=Tryz.f97) (ha:=ha) J J J F.agg93 F.ti93 F.one36 J,rfl,ha.grown nsl⟩
 obtain rfl:n=0:=om;obtain⟨y0,y1,y2,yw,rfl,hy0,hy1,hy2,hyw⟩:=hok2.form;exact jE (v:=.agg (V4 y0 y1 y2 yw).toArray) (vs:=[_,_,_,_]) J J F.ent117 (fun a w ha=>(hday w (RdL.later hF ha.below) (RdL.later hA ha.below)).mono (fun e w' h=>⟨h.1.trans J,h.2⟩)) (zH J J F.ti93 J (zH J J F.ti36 J (lnx (zV (zTt (fun a w ha=>⟨_,by exact zE3 (C:=⟨TP,_,_,_,_⟩) (fn:=Tryz.f97) (ha:=ha) J J J F.agg93 F.ti93 F.one36 J,rfl,ha.grown nsl⟩))))))

variable {X:Type} {args:Array Operand} {l:List (List Nat)} {ts:Array TypeId} {vs:List Value} {w0:World} {x:Operand}
section
variable {C:Ctx} {fr frC:LV} {hp hp' hpS:List Res} {a:Act} {w:World} {ops:Array Oper} {Q:QT} {rest:List Oper}
 {d:Nat} {ty:TypeId} {pos:String} {after:Array Edge} {r fuel:Nat} {listed listed':Array Bool}
abbrev Gout:Type:=Array (Nat×ByteArray)
theorem At.backO {N':Nat} {ds':List Deferred} {fr0:LV} {hp0:List Res} {a0:Act} {x:Gout} (h0:At C fr0 hp0 a0 w0) (h:At ⟨C.P,C.B,saying C.w0 x,N',ds'⟩ fr hp a w):At (C.out x) fr0 hp a0 w :=
 ⟨h0.size,h0.defs,h0.slots,h.below,h.base,h.own,h.apart⟩
theorem zHw {f:FuncId} {first cap:List Value} {p:X->Prop} {o:X->Gout} {val:X->Value} {rs:X->List Res} (hd:Nat.blt d C.N=true)
  (hx:ev fr x=some (.func (.func f) first.toArray cap.toArray)) (hargs:args.toList.map (ev fr)=vs.map some) (hf:Enters C.P f)
  (hc:∀a w,At C fr hp a w->Calls C.P f (first++vs++cap).toArray w fun e w'=>∃y,p y∧e=.returned (val y)∧At (C.out (o y)) fr (rs y) a w')
  (k:∀y,p y->Lst (C.out (o y)) ops Q rest ((d,val y)::fr) (rs y)):Lst C ops Q (⟨some d,.call {callee:=.value x,args:=args,argTypes:=ts},ty,pos,after,none⟩::rest) fr hp:=by
 refine xV J fun a w ha=>?_;refine⟨zFw (ha.eval hx) hf.2,?_⟩
 have hr:(execOp a.eval ⟨some d,.call {callee:=.value x,args:=args,argTypes:=ts},ty,pos,after,none⟩).run C.P w=.ok (.enter f (first++vs++cap).toArray) w:=by
  simp only[execOp,resolve,wI ha hargs,ha.eval hx,Deferred.ofValue,Sem.run_bind,Sem.run_pure,Result.andThen_ok,invoke,List.append_toArray];exact hf.1 _ w
 rw[hr];show Calls C.P f _ w _;refine (hc a w ha).mono ?_;rintro e w' ⟨x,h1,rfl,h2⟩;exact k x h1 _ _ (h2.put (kK hd) _)
theorem zTh {p:X->Prop} {o:X->Gout} {val:X->Value} {rs:X->List Res} (hd:Nat.blt d C.N=true)
  (hx:ev fr x=some (.func (.yield r) #[] #[])) (hargs:args.toList.map (ev fr)=vs.map some)
  (hc:∀a w,At C fr hp a w->YieldAt C.P r vs.toArray w fun e w'=>∃y,p y∧e=.returned (val y)∧At (C.out (o y)) fr (rs y) a w')
  (k:∀y,p y->Lst (C.out (o y)) ops Q rest ((d,val y)::fr) (rs y)) :
  Lst C ops Q (⟨some d,.call {callee:=.value x,args:=args,argTypes:=ts},ty,pos,after,none⟩::rest) fr hp:=by
 refine xV J fun a w ha=>?_;obtain⟨rec,h1,h2,h3⟩:=hc a w ha
 have he:execOp a.eval ⟨some d,.call {callee:=.value x,args:=args,argTypes:=ts},ty,pos,after,none⟩=Instr.yield r vs.toArray:=by
  simp only[execOp,resolve,wI ha hargs,ha.eval hx,Deferred.ofValue];simp[invoke]
 refine⟨by rw[he];exact zTo _ _,?_⟩;rw[he,run_yield h1 h2];refine h3.mono ?_;rintro e w' ⟨y,h4,rfl,h5⟩;exact k y h4 _ _ (h5.put (kK hd) _)
theorem zTp {id:Nat} {l:List Oper} (hpS:List Res) (hm:C.P.follows .mixedOrders=true) (n:Nat) (hn:l.length=n) (lst:List Bool) (hl:Array.replicate n false=lst.toArray) (h:AnyO C l.toArray Q hpS n lst.toArray fr hp) :
  Cod C (.region id l.toArray true) Q fr hp:=zUh hm n hn lst hl h
theorem zV0 (hr:Region.ready .any ops listed=[]) (h:Ex C Q .normal fr hp):AnyO C ops Q hpS fuel listed fr hp:=fun a w ha=>zIy hr (Lax.of (show OnlyN Q .normal a w from h a w ha)) fuel
theorem zTg {x:Gout} (hs:hpS.Sublist hp) (h:AnyO (C.out x) ops Q hpS fuel listed fr hp):Ex (C.out x) (Exit.then (NxtO C ops Q hpS fuel listed) (Lax (OnlyN Q))) .normal fr hp :=
 fun a w ha=>⟨⟨x,ha.toMem hs⟩,h a w ha⟩
theorem zF6 {Y:Type} {P:Program} {B N:Nat} {ds:List Deferred} {g:Operand} {ps:Array Tmp} {assign body:Code} {gf:FuncId} {lb:List Value} (p:Y->Prop) (o:Y->Gout) (jump:Y->Option Code) (ex:Y->Exit) (rs:Y->List Res)
  (hg:ev fr g=some (.func (.func gf) #[] lb.toArray)) (he:Enters P gf) (hj:∀y,p y->jump y=none∧ex y=.normal∨∃c,jump y=some c∧isJump (ex y) c)
  (h:∀(r D:Nat) (rec:Loop) (a:Act) (w:World),rec.state=.ready->rec.pending=none->rec.params=ps->rec.assign=assign->rec.body=body->rec.tmps.size=N->(∀t u,look fr t=some u->rec.tmps.getD t undef=u) ->
   At ⟨P,B,w0,N,ds⟩ fr (.blk r (.loop rec)::.blk D (.deferred (some []))::hp) a w ->
   Calls P gf (#[.func (.yield r) #[] #[]]++lb.toArray) w fun e w'=>(∃v,e=.returned v)∧∃y,p y∧At ⟨P,B,saying w0 (o y),N,ds⟩ fr (.blk r (.loop {rec with state:=if (jump y).isNone then .ready else .done,pending:=jump y})::.blk D (.deferred (some []))::rs y) a w')
  (k:∀(D:Nat) (y:Y),p y->Ex ⟨P,B,saying w0 (o y),N,{target:=.collected D,args:=#[]}::ds⟩ Q (ex y) fr (.blk D (.deferred (some []))::rs y)):Cod ⟨P,B,w0,N,ds⟩ (.rangeFunc g ps assign body) Q fr hp:=by
 intro a w ha;refine zOe fun fn v₁ hv=>?_;have ha1:=ha.rely hv
 have hrun:∀w,(rangeSem a g (v₁.heap.size+1)).run P w=.ok (.enter gf (#[.func (.yield (v₁.heap.size+1)) #[] #[]]++lb.toArray)) w:=fun w=>by
  unfold rangeSem;simp only[resolve,ha.eval hg,Deferred.ofValue,Sem.run_bind,Sem.run_pure,Result.andThen_ok,invoke];have:=he.1 (#[.func (.yield (v₁.heap.size+1)) #[] #[]]++lb.toArray) w;simpa[Act.eval] using this
 have htame:Tame P (rangeSem a g (v₁.heap.size+1)):=by
  unfold rangeSem;show Tame P (Deferred.ofValue (a.eval g) _ >>= fun d=>invoke d.target d.args);rw[ha.eval hg];exact he.2 _
 refine⟨gf,_,htame,hrun,?_⟩;have h1:=(ha1.alloc (.deferred (some []))).alloc (.loop (recIn fn a ps assign body v₁.heap.size));have h2:(v₁.alloc (.deferred (some []))).heap.size=v₁.heap.size+1:=by simp
 rw[h2] at h1;refine (h (v₁.heap.size+1) v₁.heap.size (recIn fn a ps assign body v₁.heap.size) a _ J J J J J ha1.size (fun t u hu=>ha1.slots t u hu) h1).mono ?_;rintro e w3 ⟨hx,y,hy,h3⟩;refine⟨hx,fun v4 hv4=>?_⟩;have h4:=h3.rely hv4;have hb:=(h4.own _ (List.mem_cons_self ..)).2;have h5:=(h4.putRec (rec':={(recIn fn a ps assign body v₁.heap.size) with state:=.exhausted,pending:=jump y})).drop_res (List.Sublist.cons _ (List.Sublist.refl _));have hend:=run_endLoop (P:=P) hb (by dsimp only;split<;>simp);refine⟨_,_,hend,?_⟩;have h6:=k v₁.heap.size y hy {a with defers:={target:=.collected v₁.heap.size,args:=#[]}::a.defers} _ ⟨h5.size,congrArg (_::·) ha1.defs,h5.slots,h5.below,h5.base,h5.own,h5.apart⟩
 rcases hj y hy with ⟨e1,e2⟩|⟨c,e1,e2⟩
 ·rw[e2] at h6;simp only[e1] at h6 ⊢;exact h6
 ·simp only[e1] at h6 ⊢
  cases hex:ex y<;>rw[hex] at e2 h6<;>cases c<;>first|exact e2.elim|exact h6|(simp only[isJump] at e2;subst e2;exact h6)
def YSpL (P:Program) (B:Nat) (w0:World) (r:Nat) {X:Type} (o:X->Gout) (T:X->List Res) (pre:X->List Nat->Prop) (step:X->List Nat->X->Bool->Prop):Prop :=
 ∀(x:X) (A:Option Addr) (c:Nat) (l:List Nat) (_:pre x l) (N:Nat) (ds:List Deferred) (fr:LV) (hp:List Res) (a:Act) (w:World),At ⟨P,B,saying w0 (o x),N,ds⟩ fr (.row 3 1 A l.length c (ints l)::(hp++T x)) a w ->
  YieldAt P r #[.slice A l.length c] w fun e w'=>∃x' b,step x l x' b∧e=.returned (.bool b)∧At ⟨P,B,saying w0 (o x'),N,ds⟩ fr (hp++T x') a w'
inductive Runs {X:Type} (step:X->List Nat->X->Bool->Prop):X->List (List Nat)->X->Bool->Prop
 | nil (x:X):Runs step x [] x true
 | cons {x x' x'':X} {l:List Nat} {ls:List (List Nat)} {b:Bool} (h:step x l x' true) (k:Runs step x' ls x'' b):Runs step x (l::ls) x'' b
 | stop {x x':X} {l:List Nat} {ls:List (List Nat)} (h:step x l x' false):Runs step x (l::ls) x' false
theorem Runs.app {step:X->List Nat->X->Bool->Prop} {x x' x'':X} {m:List (List Nat)} {b:Bool} (h:Runs step x l x' true) (k:Runs step x' m x'' b):Runs step x (l++m) x'' b:=by
 generalize ht:true=t at h
 induction h with
 | nil x=>exact k
 | cons h1 _ ih=>exact .cons h1 (ih k ht)
 | stop h1=>cases ht
theorem Runs.halts {step:X->List Nat->X->Bool->Prop} {x x':X} (m:List (List Nat)) (h:Runs step x l x' false):Runs step x (l++m) x' false:=by
 generalize ht:false=t at h
 induction h with
 | nil x=>cases ht
 | cons h1 _ ih=>exact .cons h1 (ih ht)
 | stop h1=>exact .stop h1
def Ready {X:Type} (pre:X->List Nat->Prop) (step:X->List Nat->X->Bool->Prop):X->List (List Nat)->Prop
 | _,[]=>True
 | x,l::ls=>pre x l∧∀x',step x l x' true->Ready pre step x' ls
theorem Ready.left {pre:X->List Nat->Prop} {step:X->List Nat->X->Bool->Prop}:∀{ls ms:List (List Nat)} {x:X},Ready pre step x (ls++ms)->Ready pre step x ls
 | [],_,_,_=>trivial
 | _::_,_,_,h=>⟨h.1,fun x' hx=>Ready.left (h.2 x' hx)⟩
theorem Ready.right {pre:X->List Nat->Prop} {step:X->List Nat->X->Bool->Prop} {ls ms:List (List Nat)} {x x':X} (h:Ready pre step x (ls++ms)) (hr:Runs step x ls x' true):Ready pre step x' ms:=by
 generalize ht:true=t at hr
 induction hr with
 | nil x=>exact h
 | cons h1 _ ih=>exact ih (h.2 _ h1) ht
 | stop h1=>cases ht
def exts:List Nat->Nat->List (List Nat)
 | l,0=>[l]
 | l,d+1=>(List.range 4).flatMap fun k=>exts (l++[k]) d
end
end
section
variable [I:Sys]
variable {A:Option Addr} {e t:TypeId} {m n:Nat} {x y:Operand} {z:Value}
section
variable {C:Ctx} {fr:LV} {hp hp':List Res} {ops:Array Oper} {Q:QT} {rest:List Oper} {d:Nat} {dst:Option Nat} {ty:TypeId} {pos:String} {after:Array Edge}
theorem zP4 {P:Program} (ht:P.underlying t=some (.slice e)):P.elem t=e:=by
 unfold Program.elem;rw[ht]
theorem zNu {y':Operand} {len cap:Nat} {kd kd':IntKind} (hx:ev fr x=some (.slice A len cap)) (hy:ev fr y=some (.int kd (len:Int))) (hy':ev fr y'=some (.int kd' (len:Int)))
  (ht:C.P.underlying t=some (.slice e)) (he:TI C.P e z n m) (hle:len<=cap):Yld C ⟨dst,.slice t x none (some y) (some y'),ty,pos,after,none⟩ fr hp (.slice A len len):=by
 obtain⟨i',hi',_,hs,_⟩:=he;refine⟨rfl,fun a w ha=>⟨zF7 ..,?_⟩⟩;have hu:=ht;rw[<-zP4 ht] at hu;have h1:(0:Int)<=(len:Int):=om;have h2:((len:Int)<=(cap:Int)):=om;have h3:¬cap<len:=om;have hsz:(sizeOf e).run C.P w=.ok n w:=by simp[sizeOf,typeInfo,hi',hs]
 simp only[execOp,ha.eval hx,Option.map,ha.eval hy,ha.eval hy',Sem.run_bind,run_sliceAt_slice _ _ _ _ _ _ hu]
 cases A with
 | none=>simp[Instr.slice,run_underlying ht,Instr.sliceBounds,Instr.sliceBound,asIntOf,h1,hle,hsz]
 | some p =>
  have hp0:p.add 0=p:=by unfold Addr.add;split<;>simp_all
  simp[Instr.slice,run_underlying ht,Instr.sliceBounds,Instr.sliceBound,asIntOf,h1,hle,hsz,hp0]
theorem zEa {b cb size bytes ct:Nat} {olds news:List Value} (hd:Nat.blt d C.N=true)
  (hx:ev fr x=some (.slice A n n)) (hy:ev fr y=some (.slice (some ⟨b,0,none⟩) m cb)) (ht:C.P.underlying t=some (.slice e)) (hi:TI C.P e z size bytes) (hzs:z.cells.size=size) (hs0:Nat.blt 0 size=true)
  [hb:InB b (.cells news.toArray ct (0,0)) hp] (hl:news.length=m*size) [ho:Ones news] (hm:0<m) (hnone:A=none->n=0) (hlo:olds.length=n*size) (hold:∀a w,At C fr hp a w->∀p,A=some p->∀j u,olds[j]?=some u->w.cell? (p.add j)=some u)
  (h63:n+m<=maxLen) (hbytes:(n+m)*bytes<=140737488355328)
  (k:∀A' c',Lst C ops Q rest ((d,.slice A' (n+m) c')::fr) (.row e size A' (n+m) c' (olds++news)::hp)) :
  Lst C ops Q (⟨some d,.call {callee:=.builtin .append,args:=#[x,y],argTypes:=#[t,t]},ty,pos,after,none⟩::rest) fr hp:=by
 refine xV J fun a w ha=>?_;obtain⟨i,hi1,hi2,hi3,hi4⟩:=hi;have hblk:=ha.mem_blk hb.mem;subst hi3;subst hi4
 have hnews:∀j u,news[j]?=some u->w.cell? ((⟨b,0,none⟩:Addr).add j)=some u:=by
  intro j u hu';rw[xW,Nat.zero_add];exact qY hblk hu'
 have key:∃v' w',(Builtin.append_ #[t,t] ty #[.slice A n n,.slice (some ⟨b,0,none⟩) m cb]).run C.P w=.ok v' w'∧w'.ownsRow w.heap.size e i.size v' (n+m) (olds++news)∧w.grownBy w' none:=by
  cases A with
  | some p=>exact run_append_arg_grows (P:=C.P) w t ty e i z i.size i.bytes ht hi1 hi2 rfl rfl hzs (kK hs0) p n n olds hlo (hold a w ha p rfl) ⟨b,0,none⟩ m cb news hl hnews om h63 hbytes
  | none =>
   obtain rfl:=hnone J;obtain rfl:olds=[]:=List.eq_nil_of_length_eq_zero (by simpa using hlo);obtain⟨v',w',hrun,r1,r2,_⟩:=run_append_own (P:=C.P) w w.heap.size t ty e i z i.size i.bytes ht hi1 hi2 J J hzs (kK hs0) (.slice none 0 0) 0 [] (World.ownsRow_nil w _ e i.size) ⟨b,0,none⟩ m cb news hl hnews ho.one h63 hbytes (Nat.le_refl _);exact⟨v',w',hrun,r1,r2⟩
 obtain⟨v',w',hrun,hown',hg⟩:=key;obtain⟨A',c',rfl⟩:=zC6 hown';refine⟨yL fun cs=>by simp only[List.map_toArray,List.map_cons,List.map_nil,ha.eval hx,ha.eval hy];exact zCq ht,?_⟩
 have hr':(execOp a.eval ⟨some d,.call {callee:=.builtin .append,args:=#[x,y],argTypes:=#[t,t]},ty,pos,after,none⟩).run C.P w=.ok (.value (.slice A' (n+m) c')) w':=by
  simp only[execOp,resolve,invoke,builtin,Sem.run_bind,Sem.run_pure,Result.andThen_ok,List.map_toArray,List.map_cons,List.map_nil,ha.eval hx,ha.eval hy,hrun]
 rw[hr'];have hbel:Below w.heap.size w w':=⟨hg.os,hg.tape,hg.output,hg.size,fun k hk=>hg.block k hk (by simp)⟩;have hres:(Res.row e i.size A' (n+m) c' (olds++news)).ok w.heap.size w':=hown'
 have:=ha.grew hbel (rs:=[.row e i.size A' (n+m) c' (olds++news)]) (fun r hr=>by rw[List.mem_singleton.1 hr];exact hres) (by
  cases h:Res.id (.row e i.size A' (n+m) c' (olds++news))<;>simp[h])
 exact k A' c' _ _ (this.put (kK hd) _)
end
end
section
variable [I:Sys]
variable {B d k:Nat} {X:Type} {l:List Nat}
theorem F.ent115:Enters TP 115:=jD Tryz.func115 rfl kr
theorem F.one166:One TP 166:=⟨by unfold aggB;rw[Tryz.underlying166],by rw[Tryz.underlying166];simp⟩
omit I in
theorem jDu {w:World} {e size n c:Nat} {A:Option Addr} {xs:List Value} (h:w.ownsRow B e size (.slice A n c) n xs):n<=c:=by
 rcases h.2 with ⟨h1,_⟩|⟨g,cap,cur,h1,_,_,h2,_⟩
 ·cases h1;exact Nat.le_refl _
 ·cases h1;exact h2
theorem zOu (hk:k<4):exts l (d+1)=((List.range k).flatMap fun j=>exts (l++[j]) d)++(exts (l++[k]) d++((List.range' (k+1) (3-k)).flatMap fun j=>exts (l++[j]) d)):=by
 show (List.range 4).flatMap _=_
 have:List.range 4=List.range k++(k::List.range' (k+1) (3-k)):=by
  rcases k with _|_|_|_|k
  ·rfl
  ·rfl
  ·rfl
  ·rfl
  ·omega
 rw[this,List.flatMap_append,List.flatMap_cons]
theorem zTw {pre:X->List Nat->Prop} {step:X->List Nat->X->Bool->Prop} {x:X} (hr:Ready pre step x (exts l d)) (hd:d=0):pre x l:=by
 subst hd;exact (show Ready pre step x [l] from hr).1
theorem zT3 {pre:X->List Nat->Prop} {step:X->List Nat->X->Bool->Prop} {x x1:X} (hr:Ready pre step x (exts l (d+1))) (h:Runs step x ((List.range k).flatMap fun j=>exts (l++[j]) d) x1 true) (hk:k<4):Ready pre step x1 (exts (l++[k]) d):=by
 rw[zOu hk] at hr;exact (hr.right h).left
theorem zWv {step:X->List Nat->X->Bool->Prop} {x x1 x2:X} (h:Runs step x ((List.range k).flatMap fun j=>exts (l++[j]) d) x1 true) (h2:Runs step x1 (exts (l++[k]) d) x2 false) (hk:k<4):Runs step x (exts l (d+1)) x2 false:=by
 rw[zOu hk];exact h.app (h2.halts _)

theorem jEu {o:X->Gout} {T:X->List Res} {pre:X->List Nat->Prop} {step:X->List Nat->X->Bool->Prop} {r b1 b2 b3 fc kiln nd dc:Nat} {w0:World} {fA dA:Option Addr} {fs:List Flt} (h3:fs.length<=3) (hY:YSpL TP B w0 r o T pre step):∀(d:Nat) (l:List Nat) (_:l.length+d=fs.length) {x:X} (_:Ready pre step x (exts l d)) {A:Option Addr} {c N:Nat} {ds:List Deferred} {fr:LV} {hp:List Res} {a:Act} {w:World} (_:At ⟨TP,B,saying w0 (o x),N,ds⟩ fr (.row 3 1 A l.length c (ints l)::.blk b3 (.cells #[.func (.func 115) #[] #[pt b1,pt b2,pt b3]] 166 (0,0))::.blk b2 (.cells #[.func (.yield r) #[] #[]] 166 (0,0))::.blk b1 (CO fA fs.length fc kiln dA nd dc 78)::(hp++T x)) a w),Calls TP 115 #[.slice A l.length c,pt b1,pt b2,pt b3] w fun e w'=>∃x' b,Runs step x (exts l d) x' b∧e=.returned (.bool b)∧At ⟨TP,B,saying w0 (o x'),N,ds⟩ fr (.blk b3 (.cells #[.func (.func 115) #[] #[pt b1,pt b2,pt b3]] 166 (0,0))::.blk b2 (.cells #[.func (.yield r) #[] #[]] 166 (0,0))::.blk b1 (CO fA fs.length fc kiln dA nd dc 78)::(hp++T x')) a w':=by
 intro d
 induction d using Nat.strongRecOn with
 | _ d ih =>
 intro l hl x hrd A c N ds fr hp a w ha0;have hlc:l.length<=c:=jDu (ha0.own _ (List.mem_cons_self ..))
 have hnone:A=none->l.length=0:=fun e=>by
  rcases Nat.eq_zero_or_pos l.length with h|h
  ·exact h
  ·obtain⟨g,hg⟩:=vN (ha0.own _ (List.mem_cons_self ..)) h;rw[e] at hg;cases hg
 refine yW (N:=33) [(0,.slice A l.length c),(1,pt b1),(2,pt b2),(3,pt b3)] ha0 Tryz.func115 J Tryz.ntmps115 J J (csr (lax J J (zG (csr (zA J J (jR J J U23 (zI J J F.fi78_0 F.ti25 (zI J J F.fi25_0 F.ti22 (zS J J F.one22 (jR J J U22 (zE J J J kD ?_)))))))))))
 refine lnx (zK J (fun hc0=>?_) (fun hc0=>?_))
 ·refine csr (zS J J F.one166 (zA J J (zTh (X:=X×Bool) (vs:=[_]) (p:=fun y=>step x l y.1 y.2) (o:=fun y=>o y.1) (val:=fun y=>.bool y.2) (rs:=fun y=>.blk b3 (.cells #[.func (.func 115) #[] #[pt b1,pt b2,pt b3]] 166 (0,0))::.blk b2 (.cells #[.func (.yield r) #[] #[]] 166 (0,0))::.blk b1 (CO fA fs.length fc kiln dA nd dc 78)::(hp++T y.1)) J J J (fun a w ha=>(hY x A c l (zTw hrd om) _ _ _ (.blk b3 (.cells #[.func (.func 115) #[] #[pt b1,pt b2,pt b3]] 166 (0,0))::.blk b2 (.cells #[.func (.yield r) #[] #[]] 166 (0,0))::.blk b1 (CO fA fs.length fc kiln dA nd dc 78)::hp) a w ha).mono (fun e w' h=>by obtain⟨x',b,h1,h2,h4⟩:=h;exact⟨(x',b),h1,h2,h4⟩)) ?_)));rintro⟨y,b⟩ hst;dsimp only at hst ⊢;refine lax J J (zV (zU ?_));obtain rfl:d=0:=om;exact zX J (rsO J J) (fun a w ha=>⟨y,b,(by cases b;exact .stop hst;exact .cons hst (.nil _)),rfl,ha0.backO ha⟩)
 ·obtain⟨d',rfl⟩:∃d',d=d'+1:=⟨d-1,by omega⟩;have ih:=ih d' om;refine zO (zD (zG (csr (zA J J (lnx (zQ (zD3 (T:=Nat×X) (fun g=>g.1<=4∧Runs step x ((List.range g.1).flatMap fun j=>exts (l++[j]) d') g.2 true) (fun g=>4-g.1) (fun g=>⟨TP,B,saying w0 (o g.2),33,[]⟩) (fun g=>[(0,.slice A l.length c),(1,pt b1),(2,pt b2),(3,pt b3),(17,.int .i64 (g.1:Int))]) (fun g=>.row 3 1 A l.length c (ints l)::.blk b3 (.cells #[.func (.func 115) #[] #[pt b1,pt b2,pt b3]] 166 (0,0))::.blk b2 (.cells #[.func (.yield r) #[] #[]] 166 (0,0))::.blk b1 (CO fA fs.length fc kiln dA nd dc 78)::(hp++T g.2)) (fun _=>rfl) (0,x) ⟨Nat.zero_le _,.nil _⟩ J sbn (Pck.refl _) ?_)))))));rintro⟨k,x1⟩ ⟨hk,hrun⟩;dsimp only at hk hrun ⊢;refine csr (zE J J J jY ?_)
  refine lnx (zG (zK J (fun hc1=>?_) (fun hc1=>?_)))
  ·refine zO (zD (zG (zQ (csr (zA J J (lax J J (zG (zTp [.row 3 1 A l.length c (ints l),.blk b3 (.cells #[.func (.func 115) #[] #[pt b1,pt b2,pt b3]] 166 (0,0)),.blk b2 (.cells #[.func (.yield r) #[] #[]] 166 (0,0)),.blk b1 (CO fA fs.length fc kiln dA nd dc 78)] F.follows 12 J (fl 12) J (wT 0 J J J kr kr kr sbl (fun _=>jJ J F.one166) J (wT 1 J J J kr kr kr sbl (fun _=>kF J) J (wT 2 J J J kr kr kr sbl (fun _=>kF J) J (wT 3 J J J kr kr kr sbl (fun _=>vQ J U23) J (wT 4 J J J kr kr kr sbl (fun _=>kF J) J (wT 5 J J J kr kr kr sbl (fun _=>vQ J U23) J (wT 6 J J J kr kr kr sbl (fun _=>zNu J J J U23 F.ti3 hlc) J (wT 7 J J J kr kr kr sbl (fun _=>kF J) J (zJp 8 kr J J (kB (vs:=[(0,_)]) J J U23 F.ti3 J J J ?_))))))))))))))))));intro b28;refine zB (zMu sbl (zJp 9 kr J J ?_))
   refine zEa (olds:=ints l) J J J Tryz.underlying23 F.ti3 J J J (by decide) hnone (by simp[zFv]) (fun a w ha p hp j u hu=>?_) (by unfold maxLen;omega) om ?_
   ·obtain⟨g,hg⟩:∃g,A=some ⟨g,0,none⟩:=vN (ha.own (.row 3 1 A l.length c (ints l)) (by simp)) (by have:=(List.getElem?_eq_some_iff.1 hu).1;rw[zFv] at this;omega);rw[hg] at hp
    cases hp
    rw[xW];exact jQ ha (show Res.row 3 1 A l.length c (ints l)∈_ by simp) hg (by rw[Nat.zero_add];exact hu)
   intro A1 c1;refine zB (zMu sbl (zJp 10 kr J J ?_));have e1:(l++[k]).length=l.length+1:=by simp
   have e2:ints (l++[k])=ints l++[.int .i64 (k:Int)]:=by simp[ints]
   refine zHw (X:=X×Bool) (first:=[]) (cap:=[_,_,_]) (vs:=[_]) (p:=fun y=>Runs step x1 (exts (l++[k]) d') y.1 y.2) (o:=fun y=>o y.1) (val:=fun y=>.bool y.2) (rs:=fun y=>.row 3 1 A l.length c (ints l)::.blk b3 (.cells #[.func (.func 115) #[] #[pt b1,pt b2,pt b3]] 166 (0,0))::.blk b2 (.cells #[.func (.yield r) #[] #[]] 166 (0,0))::.blk b1 (CO fA fs.length fc kiln dA nd dc 78)::(hp++T y.1)) J J J F.ent115 (fun a w ha=>?_) ?_
   ·have h0:=@ih (l++[k]) (by rw[e1];omega) x1 (zT3 hrd hrun om) A1 c1 _ _ _ (.blk b28 (.cells #[.int .i64 (k:Int)] 3 (0,0))::.row 3 1 A l.length c (ints l)::hp) a w (by rw[e1,e2];exact ha.pck pkk);rw[e1] at h0;refine h0.mono ?_;rintro e w' ⟨x',b,h1,h2,h4⟩;exact⟨(x',b),h1,h2,h4.pck pkk⟩
   rintro⟨x2,b⟩ hst;dsimp only at hst ⊢;refine zB (zTg (x:=o x2) sbl (wT 11 J J J kr kr kr sbl (fun _=>zCa J) J (zV0 kr ?_)))
   refine zD (kH J (fun hc2=>?_) (fun hc2=>?_))
   ·refine csr (lax J J (zV (jW (zU (zU (jW (zU ?_)))))));obtain rfl:b=false:=by simpa using hc2
    exact zX J (rsO J J) (fun a w ha=>⟨x2,false,zWv hrun hst om,rfl,ha0.backO (ha.pck pkk)⟩)
   ·refine zO (zJ (zD (zL (zE J J J bdO (zA J J (zB ?_))))));obtain rfl:b=true:=by simpa using hc2
    exact zBg (k+1,x2) J ⟨by omega,by dsimp only;rw[List.range_succ,List.flatMap_append];simpa using hrun.app hst⟩ tdo sbn (Pck.refl _)
  ·refine jV (zN (zN (zY (zD (csr (lax J J (zV ?_)))))));obtain rfl:k=4:=om;exact zX J (rsO J J) (fun a w ha=>⟨x1,true,hrun,rfl,ha0.backO (ha.pck (.skip _ (.refl _)))⟩)

end
section
variable [I:Sys]
theorem F.ti166:TI TP 166 (.nilFunc) 1 8:=TI.of kr
theorem zJk {X:Type} {o:X->Gout} {T:X->List Res} {pre:X->List Nat->Prop} {step:X->List Nat->X->Bool->Prop} {B r b1 fc kiln nd dc:Nat} {w0:World} {fA dA:Option Addr} {fs:List Flt} (h3:fs.length<=3) (hY:YSpL TP B w0 r o T pre step) {x:X} (hrd:Ready pre step x (exts [] fs.length)) {N:Nat} {ds:List Deferred} {fr:LV} {hp:List Res} {a:Act} {w:World} (ha0:At ⟨TP,B,saying w0 (o x),N,ds⟩ fr (.blk b1 (CO fA fs.length fc kiln dA nd dc 78)::(hp++T x)) a w):Calls TP 114 #[.func (.yield r) #[] #[],pt b1] w fun e w'=>∃x' b,Runs step x (exts [] fs.length) x' b∧e=.returned (.tuple #[])∧At ⟨TP,B,saying w0 (o x'),N,ds⟩ fr (.blk b1 (CO fA fs.length fc kiln dA nd dc 78)::(hp++T x')) a w':=by
 refine yW (N:=7) [(0,.func (.yield r) #[] #[]),(1,pt b1)] ha0 Tryz.func114 J Tryz.ntmps114 J J (csr (jT J J ?_));intro b2;refine lnx (csr (zW J F.ti166 ?_));intro b3;refine lnx (csr (wG (fs:=[]) (cs:=[_,_,_]) J J J (zH J J F.ti166 J (lnx (zL (zS J J F.one166 ?_))))))
 refine zHw (X:=X×Bool) (first:=[]) (cap:=[_,_,_]) (vs:=[_]) (p:=fun y=>Runs step x (exts [] fs.length) y.1 y.2) (o:=fun y=>o y.1) (val:=fun y=>.bool y.2) (rs:=fun y=>.blk b1 (CO fA fs.length fc kiln dA nd dc 78)::(hp++T y.1)) J J J F.ent115 (fun a w ha=>?_) ?_
 ·have h0:=jEu h3 hY fs.length [] (by simp) (x:=x) hrd (A:=none) (c:=0) (hp:=hp) ((ha.add_nil 3 1).pck pkk);refine h0.mono ?_;rintro e w' ⟨x',b,h1,h2,h4⟩;exact⟨(x',b),h1,h2,h4.pck pkk⟩
 rintro⟨x2,b⟩ hst;dsimp only at hst ⊢;exact zB (jC8 J (fun a w ha=>zJb J ha) (fun a w ha=>⟨x2,b,hst,rfl,ha0.backO ha⟩))

theorem zL4 (fA dA:Option Addr) (fc nd dc kiln:Nat) (fs:List Flt) (w:World):Calls TP 95 #[(CG fA fs.length fc kiln dA nd dc)] w fun e w'=>∃b1,e=.returned (.func (.func 114) #[] #[pt b1])∧Grew w w' [.blk b1 (CO fA fs.length fc kiln dA nd dc 78)]:=by
 refine enter (N:=4) [(0,(CG fA fs.length fc kiln dA nd dc))] Tryz.func95 J Tryz.ntmps95 J J (csr (jT J J ?_));intro b1;exact lax J J (csr (wG (fs:=[]) (cs:=[_]) J J J (lax J J (zV (zX J (rsO J J) (fun a w ha=>⟨b1,rfl,ha.grown sbl⟩))))))

end
section
open Go.Conc
variable {C:Ctx} {Stop:Goroutine->World->Prop} {a:Act} {fr:LV} {hp:List Res} {v:World}
theorem zRo {P:Program} [I:Sys] {d:Deferred} {fv:Fn} {cap:Array Value} {f:FuncId} {args:Array Value} (ht:d.target=.fn fv cap) (hi:Invokes P fv cap d.args f args)
  (h:Gs P Stop (G (Frame.enter P f args .deferred) [bornF P]) v):Gs P Stop (born P d) v:=by
 refine Gs.step' J fun v₁ h1=>?_;obtain⟨es,he⟩:=Stp.deferred (main:=I.main) (fr:={(default:Frame) with fn:=P.funcs.size,defers:=[d],mode:=.panicking [goexitEntry]}) (cs:=[]) (v:=v₁) (d:=d) (ds:=[]) (by simp) J ht hi;exact⟨_,_,es,he,h.rely h1⟩
variable [I:Sys]
theorem jEq {code:Code} {Q:QT} {b:Frame} {k:List Item} {cs:List Frame} (hb:Ok b code) (ha:At C fr hp a v) (h:Cod C code Q fr hp)
  (hk:∀e a' v₀ v' g,Q e a' v₀->Rl v₀ v'->ArrG b k cs e a' g->Gs C.P Stop g v'):Gs C.P Stop (G (b.atR a (.code code::k)) cs) v :=
 (h a v ha b k cs hb).bind (by
  rintro g w ⟨e,a',v0,hq,hr,harr⟩
  exact hk e a' v0 w g hq hr harr)
theorem zXp {step:List (List Nat)->List Nat->List (List Nat)->Bool->Prop} (hst:∀x l x' b,step x l x' b->b=true∧x=l::x') {ls x x':List (List Nat)} {b:Bool} (h:Runs step x ls x' b):∀ms,x=ls++ms->b=true∧x'=ms:=by
 induction h with
 | nil x=>exact fun ms e=>⟨rfl,e⟩
 | cons h1 _ ih =>
  intro ms e;obtain⟨_,h2⟩:=hst _ _ _ _ h1;rw[e] at h2;simp only[List.cons_append,List.cons.injEq,true_and] at h2
  exact ih ms h2.symm
 | stop h1 =>
  obtain⟨h2,_⟩:=hst _ _ _ _ h1
  cases h2
theorem zMw {n:Nat}:∀(ls:List (List Nat)),(∀l∈ls,l.length=n)->Ready (fun (x:List (List Nat)) l=>(∃xs,x=l::xs)∧l.length=n) (fun x l x' b=>b=true∧x=l::x') ls ls
 | [],_=>trivial
 | l::ls,h=>by
  refine⟨⟨⟨ls,rfl⟩,h l (by simp)⟩,fun x' hx=>?_⟩;have:ls=x':=by simpa using hx.2
  subst this;exact zMw ls fun l hl=>h l (by simp[hl])
theorem vW:∀(d:Nat) (l:List Nat),∀m∈exts l d,m.length=l.length+d
 | 0,l,m,hm=>by
  simp only[exts,List.mem_singleton] at hm
  rw[hm];rfl
 | d+1,l,m,hm=>by
  simp only[exts,List.mem_flatMap] at hm;obtain⟨k,_,hk⟩:=hm;have:=vW d (l++[k]) m hk;simp at this;omega
theorem zE9 {w:World} (ha:At C fr hp a w) {cells:Nat->List Value} {A:Option Addr} {c:Nat} {l:List Nat} (hc:∀n,cells n=[.int .i64 (n:Int)]) (hm:Res.row 3 1 A l.length c (ints l)∈hp):RdL cells 1 w A l:=fun hl=>by
 obtain⟨g,hg⟩:=vN (ha.own _ hm) hl;subst hg
 refine⟨g,0,rfl,?_,fun k x hk j u hu=>?_⟩
 ·exact (Res.lt (ha.own _ hm) g J).2
 ·rw[hc] at hu
  cases j with
  | succ j=>simp at hu
  | zero =>
   simp only[List.getElem?_cons_zero,Option.some.injEq] at hu;subst hu;refine jQ ha hm J ?_;have:(ints l)[k]?=some (.int .i64 (x:Int)):=by simp[ints,hk]
   simpa using this
end
section
open Go.Conc
variable {C:Ctx} {Q:QT} {fr:LV} {hp:List Res} {m:Mor}
def encM (m:Mor):Nat:=m.s.getD 0 0+5*m.s.getD 1 0+25*m.s.getD 2 0+125*m.w
def decM (n:Nat):Mor:=⟨[n%5,n / 5%5,n / 25%5],n / 125⟩
def msgM (n:Nat):Value:=(decM n).val
theorem zFa (h:MOk m):decM (encM m)=m:=by
 obtain⟨a,b,c,w,rfl,h1,h2,h3,h4⟩:=h.form;simp only[encM,decM,List.getD_cons_zero,List.getD_cons_succ]
 congr 1
 ·congr 1
  ·omega
  ·congr 1
   ·omega
   ·congr 1;omega
 ·omega
theorem zKr {n:Nat} (h:n<1000):MOk (decM n):=by
 refine⟨rfl,fun x hx=>?_,?_⟩
 ·simp only[decM,List.mem_cons,List.not_mem_nil,or_false] at hx;rcases hx with rfl|rfl|rfl<;>omega
 ·show n / 125<8;omega
theorem zVr (h:MOk m):encM m<1000:=by
 obtain⟨a,b,c,w,rfl,h1,h2,h3,h4⟩:=h.form;simp only[encM,List.getD_cons_zero,List.getD_cons_succ];omega
def oneOf (fs:List Flt) (kiln:Nat) (m:Mor) (sugar:Nat) (l:List Nat):Option Nat:=if (dayE fs kiln m l sugar).1=0 then some (encM (dayE fs kiln m l sugar).2) else none
def newsOf (fs:List Flt) (kiln:Nat) (m:Mor) (sugar:Nat):List Nat:=(exts [] fs.length).filterMap (oneOf fs kiln m sugar)
def doneD (W0:Nat):Deferred:={target:=.fn (.func 107) #[],args:=#[.pointer (some ⟨W0,0,none⟩)]}
variable [I:Sys]
theorem zCw {e:Exit} {hp':List Res} (h:Pck hp' hp) (k:Ex C Q e fr hp'):Ex C Q e fr hp:=fun a w ha=>k a w (ha.pck h)
theorem zEy {c c':Code} (h:c=c') (k:Cod C c' Q fr hp):Cod C c Q fr hp:=h▸k
end
section
variable [I:Sys]
theorem F.ent95:Enters TP 95:=jD Tryz.func95 rfl kr
theorem F.ent97:Enters TP 97:=jD Tryz.func97 rfl kr
theorem F.ent106:Enters TP 106:=jD Tryz.func106 rfl kr
theorem F.ent107:Enters TP 107:=jD Tryz.func107 rfl kr
theorem F.ent114:Enters TP 114:=jD Tryz.func114 rfl kr
theorem F.one148:One TP 148:=⟨by unfold aggB;rw[Tryz.underlying148],by rw[Tryz.underlying148];simp⟩
theorem zY5 {low i W0 f0 cb mb sb fb fc nd dc kiln sugar z0 z1 z2 zw:Nat} {fA dA:Option Addr} {fs:List Flt} {u:World} {fz1 fz2 fz3 fz4:Nat×Nat} (hi:i≠0) (h3:fs.length<=3) (hf:∀f∈fs,FltOk f) (hz0:z0<=4) (hz1:z1<=4) (hz2:z2<=4) (hzw:zw<8) (hs:sugar<=12) (hcb0:u.heap[cb]?=some (.cells (CA fA fs.length fc kiln dA nd dc).toArray 78 fz1)) (hmb0:u.heap[mb]?=some (.cells (V4 z0 z1 z2 zw).toArray 93 fz2)) (hsb0:u.heap[sb]?=some (.cells #[.int .i64 (sugar:Int)] 3 fz3)) (hfb0:u.heap[fb]?=some (.cells #[.chan (some f0)] 148 fz4)) (hF:RdL Flt.cells 4 u fA fs):Worker TP (Cp low 158 msgM) i (Conc.born TP {target:=.fn (.func 106) #[pt W0,pt cb,pt mb,pt sb,pt fb],args:=#[]}) (saying u (gout (Wkr.enc W0 f0 (.send (newsOf fs kiln (⟨[z0,z1,z2],zw⟩:Mor) sugar))))):=by
 unfold newsOf
 letI:Sys:=nSys TP (Cp low 158 msgM) i
 have hm:MOk (⟨[z0,z1,z2],zw⟩:Mor):=⟨rfl,(by simp;omega),hzw⟩;have cb_lt:=(Array.getElem?_eq_some_iff.1 hcb0).1;have mb_lt:=(Array.getElem?_eq_some_iff.1 hmb0).1;have sb_lt:=(Array.getElem?_eq_some_iff.1 hsb0).1;have fb_lt:=(Array.getElem?_eq_some_iff.1 hfb0).1;have hcb:∀(j:Nat) (v:Value),(CA fA fs.length fc kiln dA nd dc)[j]?=some v->u.cell? ⟨cb,0+j,none⟩=some v:=fun j v hv=>by rw[Nat.zero_add,cell_of_row u cb j _ _ _ hcb0];simpa using hv
 have hmb:∀(j:Nat) (v:Value),(V4 z0 z1 z2 zw)[j]?=some v->u.cell? ⟨mb,0+j,none⟩=some v:=fun j v hv=>by rw[Nat.zero_add,cell_of_row u mb j _ _ _ hmb0];simpa using hv
 have hsb:u.cell? ⟨sb,0,none⟩=some (.int .i64 (sugar:Int)):=by rw[cell_of_row u sb 0 _ _ _ hsb0];rfl
 have hfb:u.cell? ⟨fb,0,none⟩=some (.chan (some f0)):=by rw[cell_of_row u fb 0 _ _ _ hfb0];rfl
 refine zRo (f:=106) (args:=#[pt W0,pt cb,pt mb,pt sb,pt fb]) J (zDc F.ent106 J) ?_;rw[zX5 _ Tryz.func106 J,Tryz.ntmps106];have hA0:At ⟨TP,u.heap.size,saying u (gout (Wkr.enc W0 f0 (.send (List.filterMap (oneOf fs kiln (⟨[z0,z1,z2],zw⟩:Mor) sugar) (exts [] fs.length))))),23,[]⟩ [(0,pt W0),(1,pt cb),(2,pt mb),(3,pt sb),(4,pt fb)] [] _ (saying u (gout (Wkr.enc W0 f0 (.send (List.filterMap (oneOf fs kiln (⟨[z0,z1,z2],zw⟩:Mor) sugar) (exts [] fs.length)))))):=zIj (v:=saying u (gout (Wkr.enc W0 f0 (.send (List.filterMap (oneOf fs kiln (⟨[z0,z1,z2],zw⟩:Mor) sugar) (exts [] fs.length)))))) (vs:=[pt W0,pt cb,pt mb,pt sb,pt fb]) J
 refine jEq (C:=⟨TP,u.heap.size,saying u (gout (Wkr.enc W0 f0 (.send (List.filterMap (oneOf fs kiln (⟨[z0,z1,z2],zw⟩:Mor) sugar) (exts [] fs.length))))),23,[]⟩) (fr:=[(0,pt W0),(1,pt cb),(2,pt mb),(3,pt sb),(4,pt fb)]) (hp:=[]) (Q:=fun e a w=>e=.normal∧∃D,At ⟨TP,u.heap.size,saying u (gout (Wkr.enc W0 f0 (.send (List.filterMap (oneOf fs kiln (⟨[z0,z1,z2],zw⟩:Mor) sugar) ([]))))),23,[{target:=.collected D,args:=#[]},doneD W0]⟩ [] [.blk D (.deferred (some []))] a w) ⟨by simp[bD],.inl J⟩ hA0 ?_ ?_
 ·refine csr (zMk (first:=[]) (cap:=[]) (vs:=[_]) J J (lnx (csr (qV (l:=(CA fA fs.length fc kiln dA nd dc)) J J F.agg78 F.ti78 J (fun _ _ ha j v hv=>ha.old (show (saying u _).cell? _=_ from hcb j v hv) cb_lt) (kJ (X:=Nat) (vs:=[_]) (p:=fun _=>True) (val:=fun b1=>.func (.func 114) #[] #[pt b1]) (rs:=fun b1=>[.blk b1 (CO fA fs.length fc kiln dA nd dc 78)]) J J F.ent95 (fun a w ha=>(zL4 fA dA fc nd dc kiln fs w).mono (fun e w' h=>by obtain⟨b1,h1,h2⟩:=h;exact⟨b1,trivial,h1,h2⟩)) ?_)))));rintro b1 -;dsimp only[List.cons_append,List.nil_append];have hlk:∀t v,look [(0,pt W0),(1,pt cb),(2,pt mb),(3,pt sb),(4,pt fb)] t=some v->look ((9,.func (.func 114) #[] #[pt b1])::(8,(CG fA fs.length fc kiln dA nd dc))::[(0,pt W0),(1,pt cb),(2,pt mb),(3,pt sb),(4,pt fb)]) t=some v:=fun t v hv=>Sub.look sbn t v hv
  refine lnx (zQ (zF6 (Y:=Unit) (lb:=[pt b1]) (fun _=>True) (fun _=>gout (Wkr.enc W0 f0 (.send (List.filterMap (oneOf fs kiln (⟨[z0,z1,z2],zw⟩:Mor) sugar) ([]))))) (fun _=>none) (fun _=>.normal) (fun _=>[.blk b1 (CO fA fs.length fc kiln dA nd dc 78)]) J F.ent114 (fun _ _=>.inl ⟨rfl,rfl⟩) (fun r D rec a1 w1 hst hpe hps has hbo hsz hsl hR=>?_) (fun D y _=>?_)))
  ·have hY:YSpL TP u.heap.size u r (fun x=>gout (Wkr.enc W0 f0 (.send (List.filterMap (oneOf fs kiln (⟨[z0,z1,z2],zw⟩:Mor) sugar) (x))))) (fun _=>[.blk r (.loop rec),.blk D (.deferred (some []))]) (fun (x:List (List Nat)) (l:List Nat)=>(∃xs,x=l::xs)∧l.length=fs.length) (fun (x:List (List Nat)) (l:List Nat) (x':List (List Nat)) (b:Bool)=>b=true∧x=l::x'):=by
    intro x A ac acts hpre N ds fr hp ay wy hay;obtain⟨⟨xs,rfl⟩,hal⟩:=hpre;dsimp only at hay;have ha1:At ⟨TP,u.heap.size,saying u (gout (Wkr.enc W0 f0 (.send (List.filterMap (oneOf fs kiln (⟨[z0,z1,z2],zw⟩:Mor) sugar) (acts::xs))))),N,ds⟩ fr (.blk r (.loop rec)::.blk D (.deferred (some []))::.row 3 1 A acts.length ac (ints acts)::hp) ay wy:=hay.permed (by simpa using (List.perm_append_comm (l₁:=.row 3 1 A acts.length ac (ints acts)::hp) (l₂:=[.blk r (.loop rec),.blk D (.deferred (some []))])))
    refine zJs (X:=Unit) (N:=23) (d:=10) (frC:=[(0,pt W0),(1,pt cb),(2,pt mb),(3,pt sb),(4,pt fb)]) (frB:=fun _=>(5,.slice A acts.length ac)::[(0,pt W0),(1,pt cb),(2,pt mb),(3,pt sb),(4,pt fb)]) (hp1:=fun _=>.row 3 1 A acts.length ac (ints acts)::.blk D (.deferred (some []))::hp) ha1 hst hps hsz J (fun t u hu=>hsl t u (hlk t u hu)) (by rw[has];kernel_rfl) (by rw[hbo];kernel_rfl) ?_ ?_
    ·intro K hK;refine zEy has (zL (zF J J (zB ?_)));exact fun a w ha=>hK () a w ((ha.drop_slots sbn).pck pkk)
    ·intro _;refine zEy hbo (zQ (csr (qV (l:=(CA fA fs.length fc kiln dA nd dc)) J J F.agg78 F.ti78 J (fun _ _ ha j v hv=>ha.old (show (saying u _).cell? _=_ from hcb j v hv) cb_lt) (qV (l:=(V4 z0 z1 z2 zw)) J J F.agg93 F.ti93 J (fun _ _ ha j v hv=>ha.old (show (saying u _).cell? _=_ from hmb j v hv) mb_lt) (zA J J (jM (v:=.int .i64 (sugar:Int)) J J F.one3 (fun _ _ ha=>ha.old (show (saying u _).cell? _=_ from hsb) sb_lt) ?_))))));obtain⟨hok2,-⟩:=yQ (fs:=fs) (kiln:=kiln) (m:=(⟨[z0,z1,z2],zw⟩:Mor)) (acts:=acts) (sugar:=sugar) hf hm (Nat.le_of_eq hal) h3;have htry:∀w,RdL Flt.cells 4 w fA fs->RdL ncell 1 w A acts->Calls TP 97 #[(CG fA fs.length fc kiln dA nd dc),.agg (V4 z0 z1 z2 zw).toArray,.slice A acts.length ac,.int .i64 (sugar:Int)] w (fun e w'=>e=.returned (.tuple #[(dayE fs kiln (⟨[z0,z1,z2],zw⟩:Mor) acts sugar).2.val,.int .i64 (((dayE fs kiln (⟨[z0,z1,z2],zw⟩:Mor) acts sugar).1:Nat):Int)])∧Grew w w' []):=fun w hF hA=>zN2 fA dA A fc nd dc ac kiln fs h3 hf z0 z1 z2 zw hz0 hz1 hz2 hzw acts (Nat.le_of_eq hal) sugar hs w hF hA;have hone:oneOf fs kiln (⟨[z0,z1,z2],zw⟩:Mor) sugar acts=if (dayE fs kiln (⟨[z0,z1,z2],zw⟩:Mor) acts sugar).1=0 then some (encM (dayE fs kiln (⟨[z0,z1,z2],zw⟩:Mor) acts sugar).2) else none:=rfl
     generalize hst2:dayE fs kiln (⟨[z0,z1,z2],zw⟩:Mor) acts sugar=st at hok2 htry hone ⊢
     obtain⟨n,nm⟩:=st;dsimp only at hok2 htry hone ⊢;have hdn:=zFa hok2;obtain⟨y0,y1,y2,yw,rfl,hy0,hy1,hy2,hyw⟩:=hok2.form;refine jE (v:=.tuple #[.agg (V4 y0 y1 y2 yw).toArray,.int .i64 (n:Int)]) (vs:=[_,_,_,_]) J J F.ent97 (fun a w ha=>(htry w (RdL.later (w:=saying u (gout (Wkr.enc W0 f0 (.send (List.filterMap (oneOf fs kiln (⟨[z0,z1,z2],zw⟩:Mor) sugar) (acts::xs)))))) hF (ha.below)) (zE9 ha (fun _=>rfl) (show Res.row 3 1 A acts.length ac (ints acts)∈_ by simp))).mono (fun e w' h=>⟨h.1.trans J,h.2⟩)) (zA J J (jF J J J (jF J J J (zW J F.ti93 ?_))));intro b6;refine zH J J F.ti93 J (lax J J (csr (zA J J (zE J J J kD ?_))))
     refine lnx (zK J (fun hc0=>?_) (fun hc0=>?_))
     ·refine zL (jM (v:=.chan (some f0)) J J F.one148 (fun _ _ ha=>ha.old (show (saying u _).cell? _=_ from hfb) fb_lt) (zZ J J F.agg93 F.ti93 ?_));rw[if_pos om] at hone;have hpop:List.filterMap (oneOf fs kiln (⟨[z0,z1,z2],zw⟩:Mor) sugar) (acts::xs)=encM (⟨[y0,y1,y2],yw⟩:Mor)::List.filterMap (oneOf fs kiln (⟨[z0,z1,z2],zw⟩:Mor) sugar) xs:=by rw[List.filterMap_cons,hone]
      refine zHh (T:=Unit) (fun _=>True) (fun _=>⟨TP,u.heap.size,saying u (gout (Wkr.enc W0 f0 (.send (List.filterMap (oneOf fs kiln (⟨[z0,z1,z2],zw⟩:Mor) sugar) (xs))))),23,[]⟩) (fun _=>.blk b6 (.cells ((V4 y0 y1 y2 yw):List Value).toArray 93 (0,0))::.blk r (.loop {rec with state:=.busy})::.row 3 1 A acts.length ac (ints acts)::.blk D (.deferred (some []))::hp) (fun _=>rfl) (fun a w1 ha=>zXs (K:=Cp low 158 msgM) (γ:=Wkr.enc W0 f0 (.send (List.filterMap (oneOf fs kiln (⟨[z0,z1,z2],zw⟩:Mor) sugar) (acts::xs)))) (γ':=Wkr.enc W0 f0 (.send (List.filterMap (oneOf fs kiln (⟨[z0,z1,z2],zw⟩:Mor) sugar) xs))) (c:=f0) (x:=msgM (encM (⟨[y0,y1,y2],yw⟩:Mor))) (z:=.tuple #[]) ha.below.output ⟨W0,_,_,by rw[hpop];rfl,rfl,rfl⟩ (zRc ..) (fun w2=>by unfold msgM;rw[hdn];exact zY7 J J ha w2) ⟨(),trivial,ha.said _⟩) (fun _ _=>(zB (zJ (zCw (hp':=.blk r (.loop {rec with state:=.busy})::.blk D (.deferred (some []))::hp) pkk (zAz hst hpe (fun a w ha=>⟨xs,true,⟨rfl,rfl⟩,rfl,?_⟩))))));exact (hay.backO (x:=gout (Wkr.enc W0 f0 (.send (List.filterMap (oneOf fs kiln (⟨[z0,z1,z2],zw⟩:Mor) sugar) (xs))))) ha).permed (by simpa using (List.perm_append_comm (l₁:=[.blk r (.loop rec),.blk D (.deferred (some []))]) (l₂:=hp)))
     ·refine zO (zJ ?_);rw[if_neg om] at hone;have hpop:List.filterMap (oneOf fs kiln (⟨[z0,z1,z2],zw⟩:Mor) sugar) (acts::xs)=List.filterMap (oneOf fs kiln (⟨[z0,z1,z2],zw⟩:Mor) sugar) xs:=by rw[List.filterMap_cons,hone]
      rw[hpop];refine zCw (hp':=.blk r (.loop {rec with state:=.busy})::.blk D (.deferred (some []))::hp) pkk (zAz hst hpe (fun a w ha=>⟨xs,true,⟨rfl,rfl⟩,rfl,?_⟩));exact (hay.backO (x:=gout (Wkr.enc W0 f0 (.send (List.filterMap (oneOf fs kiln (⟨[z0,z1,z2],zw⟩:Mor) sugar) (xs))))) ha).permed (by simpa using (List.perm_append_comm (l₁:=[.blk r (.loop rec),.blk D (.deferred (some []))]) (l₂:=hp)))
   refine (zJk (X:=List (List Nat)) (o:=fun x=>gout (Wkr.enc W0 f0 (.send (List.filterMap (oneOf fs kiln (⟨[z0,z1,z2],zw⟩:Mor) sugar) (x))))) (T:=fun _=>[.blk r (.loop rec),.blk D (.deferred (some []))]) (hp:=[]) h3 hY (x:=exts [] fs.length) (zMw _ (fun l hl=>by have:=vW _ _ l hl;simpa using this)) (hR.pck pkk)).mono (fun e w2 h=>?_);obtain⟨x',b,hr,he,h4⟩:=h;obtain⟨_,rfl⟩:=zXp (fun x l x' b h=>h) hr [] (by simp);refine⟨⟨_,he⟩,(),trivial,?_⟩
   have e:rec={rec with state:=.ready,pending:=none}:=by
    obtain⟨st,pe,_,_,_,_,_,_⟩:=rec;simp only at hst hpe;subst hst;subst hpe
    rfl
   rw[e] at h4;exact h4.pck pkk
  ·refine zJ ?_;exact fun a w ha=>⟨rfl,D,ha.drop_slots (Sub.nil _) |>.drop_res (.cons_cons _ nsl)⟩
 ·rintro e a' v₀ v' g ⟨rfl,D,hA⟩ hr harr;obtain rfl:=harr;have hA':=hA.rely hr;refine Gs.one J (fun _=>zEf J) (Gs.step' J fun v₁ h1=>?_);have hA1:=hA'.rely h1;have hD:=(hA1.own (.blk D (.deferred (some []))) (by simp)).2;obtain⟨es,hst⟩:=Stp.taken (main:=false) (P:=TP) (fr:={(bD 106).atR a' [] with mode:=.returning}) (cs:=[bornF TP]) (d:={target:=.collected D,args:=#[]}) (ds:=[doneD W0]) (r:=D) (v:=v₁) (by simp) hA'.defs J (run_takeDeferred hD);refine⟨_,_,es,hst,Gs.step' J fun v₂ h2=>?_⟩;obtain⟨es2,hst2⟩:=Stp.deferred (main:=false) (P:=TP) (fr:={{(bD 106).atR a' [] with mode:=.returning} with defers:=[doneD W0]}) (cs:=[bornF TP]) (v:=v₂) (d:=doneD W0) (ds:=[]) (fv:=.func 107) (cap:=#[]) (f:=107) (args:=#[pt W0]) (by simp) J J (zDc F.ent107 J);refine⟨_,_,es2,hst2,?_⟩;have hout:v₂.output=gout (Wkr.enc W0 f0 (.send [])):=h2.output.trans hA1.below.output;have e:v₂=saying v₂ (gout (Wkr.enc W0 f0 (.send []))):=by rw[<-hout];rfl
  rw[e];have hdone:=jBz (low:=low) (msg:=msgM) (Stop:=NoStop) (v:=v₂) (W0:=W0) (f0:=f0) (i:=i) hi (a:=⟨a'.tmps,[]⟩) (todo:=[]) ⟨rfl,rfl,fun _ _ h=>by cases h⟩;unfold ΦN at hdone;exact hdone
end
section
open Go.Conc
variable {B N W0 d0 f0 low m:Nat} {L ow:List Nat} {a:Act} {fr:LV} {hp0:List Res} {v0 w:World}
def chV (fA dA:Option Addr) (n fc nd dc kiln:Nat):List Value:=[.slice fA n fc,.int .i64 (kiln:Int),.slice dA nd dc]
theorem jE1 {cb xb sb fb fc nd dc kiln sugar z0 z1 z2 zw:Nat} {fA dA:Option Addr} {fs:List Flt} {gl:List Nat} (hB:v0.heap.size=B)
  (h3:fs.length<=3) (hf:∀f∈fs,FltOk f) (hz0:z0<=4) (hz1:z1<=4) (hz2:z2<=4) (hzw:zw<8) (hs:sugar<=12)
  (hgl:∀b∈gl,∃cs t,v0.heap[b]?=some (.cells cs t (0,0))∧0<cs.size) (hRd:0<fs.length->∃g o x,g∈gl∧fA=some ⟨g,o,x⟩) (hA:RdL Flt.cells 4 v0 fA fs)
  (hL0:m=0->L=[]) (hL1:0<m->cb∈L∧sb∈L∧fb∈L∧∀b∈gl,b∈L)
  (ha:At (Cz TP B N [] v0 L (Mn.enc W0 f0 d0 (cde L) ow (.hire 4 m))) fr ([.blk xb (.cells (V4 z0 z1 z2 zw).toArray 93 (0,0)),.blk cb (.cells (chV fA dA fs.length fc nd dc kiln).toArray 78 (0,if m=0 then 0 else 3)),.blk sb (.cells #[.int .i64 (sugar:Int)] 3 (0,if m=0 then 0 else 1)),.blk fb (.cells #[.chan (some f0)] 148 (0,if m=0 then 0 else 1))]++hp0) a w) :
  Givable ([cb,xb,sb,fb]++gl) w∧(∀b∈[cb,xb,sb,fb]++gl,b∈L∨∃cs t,w.heap[b]?=some (.cells cs t (0,0))) ∧
   (∀i,i≠0->Worker TP (Cp low 158 msgM) i (Conc.born TP {target:=.fn (.func 106) #[pt W0,pt cb,pt xb,pt sb,pt fb],args:=#[]}) (saying (onlyV ([cb,xb,sb,fb]++gl) w) (gout (Wkr.enc W0 f0 (.send (newsOf fs kiln ⟨[z0,z1,z2],zw⟩ sugar)))))) ∧
   At (Cz TP B N [] v0 (L++([cb,xb,sb,fb]++gl)) (Mn.enc W0 f0 d0 (cde (L++([cb,xb,sb,fb]++gl))) (ow++newsOf fs kiln ⟨[z0,z1,z2],zw⟩ sugar) (.hire 0 (m+1)))) fr ([.blk xb (.cells (V4 z0 z1 z2 zw).toArray 93 (0,4)),.blk cb (.cells (chV fA dA fs.length fc nd dc kiln).toArray 78 (0,3)),.blk sb (.cells #[.int .i64 (sugar:Int)] 3 (0,1)),.blk fb (.cells #[.chan (some f0)] 148 (0,1))]++hp0) a
    (saying (chill ([cb,xb,sb,fb]++gl) w) (gout (Mn.enc W0 f0 d0 (cde (L++([cb,xb,sb,fb]++gl))) (ow++newsOf fs kiln ⟨[z0,z1,z2],zw⟩ sugar) (.hire 0 (m+1))))):=by
 subst hB;have hap:=ha.apart;have h1:=ha.own (.blk xb (.cells (V4 z0 z1 z2 zw).toArray 93 (0,0))) (by simp);have h2:=ha.own (.blk cb (.cells (chV fA dA fs.length fc nd dc kiln).toArray 78 (0,if m=0 then 0 else 3))) (by simp);have h4:=ha.own (.blk sb (.cells #[.int .i64 (sugar:Int)] 3 (0,if m=0 then 0 else 1))) (by simp);have h5:=ha.own (.blk fb (.cells #[.chan (some f0)] 148 (0,if m=0 then 0 else 1))) (by simp);have hids:(xb::cb::sb::fb::hp0.filterMap Res.id).Nodup:=hap;simp only[List.nodup_cons,List.mem_cons,not_or] at hids;obtain⟨⟨n1,n2,n3,n4⟩,⟨n5,n6,n7⟩,⟨n8,n9⟩,n10,n11⟩:=hids;have hglB:∀b∈gl,b<v0.heap.size:=fun b hb=>by obtain⟨cs,t,h,_⟩:=hgl b hb;exact (Array.getElem?_eq_some_iff.1 h).1
 have hglw:∀b∈gl,∃cs t,v0.heap[b]?=some (.cells cs t (0,0))∧0<cs.size∧w.heap[b]?=some (.cells cs t (0,if b∈L then cs.size else 0)):=fun b hb=>by
  obtain⟨cs,t,h,h'⟩:=hgl b hb;refine⟨cs,t,h,h',?_⟩;rw[ha.oldZ (hglB b hb),h];by_cases e:b∈L<;>simp[e,Obj.chill]
 have hmc:m=0∨0<m:=om
 refine⟨fun b hbm=>?_,fun b hbm=>?_,fun i hi=>?_,?_⟩
 ·simp only[List.cons_append,List.nil_append,List.mem_cons] at hbm
  rcases hbm with rfl|rfl|rfl|rfl|hbm
  ·exact⟨_,_,_,h2.2,by by_cases e:m=0<;>simp[e,chV],by simp[chV]⟩
  ·exact⟨_,_,_,h1.2,.inl J,by simp⟩
  ·exact⟨_,_,_,h4.2,by by_cases e:m=0<;>simp[e],by simp⟩
  ·exact⟨_,_,_,h5.2,by by_cases e:m=0<;>simp[e],by simp⟩
  ·obtain⟨cs,t,_,h6,h7⟩:=hglw b hbm;exact⟨_,_,_,h7,by by_cases e:b∈L<;>simp[e],h6⟩
 ·simp only[List.cons_append,List.nil_append,List.mem_cons] at hbm
  rcases hbm with rfl|rfl|rfl|rfl|hbm
  ·rcases hmc with e|e
   ·exact .inr ⟨_,_,by simpa[e] using h2.2⟩
   ·exact .inl (hL1 e).1
  ·exact .inr ⟨_,_,h1.2⟩
  ·rcases hmc with e|e
   ·exact .inr ⟨_,_,by simpa[e] using h4.2⟩
   ·exact .inl (hL1 e).2.1
  ·rcases hmc with e|e
   ·exact .inr ⟨_,_,by simpa[e] using h5.2⟩
   ·exact .inl (hL1 e).2.2.1
  ·rcases hmc with e|e
   ·obtain⟨cs,t,_,h6,h7⟩:=hglw b hbm;exact .inr ⟨cs,t,by simpa[hL0 e] using h7⟩
   ·exact .inl ((hL1 e).2.2.2 b hbm)
 ·refine zY5 (I:=nSys TP (Cp low 158 msgM) i) (fc:=fc) (nd:=nd) (dc:=dc) (dA:=dA) (fz1:=(0,3)) (fz2:=(0,4)) (fz3:=(0,1)) (fz4:=(0,1)) hi h3 hf hz0 hz1 hz2 hzw hs ?_ ?_ ?_ ?_ (zXt hA fun hl g o he=>?_)
  ·exact (by rw[vY,h2.2];simp[Obj.chill,chV]:(onlyV ([cb,xb,sb,fb]++gl) w).heap[cb]?=some (.cells (chV fA dA fs.length fc nd dc kiln).toArray 78 (0,3)))
  ·exact (by rw[vY,h1.2];simp[Obj.chill]:(onlyV ([cb,xb,sb,fb]++gl) w).heap[xb]?=some (.cells (V4 z0 z1 z2 zw).toArray 93 (0,4)))
  ·exact (by rw[vY,h4.2];simp[Obj.chill]:(onlyV ([cb,xb,sb,fb]++gl) w).heap[sb]?=some (.cells #[.int .i64 (sugar:Int)] 3 (0,1)))
  ·exact (by rw[vY,h5.2];simp[Obj.chill]:(onlyV ([cb,xb,sb,fb]++gl) w).heap[fb]?=some (.cells #[.chan (some f0)] 148 (0,1)))
  ·obtain⟨g',o',x',hg',e⟩:=hRd hl;rw[e] at he
   cases he
   obtain⟨cs,t,h6,_,h7⟩:=hglw _ hg';exact⟨by simp[hg'],cs,t,_,_,h6,h7⟩
 ·have hbl:∀{b:Nat} {o:Obj} {hp:List Res},Res.blk b o∈hp->∀k,(Res.blk b o).id=some k->k=b:=fun _ k hk=>by cases hk;rfl
  refine ha.hiredZ (fun r hr=>?_) ?_
  ·simp only[List.cons_append,List.nil_append,List.mem_cons] at hr
   rcases hr with rfl|rfl|rfl|rfl|hr
   ·exact Res.lentZ h1 (by simp)
   ·exact Res.lentZ h2 (by simp)
   ·exact Res.lentZ h4 (by simp)
   ·exact Res.lentZ h5 (by simp)
   ·have ho:=ha.own r (by simp[hr]);refine Res.heldZ ho fun k hk hkm=>?_;have hkh:k∈hp0.filterMap Res.id:=List.mem_filterMap.2 ⟨r,hr,hk⟩;have hkB:v0.heap.size<=k:=(Res.lt ho k hk).1;simp only[List.cons_append,List.nil_append,List.mem_cons] at hkm
    rcases hkm with rfl|rfl|rfl|rfl|hkm
    ·exact n7 hkh
    ·exact n4 hkh
    ·exact n9 hkh
    ·exact n10 hkh
    ·have:=hglB k hkm;omega
  ·exact hap
theorem jFv {db:Nat} (hB:v0.heap.size=B)
  (ha:At (Cz TP B N [] v0 L (Mn.enc W0 f0 d0 (cde L) ow (.hire 0 m))) fr (.blk db (.cells #[.chan (some d0)] 149 (0,0))::hp0) a w) :
  Givable [db] w∧(∀b∈[db],b∈L∨∃cs t,w.heap[b]?=some (.cells cs t (0,0))) ∧
   (∀i,i≠0->Worker TP (Cp low 158 msgM) i (Conc.born TP {target:=.fn (.func 108) #[pt W0,pt db],args:=#[]}) (saying (onlyV [db] w) (gout (Wt.enc W0 d0 .new)))) ∧
   At (Cz TP B N [] v0 (L++[db]) (Mn.enc W0 f0 d0 (cde (L++[db])) ow .hear)) fr (.blk db (.cells #[.chan (some d0)] 149 (0,1))::hp0) a (saying (chill [db] w) (gout (Mn.enc W0 f0 d0 (cde (L++[db])) ow .hear))):=by
 subst hB;have hap:=ha.apart;have h1:=ha.own (.blk db (.cells #[.chan (some d0)] 149 (0,0))) (by simp);have hids:(db::hp0.filterMap Res.id).Nodup:=hap;simp only[List.nodup_cons] at hids
 refine⟨fun b hbm=>?_,fun b hbm=>?_,fun i hi=>?_,?_⟩
 ·simp only[List.mem_singleton] at hbm;subst hbm;exact⟨_,_,_,h1.2,.inl J,by simp⟩
 ·simp only[List.mem_singleton] at hbm;subst hbm;exact .inr ⟨_,_,h1.2⟩
 ·letI:Sys:=nSys TP (Cp low 158 msgM) i
  have hc:(onlyV [db] w).heap[db]?=some (.cells #[.chan (some d0)] 149 (0,1)):=by rw[vY,h1.2];simp[Obj.chill]
  refine zRo (f:=108) (args:=#[pt W0,pt db]) J (zDc (jD Tryz.func108 J kr) J) ?_;have:=jB5 (low:=low) (msg:=msgM) (Stop:=NoStop) (v:=onlyV [db] w) (W0:=W0) (d0:=d0) (i:=i) hi (p:=⟨db,0,none⟩) (by rw[cell_of_row _ db 0 _ _ _ hc];rfl) (Array.getElem?_eq_some_iff.1 hc).1;unfold ΦN at this;exact this
 ·refine ha.hiredZ (fun r hr=>?_) ?_
  ·simp only[List.mem_cons] at hr
   rcases hr with rfl|hr
   ·exact Res.lentZ h1 (by simp)
   ·have ho:=ha.own r (by simp[hr]);refine Res.heldZ ho fun k hk hkm=>?_;have hkh:k∈hp0.filterMap Res.id:=List.mem_filterMap.2 ⟨r,hr,hk⟩;simp only[List.mem_singleton] at hkm;subst hkm;exact hids.1 hkh
  ·show (db::hp0.filterMap Res.id).Nodup;simp[hids.1,hids.2]
end
section
variable {b:Nat} {mt vt:TypeId} {β:Type}
structure KT (P:Program) (k:TypeId) (α:Type) where
 kv:α->Value
 ok:α->Prop
 law:WideMaps.KeyLaw P k
 key:∀a,ok a->∃x,keyOf P k (kv a)=some x
 inj:∀a b,kv a=kv b->a=b
 np:∀a,Np (kv a)
section
variable {P:Program} {k:TypeId} {α:Type} (K:KT P k α)
def KT.ent (x:Nat×α×Value):MapEntry:={key:=K.kv x.2.1,val:=x.2.2,born:=x.1}
def KT.rem (r:List (Nat×α×Value)) (n:Nat):Obj:=.map (r.map K.ent).toArray n
def idxd (l:List (α×Value)):List (Nat×α×Value):=l.mapIdx fun i p=>(i,p.1,p.2)
def KT.obj (l:List (α×Value)):Obj:=K.rem (idxd l) l.length
structure KT.Good (r:List (Nat×α×Value)) (n:Nat):Prop where
 born:(r.map (·.1)).Nodup
 less:∀x∈r,x.1<n
 keys:(r.map (·.2.1)).Nodup
 okk:∀x∈r,K.ok x.2.1
omit K in
theorem zJg (l:List (α×Value)):(idxd l).length=l.length:=by simp[idxd]
omit K in
theorem zW7 (l:List (α×Value)) (a:α) (v:Value):idxd (l++[(a,v)])=idxd l++[(l.length,a,v)]:=by simp[idxd,List.mapIdx_append]
omit K in
theorem zAs {l:List (α×Value)} {x:Nat×α×Value} (h:x∈idxd l):x.1<l.length∧(x.2.1,x.2.2)∈l:=by
 obtain⟨i,hi,rfl⟩:=List.mem_iff_getElem.1 h;rw[zJg] at hi;refine⟨by simpa[idxd] using hi,?_⟩;have:((idxd l)[i].2.1,(idxd l)[i].2.2)=l[i]:=by simp[idxd]
 rw[this];exact List.getElem_mem _
omit K in
theorem zEk (l:List (α×Value)):(idxd l).map (·.2.1)=l.map (·.1):=by
 apply List.ext_getElem
 ·simp[idxd]
 ·intro i h1 h2;simp[idxd]
omit K in
theorem zWw (l:List (α×Value)):(idxd l).map (·.1)=List.range l.length:=by
 apply List.ext_getElem
 ·simp[idxd]
 ·intro i h1 h2;simp[idxd]
theorem zVo {l:List (α×Value)} (hn:(l.map (·.1)).Nodup) (hok:∀x∈l,K.ok x.1):K.Good (idxd l) l.length :=
 ⟨by rw[zWw];exact List.nodup_range,fun x hx=>(zAs hx).1,by rw[zEk];exact hn,fun x hx=>hok _ (zAs hx).2⟩
section
variable {r:List (Nat×α×Value)} {n:Nat} {w:World} {a:α}
theorem KT.find (hok:∀x∈r,K.ok x.2.1) (ha:K.ok a):(a∉r.map (·.2.1)∧(Instr.findKey k (K.kv a) (r.map K.ent)).run P w=.ok none w)∨∃(j:Nat) (x:Nat×α×Value),r[j]?=some x∧x.2.1=a∧(Instr.findKey k (K.kv a) (r.map K.ent)).run P w=.ok (some (j,x.2.2)) w:=by
 have hall:∀e∈r.map K.ent,∃x,keyOf P k e.key=some x:=fun e he=>by
  obtain⟨x,hx,rfl⟩:=List.mem_map.1 he;exact K.key _ (hok x hx)
 obtain⟨lx,hlx⟩:=K.key a ha
 rcases K.law.find w hlx _ hall with ⟨h1,h2⟩|⟨j,e,h1,h2,h3⟩
 ·refine .inl ⟨fun hm=>?_,h1⟩;obtain⟨x,hx,e⟩:=List.mem_map.1 hm;exact h2 _ (List.mem_map.2 ⟨x,hx,rfl⟩) (congrArg K.kv e)
 ·rw[List.getElem?_map] at h2;obtain⟨x,hx,rfl⟩:=Option.map_eq_some_iff.1 h2;exact .inr ⟨j,x,hx,K.inj _ _ h3,h1⟩
theorem KT.check (b:Bool) (ha:K.ok a):(Instr.checkKey b 10000 k (K.kv a)).run P w=.ok () w:=by
 obtain⟨lx,hlx⟩:=K.key a ha;exact K.law.check w b hlx
theorem zRh (ht:P.underlying mt=some (.map k vt)) {l:List (α×Value)} (hb:w.heap[b]?=some (K.obj l)) (hl:∀x∈l,K.ok x.1) (ha:K.ok a) (hn:a∉l.map (·.1)) (v:Value) :
  (Instr.mapUpdate mt (.map (some b)) (K.kv a) v).run P w=.ok () {w with heap:=w.heap.setIfInBounds b (K.obj (l++[(a,v)]))}:=by
 have hck:=K.check (w:=w) false ha;have hg:(getObj b).run P w=.ok (K.obj l) w:=MapKept.run_getObj_map hb
 rcases K.find (w:=w) (r:=idxd l) (fun x hx=>hl _ (zAs hx).2) ha with ⟨_,h2⟩|⟨j,x,h1,h2,_⟩
 ·unfold Instr.mapUpdate;simp only[Sem.run_bind,run_underlying ht,Result.andThen_ok,hg,KT.obj,KT.rem,hck,h2];rw[MapKept.run_setObj_map _ hb];simp[zW7,KT.ent]
 ·exfalso
  apply hn
  have:=(zAs (List.mem_of_getElem? h1)).2;rw[h2] at this;exact List.mem_map.2 ⟨_,this,rfl⟩
theorem zJr {γ:Type} {f:β->γ} {l:List β} (h:(l.map f).Nodup) {x y:β} (hx:x∈l) (hy:y∈l) (e:f x=f y):x=y:=by
 induction l with
 | nil=>cases hx
 | cons z l ih =>
  rw[List.map_cons,List.nodup_cons] at h
  rcases List.mem_cons.1 hx with hx'|hx1
  ·subst hx'
   rcases List.mem_cons.1 hy with hy|hy
   ·exact hy.symm
   ·exact absurd (List.mem_map.2 ⟨y,hy,e.symm⟩) h.1
  ·rcases List.mem_cons.1 hy with hy|hy
   ·subst hy;exact absurd (List.mem_map.2 ⟨x,hx1,e⟩) h.1
   ·exact ih h.2 hx1 hy
theorem zP6 (ht:P.underlying mt=some (.map k vt)) {l:List (α×Value)} (hb:w.heap[b]?=some (K.obj l)) (hl:∀x∈l,K.ok x.1) (ha:K.ok a) (hk:(l.map (·.1)).Nodup) {v:Value} (hm:(a,v)∈l) :
  (Instr.mapUpdate mt (.map (some b)) (K.kv a) v).run P w=.ok () {w with heap:=w.heap.setIfInBounds b (K.obj l)}:=by
 have hck:=K.check (w:=w) false ha;have hg:(getObj b).run P w=.ok (K.obj l) w:=MapKept.run_getObj_map hb;obtain⟨lx,hlx⟩:=K.key a ha
 rcases K.find (w:=w) (r:=idxd l) (fun x hx=>hl _ (zAs hx).2) ha with ⟨h1,_⟩|⟨j,x,h1,h2,h3⟩
 ·exact absurd (by rw[zEk];exact List.mem_map.2 ⟨_,hm,rfl⟩) h1
 ·have hxl:=(zAs (List.mem_of_getElem? h1)).2
  have hxv:x.2.2=v:=by
   have:=zJr hk hxl hm h2;exact congrArg Prod.snd this
  have hj:((idxd l).map K.ent).toArray[j]?=some (K.ent x):=by simp[h1]
  unfold Instr.mapUpdate;simp only[Sem.run_bind,run_underlying ht,Result.andThen_ok,hg,KT.obj,KT.rem,hck,h3]
  have hkk:((((idxd l).map K.ent).toArray[j]?).map (·.key)).getD (K.kv a)=K.kv a:=by
   rw[hj];simp[KT.ent,h2]
  rw[hkk,K.law.stays w hlx];simp only[Result.andThen_ok];rw[MapKept.run_setObj_map _ hb]
  have hmod:((idxd l).map K.ent).toArray.modify j (fun e=>{e with key:=K.kv a,val:=v})=((idxd l).map K.ent).toArray:=by
   apply Array.ext
   ·simp
   ·intro i h4 h5;rw[Array.getElem_modify]
    split
    ·rename_i e;subst e
     have:((idxd l).map K.ent).toArray[j]=K.ent x:=by
      have:=Array.getElem?_eq_some_iff.1 hj;exact this.2
     rw[this];simp[KT.ent,h2,hxv]
    ·rfl
  rw[hmod]
theorem zLf (ht:P.underlying mt=some (.map k vt)) {l:List (α×Value)} (hb:w.heap[b]?=some (K.obj l)) (hl:∀x∈l,K.ok x.1) (ha:K.ok a) (hk:(l.map (·.1)).Nodup) {z:Value} (hz:∀w:World,(zeroValue vt).run P w=.ok z w) (c:Bool) :
  (∀v,(a,v)∈l->(Instr.lookup mt (.map (some b)) (K.kv a) c).run P w=.ok (if c then .tuple #[v,.bool true] else v) w)∧(a∉l.map (·.1)->(Instr.lookup mt (.map (some b)) (K.kv a) c).run P w=.ok (if c then .tuple #[z,.bool false] else z) w):=by
 have hg:(getObj b).run P w=.ok (K.obj l) w:=MapKept.run_getObj_map hb
 rcases K.find (w:=w) (r:=idxd l) (fun x hx=>hl _ (zAs hx).2) ha with ⟨h1,h2⟩|⟨j,x,h1,h2,h3⟩
 ·rw[zEk] at h1;refine⟨fun v hv=>absurd (List.mem_map.2 ⟨_,hv,rfl⟩) h1,fun _=>?_⟩;unfold Instr.lookup;simp[Sem.run_bind,run_underlying ht,Result.andThen_ok,hg,KT.obj,KT.rem,K.check _ ha,h2,hz w]
 ·have hxl:=(zAs (List.mem_of_getElem? h1)).2;rw[h2] at hxl;refine⟨fun v hv=>?_,fun hn=>absurd (List.mem_map.2 ⟨_,hxl,rfl⟩) hn⟩;have hxv:x.2.2=v:=congrArg Prod.snd (zJr hk hxl hv J);unfold Instr.lookup;simp[Sem.run_bind,run_underlying ht,Result.andThen_ok,hg,KT.obj,KT.rem,Sem.run_pure,K.check _ ha,h3,hxv]
omit K in
theorem zIx:∀(r:List (Nat×α×Value)) (j:Nat) (x:Nat×α×Value),r[j]?=some x->r.Perm (x::r.eraseIdx j)
 | [],_,_,h=>by cases h
 | y::r,0,x,h=>by cases h;exact .refl _
 | y::r,j+1,x,h=>by
  have h1:=zIx r j x (by simpa using h);exact (h1.cons y).trans (.swap ..)
omit K in
theorem zJ2 (f:Nat×α×Value->β):∀(r:List (Nat×α×Value)) (j:Nat),(r.map f).eraseIdx j=(r.eraseIdx j).map f
 | [],_=>rfl
 | _y::_r,0=>rfl
 | y::r,j+1=>congrArg (f y::·) (zJ2 f r j)
theorem zLv {ty:TypeId} (ht:P.underlying mt=some (.map k vt)) (hb:w.heap[b]?=some (K.rem r n)) (hG:K.Good r n) {i:Nat} {v:Value} (hm:(i,a,v)∈r) :
  ∃r',r.Perm ((i,a,v)::r')∧r'.Sublist r∧(Builtin.delete_ #[mt,k] ty #[.map (some b),K.kv a]).run P w=.ok (.tuple #[]) {w with heap:=w.heap.setIfInBounds b (K.rem r' n)}:=by
 have ha:=hG.okk _ hm;have hg:(getObj b).run P w=.ok (K.rem r n) w:=MapKept.run_getObj_map hb
 rcases K.find (w:=w) hG.okk ha with ⟨h1,_⟩|⟨j,x,h1,h2,h3⟩
 ·exact absurd (List.mem_map.2 ⟨_,hm,rfl⟩) h1
 ·have hx:x=(i,a,v):=zJr hG.keys (List.mem_of_getElem? h1) hm h2;subst hx;have hj:j<r.length:=(List.getElem?_eq_some_iff.1 h1).1
  refine⟨r.eraseIdx j,?_,List.eraseIdx_sublist _ _,?_⟩
  ·exact zIx r j _ h1
  ·unfold Builtin.delete_;simp[Sem.run_bind,run_underlying ht,Result.andThen_ok,hg,KT.rem,K.check _ ha,h3,MapKept.run_setObj_map _ hb]
   congr 2
   rw[zJ2]
end
end
section
variable {P:Program}
theorem zUa {α:Type} {x:α} {f:α->Sem β} (h:Tame P (f x)):Tame P (pure x >>= f):=h
theorem zEq {α:Type} {x:String} {f:α->Sem β}:Tame P ((stuck x:Sem α) >>= f):=trivial
theorem zQ5 (t:TypeId) (b:Nat):Tame P (Instr.range t (.map (some b))):=by
 unfold Instr.range;refine Tame.bind (kN _) fun d=>?_
 cases d with
 | map k e =>
  dsimp only;refine Tame.bind (yF _) fun o=>?_
  cases o with
  | map es c=>exact zUa (Tame.bind (zCl _ trivial) fun _=>vR _)
  | _=>exact zEq
 | _=>exact zEq
theorem zUb (r:Nat) (t:TypeId):Tame P (Instr.next (pt r) false t):=by
 unfold Instr.next;dsimp only;refine Tame.bind (yF _) fun o=>?_
 cases o with
 | mapIter m since seen last =>
  cases m with
  | none=>exact vR _
  | some m =>
   refine Tame.bind (yF _) fun o=>?_
   cases o with
   | map es c =>
    dsimp only
    split
    ·exact Tame.bind (zAf _) fun _=>Tame.bind (xY _) fun n=>by
      split
      ·exact Tame.bind (zA6 _ _ trivial) fun _=>vR _
      ·exact vR _
      ·exact yJ _
    ·exact Tame.bind (xY _) fun n=>by
      split
      ·exact Tame.bind (zA6 _ _ trivial) fun _=>vR _
      ·exact vR _
      ·exact yJ _
   | _=>exact yJ _
 | _=>exact yJ _
theorem zRl (r:Nat):Tame P (Instr.entry (pt r)):=by
 unfold Instr.entry;dsimp only;refine Tame.bind (yF _) fun o=>?_
 cases o with
 | mapIter m since seen last =>
  cases m with
  | none=>exact yJ _
  | some m =>
   dsimp only
   split
   ·refine Tame.bind (yF _) fun o=>?_
    cases o with
    | map es c =>
     dsimp only
     split
     ·refine Tame.bind (zAf _) fun _=>?_
      split
      ·exact vR _
      ·exact zAf _
     ·split
      ·exact vR _
      ·exact zAf _
    | _=>exact yJ _
   ·exact yJ _
 | _=>exact yJ _
theorem zQ8 (t kt ty:TypeId) (b:Nat) {k:Value} (hk:Np k):Tame P (Builtin.delete_ #[t,kt] ty #[.map (some b),k]):=by
 unfold Builtin.delete_;have e1:(#[t,kt]:Array TypeId)[0]?=some t:=rfl;have e2:(#[Value.map (some b),k])[0]?=some (Value.map (some b)):=rfl;have e3:(#[Value.map (some b),k])[1]?=some k:=rfl;simp only[e1,e2,e3];refine Tame.bind (kN _) fun d=>?_
 cases d with
 | map kt e =>
  refine Tame.bind (yF _) fun o=>?_
  cases o with
  | map es c =>
   refine Tame.bind (zBc _ _ _ _) fun _=>Tame.bind (zDt _ hk _) fun x=>?_
   split
   ·exact Tame.bind (zA6 _ _ trivial) fun _=>vR _
   ·exact Tame.bind (zA6 _ _ trivial) fun _=>vR _
  | _=>exact zEq
 | _=>exact yJ _
end
end
end Go.Proofs.YteppiphdbondeaaGreat.N
