/- Parts of the walk of the law CharAgains: RowZ2. -/
import Derived.Test.YteppiphdbondeaaGreatSCharAgains11
import Derived.Test.YteppiphdbondeaaGreatSCharAgains10
import Derived.Deep.Slices
import Derived.Deep.Strs
namespace Go.Proofs.YteppiphdbondeaaGreat.N
set_option linter.unusedSectionVars false
open Go.RowKit
end Go.Proofs.YteppiphdbondeaaGreat.N
/- What rows of laws that compare char with the reference share: char, filters and lists of numbers out of what the statement lets the input be. -/
namespace Go.Proofs.YteppiphdbondeaaGreat.N
open Go Go.ChangeShapes Go.WideShapes Go.ChangeAt Go.RowKit Go.Proofs Go.Proofs.YteppiphdbondeaaGreat Go.Proofs.YteppiphdbondeaaGreat.Rows
set_option linter.unusedSectionVars false
theorem zGn {H:Type} {enc:TypeId×Value->H} {W W':World} (hn:Below W.heap.size W W'):∀{ts:List TypeId} {vs:List Value} {ds:List (DataW H)} {ps:List MemPlace},
  (∀t∈ts,TP.readableRec t=true∧t<TP.types.size)->DataW.TrodAll enc TP W 0 (fun _=>true) true ts vs ds ps->(∀x∈ps,x.block<W.heap.size) ->
  DataW.TrodAll enc TP W' 0 (fun b=>decide (b<W.heap.size)) true ts vs ds ps
 | [],_,_,_,_,h,_=>by
  obtain⟨rfl,rfl,rfl⟩:=trodAll_nil h
  exact trodAll_mk0
 | t::ts,vs,ds,ps,hr,h,hlt=>by
  obtain⟨v,vs',d,ds',p,q,rfl,rfl,rfl,h1,h2⟩:=trodAll_cons h;exact trodAll_cons_mk (Below.trod zOo (hr t (by simp)).1 (hr t (by simp)).2 h1 hn (fun x hx=>hlt x (List.mem_append_left _ hx))) (zGn hn (fun u hu=>hr u (by simp[hu])) h2 (fun x hx=>hlt x (List.mem_append_right _ hx)))
set_option maxRecDepth 100000 in
theorem zRd {H:Type} {enc:TypeId×Value->H} {f:FuncId} {fn:Func} {s:ChangeSpec} (hr:fn.resultTypes=#[4]) (hs:s.vars=[]) (hread:∀t∈fn.params.toList,TP.readableRec t=true∧t<TP.types.size)
  {W:World} {args:Array Value} {ds gs:List (DataW H)} {before:List MemPlace} (hfn:s.fn H ds={results:=[.lit (.bool true)],args:=ds})
  (hW:DataW.Whole enc TP fn.params.toList s.vars false W args.toList ds gs before)
  (hc : @Calls TP (ZS W) f args (seenZ W) fun e w'=>e=.returned (.bool true)∧Grew (seenZ W) w' []) :
  @Calls TP (ZS W) f args (seenZ W) fun e v'=>∃x,e=.returned x∧Below (seenZ W).heap.size (seenZ W) v'∧∀W',Below W.heap.size W W'->s.post enc TP fn false true false false W args x W':=by
 have hW':=hW;obtain⟨p,q,hA,hV,rfl,_,_⟩:=hW;rw[hs] at hV;obtain⟨rfl,rfl⟩:=trodVars_none hV;simp only[List.append_nil] at hW';refine @Calls.mono _ (ZS W) _ _ _ _ _ hc fun e v' ⟨he,hg⟩=>⟨_,he,hg.1,fun W' hb=>?_⟩
 refine⟨_,_,_,[],p,[],hW',?_,?_,?_,hb.frame _,fun h=>Bool.noConfusion h⟩
 ·rw[List.append_nil,hfn,hr];exact trodAll_mk1 (shut_bool jAb true)
 ·rw[List.append_nil,hfn];exact zGn hb hread hA (fun x hx=>hW'.lt x hx)
 ·rw[List.append_nil,hfn,hs];rfl
set_option maxRecDepth 100000 in
theorem zHk {H:Type} {enc:TypeId×Value->H} {W:World} {fuel:Nat} {v:Value} {x:DataW H×List MemPlace} (hf:DataW.trod enc TP W 0 (fun _=>true) true fuel 23 [v]=some x) (hlt:∀y∈x.2,y.block<W.heap.size) :
  ∃(A:Option Addr) (c:Nat) (l:List Int),v=.slice A l.length c∧RdL icell 1 W A l∧(A=Option.none->l=[]∧c=0):=by
 rcases open_ints zV2 zH9 zLw hf with ⟨hcs,hx⟩|⟨a,len,cap,zs,hcs,_,hl,hm,hz,hx,hcell,hwz⟩
 ·obtain rfl:=List.singleton_inj.1 hcs;exact⟨_,_,[],rfl,fun h=>absurd h (by simp),fun _=>⟨rfl,rfl⟩⟩
 ·obtain rfl:=List.singleton_inj.1 hcs;subst hx;simp only[if_true] at hz;obtain⟨b,off,spot⟩:=a;have hlen:(zs.take len).length=len:=by rw[List.length_take];omega
  refine⟨_,cap,zs.take len,by rw[hlen],fun hpos=>?_,fun h=>by cases h⟩;rw[hlen] at hpos;have hspot:spot=Option.none:=by simpa[Addr.add] using World.cell?_spot (hcell 0 om)
  subst hspot;refine⟨b,off,rfl,hlt (.cell b off) (MemPlace.mem_row.2 ⟨0,by omega,by simp⟩),fun k x hk j u hu=>?_⟩;rw[List.getElem?_take] at hk
  split at hk
  ·rename_i hkl
   cases j with
   | zero =>
    simp[icell] at hu;subst hu;have:=hcell k om;rw[List.getD_eq_getElem?_getD,hk] at this;rw[Nat.mul_one,Nat.add_zero];rw[add_plain] at this
    exact this
   | succ j=>simp[icell] at hu
  ·cases hk
set_option maxRecDepth 100000 in
theorem zMj {H:Type} {enc:TypeId×Value->H} {W:World} {fuel:Nat} {cs:List Value} {x:DataW H×List MemPlace} (h:DataW.trod enc TP W 0 (fun _=>true) true fuel 27 cs=some x) :
  ∃y:FltZ,y.wf∧cs=y.cells:=by
 obtain⟨xs,n,_,_,hcl,hxl,hf⟩:=DataW.trod_struct Tryz.underlying27 h;rw[co27] at hcl
 match cs,hcl with
 | [v0,v1,v2,v3],_ =>
  have key:∀v x,DataW.trod enc TP W 0 (fun _=>true) true n 3 [v]=some x->∃m,v=.int .i64 m∧W64 m:=fun v x hx=>by
   obtain⟨m,h1,_,h3⟩:=DataW.trod_int zH9 hx;exact⟨m,List.singleton_inj.1 h1,bounds_i64 h3⟩
  have keyb:∀v x,DataW.trod enc TP W 0 (fun _=>true) true n 4 [v]=some x->∃b,v=.bool b:=fun v x hx=>by
   obtain⟨b,h1,_⟩:=DataW.trod_bool jAb hx;exact⟨b,List.singleton_inj.1 h1⟩
  have f0:=hf 0 _ J;have f1:=hf 1 _ J;have f2:=hf 2 _ J;have f3:=hf 3 _ J;simp[zLw] at f0 f1 f2;simp[co4] at f3;obtain⟨m0,rfl,w0⟩:=key v0 _ (f0.trans (List.getElem?_eq_getElem (by simp[hxl])));obtain⟨m1,rfl,w1⟩:=key v1 _ (f1.trans (List.getElem?_eq_getElem (by simp[hxl])));obtain⟨m2,rfl,w2⟩:=key v2 _ (f2.trans (List.getElem?_eq_getElem (by simp[hxl])));obtain⟨b,rfl⟩:=keyb v3 _ (f3.trans (List.getElem?_eq_getElem (by simp[hxl])));exact⟨⟨m0,m1,m2,b⟩,⟨w0,w1,w2⟩,rfl⟩
set_option maxRecDepth 100000 in
theorem jCn {H:Type} {enc:TypeId×Value->H} {W:World} {base:Nat} {v:Value} {d:DataW H} {p:List MemPlace} (hok:Value.okWide TP W .any base 27 v)
  (h:DataW.Trod enc TP W 0 (fun _=>true) true 27 v d p):∃y:FltZ,y.wf∧v=.agg y.cells.toArray:=by
 obtain⟨cs,rfl,_⟩:=okWide_struct Tryz.underlying27 hok;obtain⟨fuel,hf⟩:=h;obtain⟨y,hy,hc⟩:=zMj hf;simp only[Value.cells] at hc;exact⟨y,hy,by rw[<-hc]⟩
set_option maxRecDepth 100000 in
theorem zOx {H:Type} {enc:TypeId×Value->H} {W:World} {fuel:Nat} {v:Value} {x:DataW H×List MemPlace} (hf:DataW.trod enc TP W 0 (fun _=>true) true fuel 22 [v]=some x) (hlt:∀y∈x.2,y.block<W.heap.size) :
  ∃(A:Option Addr) (c:Nat) (l:List FltZ),v=.slice A l.length c∧RdL FltZ.cells 4 W A l∧(∀y∈l,y.wf)∧(A=Option.none->l=[]∧c=0):=by
 rcases Go.Deep.open_slice U22 hf with ⟨hcs,hx⟩|⟨a,len,cap,m,n,D,Pl,hcs,_,hl,hm,hmm,hx,hi⟩
 ·obtain rfl:=List.singleton_inj.1 hcs;exact⟨_,_,[],rfl,fun h=>absurd h (by simp),fun y hy=>(List.not_mem_nil hy).elim,fun _=>⟨rfl,rfl⟩⟩
 ·obtain rfl:=List.singleton_inj.1 hcs;subst hx;simp only[if_true] at hmm;subst hmm;rw[co27] at hi
  obtain⟨Y,hY⟩:=Go.Deep.choose_lt (α:=FltZ) (p:=fun i y=>y.wf∧∀j u,y.cells[j]?=some u->W.cell? (a.add (i*4+j))=some u) (fun i hlt'=>by
   obtain⟨cs',h1,h2⟩:=hi i hlt';obtain⟨y,hy,rfl⟩:=zMj h2;obtain⟨_,_,h3⟩:=World.cells?_some h1;refine⟨y,hy,fun j u hu=>?_⟩
   have hj:j<4:=by
    have:=(List.getElem?_eq_some_iff.1 hu).1;simpa[FltZ.cells] using this
   have:=h3 j hj;rw[hu,Go.Deep.add_add] at this
   exact this)
  have hlen:((List.range len).map Y).length=len:=by simp
  obtain⟨b,off,spot⟩:=a
  refine⟨_,m,(List.range len).map Y,by rw[hlen],fun hpos=>?_,fun y hy=>?_,fun h=>by cases h⟩
  ·rw[hlen] at hpos;have hspot:spot=Option.none:=by simpa[Addr.add] using World.cell?_spot ((hY 0 om).2 0 _ J)
   subst hspot;refine⟨b,off,rfl,hlt (.cell b off) (List.mem_append_left _ (MemPlace.mem_row.2 ⟨0,by rw[co27];omega,by simp⟩)),fun k x hk j u hu=>?_⟩;rw[List.getElem?_map] at hk;obtain⟨i,h1,rfl⟩:=Option.map_eq_some_iff.1 hk;obtain⟨h2,h3⟩:=List.getElem?_eq_some_iff.1 h1;rw[List.getElem_range] at h3;subst h3;rw[List.length_range] at h2;have:=(hY k om).2 j u hu;rw[add_plain,<-Nat.add_assoc] at this;exact this
  ·obtain⟨i,h1,rfl⟩:=List.mem_map.1 hy;exact (hY i (by have:=List.mem_range.1 h1;omega)).1
set_option maxRecDepth 100000 in
theorem co25:TP.cellsOf 25=3:=by kernel_rfl
theorem coFLS:TP.cellsOf 22=1:=by kernel_rfl
theorem coINTS:TP.cellsOf 23=1:=by kernel_rfl
set_option maxRecDepth 100000 in
theorem zYr {H:Type} {enc:TypeId×Value->H} {W:World} {base:Nat} {v:Value} {d:DataW H} {p:List MemPlace} (hok:Value.okWide TP W .any base 25 v)
  (h:DataW.Trod enc TP W 0 (fun _=>true) true 25 v d p) (hlt:∀y∈p,y.block<W.heap.size) :
  ∃x:CZ,v=.agg x.cells.toArray∧x.Rd W∧(∀f∈x.fz,f.wf)∧(x.fA=Option.none->x.fz=[]∧x.fc=0)∧(x.dA=Option.none->x.dz=[]∧x.dc=0):=by
 obtain⟨cs,rfl,hsz⟩:=okWide_struct Tryz.underlying25 hok;obtain⟨fuel,hf⟩:=h;obtain⟨y0,y1,y2,n,hx,hcl,h0,h1,h2⟩:=Go.Deep.trod_struct3 Tryz.underlying25 hf;simp only[Prod.mk.injEq] at hx;obtain⟨rfl,rfl⟩:=hx
 have hcs:∃v0 v1 v2,cs=#[v0,v1,v2]:=by
  rw[co25] at hsz;obtain⟨l⟩:=cs
  match l,hsz with
  | [v0,v1,v2],_=>exact⟨v0,v1,v2,rfl⟩
 obtain⟨v0,v1,v2,rfl⟩:=hcs;simp[Value.cells,coFLS,zLw,coINTS] at h0 h1 h2;obtain⟨A,c,l,rfl,r1,r2,r3⟩:=zOx h0 fun y hy=>hlt y (by simp[hy]);obtain⟨D,dc,dz,rfl,r4,r5⟩:=zHk h2 fun y hy=>hlt y (by simp[hy]);obtain⟨m,h1',_,_⟩:=DataW.trod_int zH9 h1;obtain rfl:=List.singleton_inj.1 h1';exact⟨⟨A,c,l,m,D,dc,dz⟩,rfl,⟨r1,r4⟩,r2,r3,r5⟩
set_option maxRecDepth 100000 in
theorem zZy {H:Type} {enc:TypeId×Value->H} {W:World} {base:Nat} {v:Value} {d:DataW H} {p:List MemPlace} (hok:Value.okWide TP W .any base 23 v)
  (h:DataW.Trod enc TP W 0 (fun _=>true) true 23 v d p) (hlt:∀y∈p,y.block<W.heap.size):∃(A:Option Addr) (c:Nat) (l:List Int),v=.slice A l.length c∧RdL icell 1 W A l∧(A=Option.none->l=[]∧c=0):=by
 obtain⟨a0,len,cap,rfl⟩:=okWide_slice zV2 hok;obtain⟨fuel,hf⟩:=h;exact zHk (x:=(d,p)) hf hlt
set_option maxRecDepth 100000 in
theorem zXy:TP.readableRec 25=true∧25<TP.types.size:=⟨by kernel_rfl,of_decide_eq_true (by kernel_rfl)⟩
set_option maxRecDepth 100000 in
theorem zZi:TP.readableRec 27=true∧27<TP.types.size:=⟨by kernel_rfl,of_decide_eq_true (by kernel_rfl)⟩
set_option maxRecDepth 100000 in
theorem zO8:TP.readableRec 3=true∧3<TP.types.size:=⟨by kernel_rfl,of_decide_eq_true (by kernel_rfl)⟩
theorem zWs:TP.readableRec 23=true∧23<TP.types.size:=⟨jBu,jF6⟩
end Go.Proofs.YteppiphdbondeaaGreat.N
namespace Go.Proofs.YteppiphdbondeaaGreat.N
set_option linter.unusedSectionVars false
open Go.RowKit
end Go.Proofs.YteppiphdbondeaaGreat.N
