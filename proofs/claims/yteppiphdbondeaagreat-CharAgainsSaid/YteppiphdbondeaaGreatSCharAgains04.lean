/- Parts of the walk of the law CharAgains: W1, W2, W3, W4, W5, G1, G2, Sx3, Sq, Bits, Mod, V12. -/
import Derived.Test.YteppiphdbondeaaGreatSCharAgains03
import Derived.Conc.EventLaws
import Derived.Conc.WgArith
import Derived.Test.YteppiphdbondeaaGreatProg
import Derived.Test.YteppiphdbondeaaGreatSCharAgains01
import Derived.Test.YteppiphdbondeaaGreatSCharAgains00
import Derived.RangeFuncRecord
namespace Go.Proofs.YteppiphdbondeaaGreat.N
set_option linter.unusedSectionVars false
open Go.RowKit
section
open Go.Conc
set_option linter.unusedVariables false
set_option linter.unusedSimpArgs false
def Ent (P : Program) (f : FuncId) (e : Array Value -> Sem Value) : Prop := ∃ fn, P.funcs[f]? = some fn ∧ (fn.name == "runtime.NumGoroutine") = false ∧ fn.body.isNone = true ∧ Extern.findNext fn = none ∧ Extern.find fn = some e
def Does (K:Pro) (P:Program) (main:Bool) (g g':Goroutine) (σ:K.St) (acts:List MemAct) (σ':K.St):Prop :=
 ∀w,K.shows σ w->∃w' es,stepG P main g w=.go g' w' es∧es.toList.map MemAct.ofEvent=acts∧K.turns σ σ' w w'
section
variable {low:Nat} {tW:TypeId} {msg:Nat->Value} {σ σ':Cst}
theorem zCh (hW:σ.mn.hasW=true) {w:World} (h:(Cp low tW msg).shows σ w):w.heap[σ.W]?=some (σ.cells tW):=h.1 σ.W _ (by simp[Cp,hW])
theorem zAj (hW:σ.mn.hasW=true) {w:World} (h:(Cp low tW msg).shows σ w):w.cell? ⟨σ.W,0,none⟩=some (.int .u64 (σ.state:Int)):=by
 rw[cell_of_row w σ.W 0 _ _ _ (zCh hW h)]
 rfl
theorem zCo (hW:σ.mn.hasW=true) {w:World} (h:(Cp low tW msg).shows σ w):w.cell? ⟨σ.W,1,none⟩=some (.int .u32 (σ.sem.toNat:Int)):=by
 rw[cell_of_row w σ.W 1 _ _ _ (zCh hW h)]
 rfl
theorem zA2 (hW:σ.mn.hasW=true) {w:World} (h:(Cp low tW msg).shows σ w) (o:Nat):w.frozen? ⟨σ.W,o,none⟩=false:=by
 have:=zCh hW h;simp[World.frozen?,this,Cst.cells]
theorem zA4 {w:World} (h:(Cp low tW msg).shows σ w) (e1:(Cp low tW msg).sh σ'=(Cp low tW msg).sh σ) (e2:(Cp low tW msg).ch σ'=(Cp low tW msg).ch σ):(Cp low tW msg).turns σ σ' w w :=
 ⟨⟨fun b o hb=>h.1 b o (by rw[<-e1];exact hb),fun c x hc=>h.2 c x (by rw[<-e2];exact hc)⟩,rfl,rfl,rfl,rfl,rfl,fun _ _=>rfl⟩
theorem zBt (hk:Cok low σ) (hW:σ.mn.hasW=true) {w:World} (h:(Cp low tW msg).shows σ w) {o:Nat} {u:Value} (e1:∀b,(Cp low tW msg).sh σ' b=if b=σ.W then some (.cells ((#[.int .u64 (σ.state:Int),.int .u32 (σ.sem.toNat:Int)]:Array Value).setIfInBounds o u) tW (0,0)) else none) (e2:(Cp low tW msg).ch σ'=(Cp low tW msg).ch σ) :
  (Cp low tW msg).turns σ σ' w (w.setCell ⟨σ.W,o,none⟩ u):=by
 have hc:=zCh hW h;have hoff:∀b,b≠σ.W->(w.setCell ⟨σ.W,o,none⟩ u).heap[b]?=w.heap[b]?:=fun b hb=>Below.heap_setCell w _ u b (fun e=>hb e)
 refine⟨⟨fun b ob hb=>?_,fun c x hcx=>?_⟩,by simp[World.setCell],rfl,rfl,rfl,rfl,fun b hb=>hoff b fun e=>hb (by rw[e];exact hk.hasW hW)⟩
 ·rw[e1] at hb
  split at hb
  ·rename_i e;subst e
   cases hb
   exact zKi hc u
  ·cases hb
 ·rw[e2] at hcx;obtain⟨r,hr⟩:=h.2 c x hcx;refine⟨r,?_⟩
  rw[hoff c ?_]
  ·exact hr
  ·rintro rfl;rw[hc] at hr
   cases hr
variable {P:Program} {main:Bool} {b:Frame} {a:Act} {k:List Item} {cs:List Frame} {ops:Array Oper} {j:Nat} {rest:List Nat} {o:Oper} {f:FuncId} {ats:Array TypeId} {aS:Array Operand}
theorem zDg (m:Mark) (hm:∀g,m≠.extern g) (ho:ops[j]?=some o) (hw:Region.wanted o (yielded ops a.tmps)=true) (hk:b.kind≠.early) (hop:o.op=.call {callee:=.value (.func f),args:=aS,argTypes:=ats})
  (he:Ent P f (fun _=>do mark m;pure Extern.Race.none_)) (e1:(Cp low tW msg).sh σ'=(Cp low tW msg).sh σ) (e2:(Cp low tW msg).ch σ'=(Cp low tW msg).ch σ) :
  Does (Cp low tW msg) P main (G (b.at a (.inRegion ops (j::rest)::k)) cs) (G (b.at (a.put o.dst (.tuple #[])) (.inRegion ops rest::k)) cs) σ [.mark m] σ':=fun w h=>by
 obtain⟨fn,h1,h2,h3,h4,h5⟩:=he;exact⟨w,_,stepG_mark0 m hm ho hw hk hop h1 h2 h3 h4 h5,rfl,zA4 h e1 e2⟩
theorem zEn (mk:Addr->Mark) (hm:∀ad g,mk ad≠.extern g) {ad:Addr} (hx:(aS.map a.eval)[0]?=some (.pointer (some ad))) (ho:ops[j]?=some o) (hw:Region.wanted o (yielded ops a.tmps)=true) (hk:b.kind≠.early) (hop:o.op=.call {callee:=.value (.func f),args:=aS,argTypes:=ats})
  (he:Ent P f (Extern.Race.marked mk)) (e1:(Cp low tW msg).sh σ'=(Cp low tW msg).sh σ) (e2:(Cp low tW msg).ch σ'=(Cp low tW msg).ch σ) :
  Does (Cp low tW msg) P main (G (b.at a (.inRegion ops (j::rest)::k)) cs) (G (b.at (a.put o.dst (.tuple #[])) (.inRegion ops rest::k)) cs) σ [.mark (mk ad)] σ':=fun w h=>by
 obtain⟨fn,h1,h2,h3,h4,h5⟩:=he;exact⟨w,_,stepG_markAt mk hm ho hw hk hop h1 h2 h3 h4 h5 hx,rfl,zA4 h e1 e2⟩
theorem zFy (hc:Cok low σ) (hW:σ.mn.hasW=true) {x y:Operand} {dl:Int} {s:Nat} (hx:a.eval x=.pointer (some ⟨σ.W,0,none⟩)) (hy:a.eval y=.int .u64 dl) (hs:IntKind.u64.wrap ((σ.state:Int)+dl)=(s:Int)) (ho:ops[j]?=some o) (hw:Region.wanted o (yielded ops a.tmps)=true) (hk:b.kind≠.early) (hop:o.op=.call {callee:=.value (.func f),args:=#[x,y],argTypes:=ats})
  (he:Ent P f (Extern.Atomic.update (Op.intArith .add) .u64 true)) (e1:∀b,(Cp low tW msg).sh σ' b=if b=σ.W then some (.cells #[.int .u64 (s:Int),.int .u32 (σ.sem.toNat:Int)] tW (0,0)) else none) (e2:(Cp low tW msg).ch σ'=(Cp low tW msg).ch σ) :
  Does (Cp low tW msg) P main (G (b.at a (.inRegion ops (j::rest)::k)) cs) (G (b.at (a.put o.dst (.int .u64 (s:Int))) (.inRegion ops rest::k)) cs) σ [.access ⟨.cell ⟨σ.W,0,none⟩,false,true⟩,.access ⟨.cell ⟨σ.W,0,none⟩,true,true⟩] σ':=fun w h=>by
 obtain⟨fn,h1,h2,h3,h4,h5⟩:=he;have:=stepG_add_atomic (main:=main) (cs:=cs) (rest:=rest) (kk:=k) (w:=w) ho hw hk hop h1 h2 h3 h4 .u64 h5 hx hy (zAj hW h) (zA2 hW h 0);rw[hs] at this;exact⟨_,_,this,rfl,zBt hc hW h e1 e2⟩
theorem zD4 (hW:σ.mn.hasW=true) {x:Operand} (hx:a.eval x=.pointer (some ⟨σ.W,0,none⟩)) (ho:ops[j]?=some o) (hw:Region.wanted o (yielded ops a.tmps)=true) (hk:b.kind≠.early) (hop:o.op=.call {callee:=.value (.func f),args:=#[x],argTypes:=ats})
  (he:Ent P f (Extern.Atomic.loadT (.int .u64))) (e1:(Cp low tW msg).sh σ'=(Cp low tW msg).sh σ) (e2:(Cp low tW msg).ch σ'=(Cp low tW msg).ch σ) :
  Does (Cp low tW msg) P main (G (b.at a (.inRegion ops (j::rest)::k)) cs) (G (b.at (a.put o.dst (.int .u64 (σ.state:Int))) (.inRegion ops rest::k)) cs) σ [.access ⟨.cell ⟨σ.W,0,none⟩,false,true⟩] σ':=fun w h=>by
 obtain⟨fn,h1,h2,h3,h4,h5⟩:=he;exact⟨w,_,stepG_load_atomic ho hw hk hop h1 h2 h3 h4 .u64 h5 hx (zAj hW h),rfl,zA4 h e1 e2⟩
theorem zTj (hc:Cok low σ) (hW:σ.mn.hasW=true) {x y:Operand} {s:Nat} (hx:a.eval x=.pointer (some ⟨σ.W,0,none⟩)) (hy:a.eval y=.int .u64 (s:Int)) (ho:ops[j]?=some o) (hw:Region.wanted o (yielded ops a.tmps)=true) (hk:b.kind≠.early) (hop:o.op=.call {callee:=.value (.func f),args:=#[x,y],argTypes:=ats})
  (he:Ent P f Extern.Atomic.storeT) (e1:∀b,(Cp low tW msg).sh σ' b=if b=σ.W then some (.cells #[.int .u64 (s:Int),.int .u32 (σ.sem.toNat:Int)] tW (0,0)) else none) (e2:(Cp low tW msg).ch σ'=(Cp low tW msg).ch σ) :
  Does (Cp low tW msg) P main (G (b.at a (.inRegion ops (j::rest)::k)) cs) (G (b.at (a.put o.dst (.tuple #[])) (.inRegion ops rest::k)) cs) σ [.access ⟨.cell ⟨σ.W,0,none⟩,true,true⟩] σ':=fun w h=>by
 obtain⟨fn,h1,h2,h3,h4,h5⟩:=he;exact⟨_,_,stepG_store_atomic ho hw hk hop h1 h2 h3 h4 h5 hx hy (zAj hW h) (zA2 hW h 0),rfl,zBt hc hW h e1 e2⟩
theorem zYd (hc:Cok low σ) (hW:σ.mn.hasW=true) {x y z:Operand} {s:Nat} (hx:a.eval x=.pointer (some ⟨σ.W,0,none⟩)) (hy:a.eval y=.int .u64 (σ.state:Int)) (hz:a.eval z=.int .u64 (s:Int)) (ho:ops[j]?=some o) (hw:Region.wanted o (yielded ops a.tmps)=true) (hk:b.kind≠.early) (hop:o.op=.call {callee:=.value (.func f),args:=#[x,y,z],argTypes:=ats})
  (he:Ent P f (Extern.Atomic.casT (.int .u64))) (e1:∀b,(Cp low tW msg).sh σ' b=if b=σ.W then some (.cells #[.int .u64 (s:Int),.int .u32 (σ.sem.toNat:Int)] tW (0,0)) else none) (e2:(Cp low tW msg).ch σ'=(Cp low tW msg).ch σ) :
  Does (Cp low tW msg) P main (G (b.at a (.inRegion ops (j::rest)::k)) cs) (G (b.at (a.put o.dst (.bool true)) (.inRegion ops rest::k)) cs) σ [.access ⟨.cell ⟨σ.W,0,none⟩,false,true⟩,.access ⟨.cell ⟨σ.W,0,none⟩,true,true⟩] σ':=fun w h=>by
 obtain⟨fn,h1,h2,h3,h4,h5⟩:=he;exact⟨_,_,stepG_cas_hit ho hw hk hop h1 h2 h3 h4 .u64 h5 hx hy hz (zAj hW h) (zA2 hW h 0),rfl,zBt hc hW h e1 e2⟩
theorem zVg (hc:Cok low σ) (hW:σ.mn.hasW=true) {x y z:Operand} {s s':Nat} (hx:a.eval x=.pointer (some ⟨σ.W,0,none⟩)) (hy:a.eval y=.int .u64 (s':Int)) (hz:a.eval z=.int .u64 (s:Int)) (hne:σ.state≠s') (ho:ops[j]?=some o) (hw:Region.wanted o (yielded ops a.tmps)=true) (hk:b.kind≠.early) (hop:o.op=.call {callee:=.value (.func f),args:=#[x,y,z],argTypes:=ats})
  (he:Ent P f (Extern.Atomic.casT (.int .u64))) (e1:(Cp low tW msg).sh σ'=(Cp low tW msg).sh σ) (e2:(Cp low tW msg).ch σ'=(Cp low tW msg).ch σ) :
  Does (Cp low tW msg) P main (G (b.at a (.inRegion ops (j::rest)::k)) cs) (G (b.at (a.put o.dst (.bool false)) (.inRegion ops rest::k)) cs) σ [.access ⟨.cell ⟨σ.W,0,none⟩,false,true⟩] σ':=fun w h=>by
 obtain⟨fn,h1,h2,h3,h4,h5⟩:=he;exact⟨_,_,stepG_cas_miss ho hw hk hop h1 h2 h3 h4 .u64 h5 hx hy hz (zAj hW h) (zA2 hW h 0) (by omega),rfl,zA4 h e1 e2⟩
theorem zQ2 (hc:Cok low σ) (hW:σ.mn.hasW=true) (hs:σ.sem=false) (hx:(aS.map a.eval)[0]?=some (.pointer (some ⟨σ.W,1,none⟩))) (ho:ops[j]?=some o) (hw:Region.wanted o (yielded ops a.tmps)=true) (hk:b.kind≠.early) (hop:o.op=.call {callee:=.value (.func f),args:=aS,argTypes:=ats})
  (he:Ent P f Extern.Sync.semrelease) (e1:∀b,(Cp low tW msg).sh σ' b=if b=σ.W then some (.cells #[.int .u64 (σ.state:Int),.int .u32 1] tW (0,0)) else none) (e2:(Cp low tW msg).ch σ'=(Cp low tW msg).ch σ) :
  Does (Cp low tW msg) P main (G (b.at a (.inRegion ops (j::rest)::k)) cs) (G (b.at (a.put o.dst (.tuple #[])) (.inRegion ops rest::k)) cs) σ (semActs σ.W) σ':=fun w h=>by
 obtain⟨fn,h1,h2,h3,h4,h5⟩:=he;have hc1:=zCo hW h;rw[hs] at hc1;exact⟨_,_,stepG_semrelease ho hw hk hop h1 h2 h3 h4 h5 hx hc1 (zA2 hW h 1),rfl,zBt hc hW h (fun b=>by rw[e1 b,hs];rfl) e2⟩
theorem zQ4 (hc:Cok low σ) (hW:σ.mn.hasW=true) (hs:σ.sem=true) (hx:(aS.map a.eval)[0]?=some (.pointer (some ⟨σ.W,1,none⟩))) (ho:ops[j]?=some o) (hw:Region.wanted o (yielded ops a.tmps)=true) (hk:b.kind≠.early) (hop:o.op=.call {callee:=.value (.func f),args:=aS,argTypes:=ats})
  (he:Ent P f Extern.Sync.semacquire) (e1:∀b,(Cp low tW msg).sh σ' b=if b=σ.W then some (.cells #[.int .u64 (σ.state:Int),.int .u32 0] tW (0,0)) else none) (e2:(Cp low tW msg).ch σ'=(Cp low tW msg).ch σ) :
  Does (Cp low tW msg) P main (G (b.at a (.inRegion ops (j::rest)::k)) cs) (G (b.at (a.put o.dst (.tuple #[])) (.inRegion ops rest::k)) cs) σ (semActs σ.W) σ':=fun w h=>by
 obtain⟨fn,h1,h2,h3,h4,h5⟩:=he;have hc1:=zCo hW h;rw[hs] at hc1;exact⟨_,_,stepG_semacquire ho hw hk hop h1 h2 h3 h4 h5 hx hc1 (by decide) (zA2 hW h 1),rfl,zBt hc hW h (fun b=>by rw[e1 b,hs];rfl) e2⟩
theorem stands (hW:σ.mn.hasW=true) (hs:σ.sem=false) (hx:(aS.map a.eval)[0]?=some (.pointer (some ⟨σ.W,1,none⟩))) (ho:ops[j]?=some o) (hw:Region.wanted o (yielded ops a.tmps)=true) (hop:o.op=.call {callee:=.value (.func f),args:=aS,argTypes:=ats})
  (he:Ent P f Extern.Sync.semacquire) {w:World} (h:(Cp low tW msg).shows σ w):stepG P main (G (b.at a (.inRegion ops (j::rest)::k)) cs) w=.go {G (b.at a (.inRegion ops (j::rest)::k)) cs with status:=.blocked} w:=by
 obtain⟨fn,h1,h2,h3,h4,h5⟩:=he;have hc1:=zCo hW h;rw[hs] at hc1;exact stepG_semacquire_wait ho hw hop h1 h2 h3 h4 h5 hx hc1
theorem zFx {x:Operand} {s t e:TypeId} {dst:Option Nat} {ty:TypeId} {pos:String} {after:Array Edge} {gd:Option (Nat×Bool)} {off:Nat} (hW:σ.mn.hasW=true) (hx:a.eval x=.pointer (some ⟨σ.W,off,none⟩)) (ho:ops[j]?=some ⟨dst,.convert s t x,ty,pos,after,gd⟩) (hw:Region.wanted ⟨dst,.convert s t x,ty,pos,after,gd⟩ (yielded ops a.tmps)=true) (hk:b.kind≠.early)
  (hs:P.underlying s=some (.pointer e)) (hd:P.underlying t=some .unsafePointer) (hsz:(P.info? e).map (fun i=>decide (i.size=0))=some false) (hoff:off=0∨off=1) {w:World} (h:(Cp low tW msg).shows σ w) :
  stepG P main (G (b.at a (.inRegion ops (j::rest)::k)) cs) w=.go (G (b.at (a.put dst (.pointer (some ⟨σ.W,off,none⟩))) (.inRegion ops rest::k)) cs) w:=by
 have hc:∃u,w.cell? ⟨σ.W,off,none⟩=some u:=by
  rcases hoff with rfl|rfl
  ·exact⟨_,zAj hW h⟩
  ·exact⟨_,zCo hW h⟩
 obtain⟨u,hc⟩:=hc
 have hr:(execOp a.eval ⟨dst,.convert s t x,ty,pos,after,gd⟩).run P w=.ok (.value (.pointer (some ⟨σ.W,off,none⟩))) w:=by
  simp[execOp,hx,run_convert_to_unsafe hs hd hsz hc]
 rw[stepG_value ho hw hk hr]
 have he:(execOp a.eval ⟨dst,.convert s t x,ty,pos,after,gd⟩).events P w #[]=#[]:=by
  simp[execOp,hx,events_convert_to_unsafe hs hd hsz hc]
 unfold listed;rw[he,seen_none]
end
variable {q:Wkr}
section
variable {P:Program} {K:Pro} {i:Nat} {γ:Gh} {v:World} {g:Goroutine} {Stop:Goroutine->World->Prop}
theorem zN9 (hi:i≠0) (hv:v.output=gout γ) (hr:g.status=.running) (hm:mayWake P g=true) (Nx:Gh->Goroutine->Prop)
  (h:∀σ,K.ok σ->K.gh σ i=some γ->∃acts cl σ' g',K.Moves i σ acts cl σ'∧Does K P false g g' σ acts σ' ∧
   ((∃γ',K.gh σ' i=some γ'∧¬(K.ts σ').Dn i∧Nx γ' g')∨(∃γ',K.gh σ' i=some γ'∧(K.ts σ').Dn i∧Quiet P K i γ' g')∨∃n,K.gh σ' i=none∧QuitsD P n (dacts ((K.ts σ).D i) acts) g'))
  (k:∀γ' g',Nx γ' g'->@Gs P (nSys P K i) Stop g' (saying v (gout γ'))) : @Gs P (nSys P K i) Stop g v:=by
 refine @Gs.sync' P (nSys P K i) _ _ _ fun v₁ h1=>⟨hr,γ,h1.output.trans hv,.act hm fun σ ok hg=>.inr ?_⟩;obtain⟨acts,cl,σ',g',hmv,hd,hf⟩:=h σ ok hg;refine⟨acts,cl,σ',g',hmv,fun F S w _ hs=>hd w hs,?_⟩
 rcases hf with ⟨γ',h2,h3,h4⟩|⟨γ',h2,h3,h4⟩|⟨n,h2,h3⟩
 ·exact .inl ⟨γ',h2,h3,@Gs.rely P (nSys P K i) _ _ _ _ (k γ' g' h4) (wQ h1 _)⟩
 ·exact .inr (.inl ⟨hi,γ',h2,h3,h4⟩)
 ·exact .inr (.inr ⟨hi,n,h2,h3⟩)
theorem zVt (hi:i≠0) (hv:v.output=gout γ) (hr:g.status=.running) (hof:g.offers=none) (hm:mayWake P g=true) (Nx:Gh->Goroutine->Prop)
  (h:∀σ,K.ok σ->K.gh σ i=some γ->(K.idle (K.sh σ) γ∧∀w,K.shows σ w->stepG P false g w=.go {g with status:=.blocked} w)∨∃acts cl σ' g',K.Moves i σ acts cl σ'∧Does K P false g g' σ acts σ'∧∃γ',K.gh σ' i=some γ'∧¬(K.ts σ').Dn i∧Nx γ' g')
  (k:∀γ' g',Nx γ' g'->@Gs P (nSys P K i) Stop g' (saying v (gout γ'))) : @Gs P (nSys P K i) Stop g v:=by
 refine @Gs.sync' P (nSys P K i) _ _ _ fun v₁ h1=>⟨hr,γ,h1.output.trans hv,.act hm fun σ ok hg=>?_⟩
 rcases h σ ok hg with ⟨h2,h3⟩|⟨acts,cl,σ',g',hmv,hd,γ',h2,h3,h4⟩
 ·exact .inl ⟨h2,hof,fun F S w _ hs=>h3 w hs⟩
 ·exact .inr ⟨acts,cl,σ',g',hmv,fun F S w _ hs=>hd w hs,.inl ⟨γ',h2,h3,@Gs.rely P (nSys P K i) _ _ _ _ (k γ' g' h4) (wQ h1 _)⟩⟩
theorem zSw (hv:v.output=gout γ) (hr:g.status=.running) {g':Goroutine} (h:∀σ,K.ok σ->K.gh σ i=some γ->∀w,K.shows σ w->stepG P false g w=.go g' w) (k : @Gs P (nSys P K i) Stop g' v) : @Gs P (nSys P K i) Stop g v :=
 @Gs.sync' P (nSys P K i) _ _ _ fun v₁ h1=>⟨hr,γ,h1.output.trans hv,.look g' h (@Gs.rely P (nSys P K i) _ _ _ _ k h1)⟩
theorem zVn (hv:v.output=gout γ) (hr:g.status=.running) (hm:mayWake P g=true) (Nx:Gh->Goroutine->Prop)
  (h:∀σ,K.ok σ->K.gh σ 0=some γ->∃acts cl σ' g',K.Moves 0 σ acts cl σ'∧Does K P true g g' σ acts σ'∧∃γ',K.gh σ' 0=some γ'∧¬(K.ts σ').Dn 0∧Nx γ' g')
  (k:∀γ' g',Nx γ' g'->@Gs P (zSys P K) Stop g' (saying v (gout γ'))) : @Gs P (zSys P K) Stop g v:=by
 refine @Gs.sync' P (zSys P K) _ _ _ fun v₁ h1=>⟨hr,γ,h1.output.trans hv,.common (.act hm fun σ ok hg=>.inr ?_)⟩;obtain⟨acts,cl,σ',g',hmv,hd,γ',h2,h3,h4⟩:=h σ ok hg;exact⟨acts,cl,σ',g',hmv,fun F S w _ hs=>hd w hs,.inl ⟨γ',h2,h3,@Gs.rely P (zSys P K) _ _ _ _ (k γ' g' h4) (wQ h1 _)⟩⟩
theorem jAe (hv:v.output=gout γ) (hr:g.status=.running) {g':Goroutine} (h:∀σ,K.ok σ->K.gh σ 0=some γ->∀w,K.shows σ w->stepG P true g w=.go g' w) (k : @Gs P (zSys P K) Stop g' v) : @Gs P (zSys P K) Stop g v :=
 @Gs.sync' P (zSys P K) _ _ _ fun v₁ h1=>⟨hr,γ,h1.output.trans hv,.common (.look g' h (@Gs.rely P (zSys P K) _ _ _ _ k h1))⟩
end
section
variable {P:Program} {b:Frame} {a:Act} {k:List Item} {cs:List Frame} {ops:Array Oper} {j:Nat} {rest:List Nat} {o:Oper} {f:FuncId} {ats:Array TypeId} {aS:Array Operand} {e:Array Value->Sem Value}
theorem xE (ho:ops[j]?=some o) (hop:o.op=.call {callee:=.value (.func f),args:=aS,argTypes:=ats}) (he:Ent P f e):mayWake P (G (b.at a (.inRegion ops (j::rest)::k)) cs)=true:=by
 obtain⟨fn,h1,_,h3,_⟩:=he;have h2:fn.body=none:=by simpa using h3
 have ef:(b.at a (.inRegion ops (j::rest)::k)).eval (.func f)=.func (.func f) #[] #[]:=rfl;simp[mayWake,G,Frame.at,ho,hop] at ef ⊢;simp[ef,h1,h2]
theorem zJ1 {σ:Cst} {i:Nat} {γ:Gh} {W f:Nat} (h0:σ.oth 0=none) (hg:σ.gh i=some γ) (he:γ=q.enc W f) (hq:q.quiet=true):i≠0∧σ.oth i=some (.wk q)∧W=σ.W:=by
 subst he;obtain⟨p,h1,h2,h3⟩:=ghs h0 hg (fun W f d e o m=>by cases q<;>cases m<;>simp[Wkr.enc,Mn.enc]);refine⟨h1,?_⟩
 cases p with
 | wk p=>cases q<;>cases p<;>first|(simp_all[Ph.enc,Wkr.enc];done)|cases hq
 | wt p=>cases q<;>cases p<;>first|(simp_all[Ph.enc,Wkr.enc,Wt.enc];done)|cases hq
theorem zDd {σ:Cst} {i:Nat} {γ:Gh} {q:Wt} {W d:Nat} (h0:σ.oth 0=none) (hg:σ.gh i=some γ) (he:γ=q.enc W d):i≠0∧σ.oth i=some (.wt q)∧W=σ.W∧d=σ.d:=by
 subst he;obtain⟨p,h1,h2,h3⟩:=ghs h0 hg (fun W f d e o m=>by cases q<;>cases m<;>simp[Wt.enc,Mn.enc]);refine⟨h1,?_⟩
 cases p with
 | wk p=>cases q<;>cases p<;>simp_all[Ph.enc,Wkr.enc,Wt.enc]
 | wt p=>cases q<;>cases p<;>simp_all[Ph.enc,Wt.enc]
end
section
variable {low:Nat} {tW:TypeId} {msg:Nat->Value} {σ:Cst} {P:Program} {main:Bool} {b:Frame} {a:Act} {k:List Item} {cs:List Frame} {ops:Array Oper} {j:Nat} {rest:List Nat} {o:Oper}
theorem zK4 {x:Builtin} {aS:Array Operand} {ats:Array TypeId} (ho:ops[j]?=some o) (hop:o.op=.call {callee:=.builtin x,args:=aS,argTypes:=ats}):mayWake P (G (b.at a (.inRegion ops (j::rest)::k)) cs)=true:=by
 simp[mayWake,G,Frame.at,ho,hop]
theorem zS3 {x:Operand} {ats:Array TypeId} (h0:Cok low σ) (hm:σ.mn=.hear) (hsh:σ.shut=false) {σ':Cst} (hx:a.eval x=.chan (some σ.d)) (ho:ops[j]?=some o) (hw:Region.wanted o (yielded ops a.tmps)=true) (hk:b.kind≠.early) (hop:o.op=.call {callee:=.builtin .close,args:=#[x],argTypes:=ats})
  (e1:(Cp low tW msg).sh σ'=(Cp low tW msg).sh σ) (e2:∀c,(Cp low tW msg).ch σ' c=if c=σ.d then some true else (Cp low tW msg).ch σ c) :
  Does (Cp low tW msg) P main (G (b.at a (.inRegion ops (j::rest)::k)) cs) (G (b.at (a.put o.dst (.tuple #[])) (.inRegion ops rest::k)) cs) σ [.access ⟨.obj σ.d,false,true⟩,.close σ.d] σ':=fun w h=>by
 have hD:=h0.hasD (by rw[hm];rfl);obtain⟨r,hr⟩:=h.2 σ.d false (by simp[Cp,hm,Mn.hasF,Mn.hasD,hD.2.2,hsh])
 have he:execOp a.eval o=Next.value <$> Builtin.close_ ats o.type #[.chan (some σ.d)]:=by
  unfold execOp;simp[hop,resolve,invoke,hx]
  rfl
 have hrun:(execOp a.eval o).run P w=.ok (.value (.tuple #[])) {w with heap:=w.heap.setIfInBounds σ.d (.chan 0 #[] true r r false)}:=by
  rw[he];simp[run_close_open (P:=P) ats o.type hr]
 have hev:(execOp a.eval o).events P w #[]=#[⟨.obj σ.d,false,true⟩,⟨.obj σ.d,true,true⟩]:=by
  rw[he];simp[events_close_open (P:=P) (es:=#[]) ats o.type hr]
 have hlt:=(Array.getElem?_eq_some_iff.1 hr).1
 refine⟨_,_,stepG_value ho hw hk hrun,?_,⟨⟨fun c ob hb=>?_,fun c x hc=>?_⟩,by simp,rfl,rfl,rfl,rfl,fun c hc=>?_⟩⟩
 ·unfold listed;rw[hev]
  have:seen P b.fn #[⟨.obj σ.d,false,true⟩,⟨.obj σ.d,true,true⟩]=#[⟨.obj σ.d,false,true⟩,⟨.obj σ.d,true,true⟩]:=by
   rw[seen_def];simp[seenStep]
  rw[this]
  rfl
 ·rw[e1] at hb
  have hne:c≠σ.d:=by
   rintro rfl;simp only[Cp] at hb
   split at hb
   ·rename_i y;exact hD.2.1 y.2
   ·cases hb
  show (w.heap.setIfInBounds σ.d _)[c]?=_;rw[Array.getElem?_setIfInBounds_ne (Ne.symm hne)];exact h.1 c ob hb
 ·rw[e2] at hc;show ∃r,(w.heap.setIfInBounds σ.d _)[c]?=_
  by_cases e:c=σ.d
  ·rw[if_pos e] at hc
   cases hc
   subst e;exact⟨r,Array.getElem?_setIfInBounds_self_of_lt hlt⟩
  ·rw[if_neg e] at hc;rw[Array.getElem?_setIfInBounds_ne (Ne.symm e)];exact h.2 c x hc
 ·show (w.heap.setIfInBounds σ.d _)[c]?=_;refine Array.getElem?_setIfInBounds_ne fun e=>hc ?_;rw[<-e];exact hD.1
end
section
variable {low:Nat} {tW:TypeId} {msg:Nat->Value} {σ:Cst} {i:Nat} {p:Option Ph} {cnt car:Nat} {wtr sem:Bool}
theorem zDo (hW:σ.mn.hasW=true) (b:Nat):(Cp low tW msg).sh (σ.turn i p cnt wtr sem car) b=if b=σ.W then some (.cells #[.int .u64 ((cnt*4294967296+wtr.toNat:Nat):Int),.int .u32 (sem.toNat:Int)] tW (0,0)) else none:=by
 show (if _ then _ else _:Option Obj)=_;have:(σ.turn i p cnt wtr sem car).mn.hasW=true:=hW
 by_cases e:b=σ.W
 ·rw[if_pos ⟨this,e⟩,if_pos e]
  rfl
 ·rw[if_neg (fun x=>e x.2),if_neg e]
theorem zAi:(Cp low tW msg).sh (σ.turn i p σ.cnt σ.wtr σ.sem car)=(Cp low tW msg).sh σ:=rfl
theorem vZ:(Cp low tW msg).ch (σ.turn i p cnt wtr sem car)=(Cp low tW msg).ch σ:=rfl
theorem yP {q:Ph} (hi:i≠0):(Cp low tW msg).gh (σ.turn i (some q) cnt wtr sem car) i=some (q.enc σ.W σ.f σ.d):=zB7 (σ:=σ.turn i (some q) cnt wtr sem car) hi vI
theorem zSv (hi:i≠0):(Cp low tW msg).gh (σ.turn i none cnt wtr sem car) i=none:=zBr (σ:=σ.turn i none cnt wtr sem car) hi vI
theorem zDa {q:Wt}:¬((Cp low tW msg).ts (σ.turn i (some (.wt q)) cnt wtr sem car)).Dn i:=zK0 (σ:=σ.turn i (some (.wt q)) cnt wtr sem car) vI
theorem zJw (hq:q.quiet=true):((Cp low tW msg).ts (σ.turn i (some (.wk q)) cnt wtr sem car)).Dn i:=(zFq (σ:=σ.turn i (some (.wk q)) cnt wtr sem car) vI).2 hq
end
end
section
open Go.Conc
set_option linter.unusedVariables false
set_option linter.unusedSimpArgs false
variable {n:Nat} {q q':Wt} {x:Operand}
def ΦN (P:Program) (K:Pro) (i:Nat) (Stop:Goroutine->World->Prop) (v:World) (γ:Gh) (g:Goroutine):Prop:=@Gs P (nSys P K i) Stop g (saying v (gout γ))
def ΦZ (P:Program) (K:Pro) (Stop:Goroutine->World->Prop) (v:World) (γ:Gh) (g:Goroutine):Prop:=@Gs P (zSys P K) Stop g (saying v (gout γ))
def ΦX (P:Program) (d:Nat) (g:Goroutine):Prop:=∃n,QuitsD P n d g
section
variable {P:Program} {K:Pro} {i d:Nat} {Stop:Goroutine->World->Prop} {v:World} {γ:Gh}
instance :Stl P (ΦN P K i Stop v γ):=⟨fun _ _ hr h k=>@Gs.one P (nSys P K i) _ _ _ _ hr (h false) k⟩
instance :Stl P (ΦZ P K Stop v γ):=⟨fun _ _ hr h k=>@Gs.one P (zSys P K) _ _ _ _ hr (h true) k⟩
instance :Stl P (ΦX P d):=⟨fun _ _ hr h ⟨n,k⟩=>⟨n+1,.ctl hr (h false) k⟩⟩
end
abbrev stt (c w:Nat):Int:=((c*4294967296+w:Nat):Int)
section
variable {low:Nat} {tW:TypeId} {msg:Nat->Value}
variable {P:Program} {Stop:Goroutine->World->Prop} {v:World} {i:Nat} {b:Frame} {N:Nat} {ds:List Deferred} {fr:LV} {k:List Item} {cs:List Frame} {ops:Array Oper} {j:Nat} {rest:List Nat} {d:Nat} {o:Oper} {f:FuncId} {ats:Array TypeId} {aS:Array Operand} {e:Array Value->Sem Value} {γ:Gh} {W0 f0 d0:Nat}
theorem zE1 (hi:i≠0) (hmw:∀a,mayWake P (G (b.at a (.inRegion ops (j::rest)::k)) cs)=true) (R:Gh->Value->Prop)
  (h:∀a,Sl N ds fr a->∀σ:Cst,Cok low σ->σ.gh i=some γ->∃(acts:List MemAct) (cl:Option Nat) (σ':Cst) (x:Value),(Cp low tW msg).Moves i σ acts cl σ'∧Does (Cp low tW msg) P false (G (b.at a (.inRegion ops (j::rest)::k)) cs) (G (b.at (a.put (some d) x) (.inRegion ops rest::k)) cs) σ acts σ' ∧
   ∃γ',(Cp low tW msg).gh σ' i=some γ'∧¬((Cp low tW msg).ts σ').Dn i∧R γ' x) (hd:Nat.blt d N=true)
  (k':∀γ' x,R γ' x->W P (ΦN P (Cp low tW msg) i Stop v γ') b N ds ((d,x)::fr) (.inRegion ops rest::k) cs):W P (ΦN P (Cp low tW msg) i Stop v γ) b N ds fr (.inRegion ops (j::rest)::k) cs:=by
 intro a ha
 refine zN9 (K:=Cp low tW msg) (γ:=γ) hi J J (hmw a) (fun γ' g'=>∃x,R γ' x∧g'=G (b.at (a.put (some d) x) (.inRegion ops rest::k)) cs) (fun σ ok hg=>?_) ?_
 ·obtain⟨acts,cl,σ',x,h1,h2,γ',h3,h4,h5⟩:=h a ha σ ok hg;exact⟨acts,cl,σ',_,h1,h2,.inl ⟨γ',h3,h4,x,h5,rfl⟩⟩
 ·rintro γ' g' ⟨x,h1,rfl⟩;exact k' γ' x h1 _ (ha.put hd x)
theorem zO3 (hmw:∀a,mayWake P (G (b.at a (.inRegion ops (j::rest)::k)) cs)=true) (R:Gh->Value->Prop)
  (h:∀a,Sl N ds fr a->∀σ:Cst,Cok low σ->σ.gh 0=some γ->∃(acts:List MemAct) (cl:Option Nat) (σ':Cst) (x:Value),(Cp low tW msg).Moves 0 σ acts cl σ'∧Does (Cp low tW msg) P true (G (b.at a (.inRegion ops (j::rest)::k)) cs) (G (b.at (a.put (some d) x) (.inRegion ops rest::k)) cs) σ acts σ' ∧
   ∃γ',(Cp low tW msg).gh σ' 0=some γ'∧R γ' x) (hd:Nat.blt d N=true)
  (k':∀γ' x,R γ' x->W P (ΦZ P (Cp low tW msg) Stop v γ') b N ds ((d,x)::fr) (.inRegion ops rest::k) cs):W P (ΦZ P (Cp low tW msg) Stop v γ) b N ds fr (.inRegion ops (j::rest)::k) cs:=by
 intro a ha
 refine zVn (K:=Cp low tW msg) (γ:=γ) J J (hmw a) (fun γ' g'=>∃x,R γ' x∧g'=G (b.at (a.put (some d) x) (.inRegion ops rest::k)) cs) (fun σ ok hg=>?_) ?_
 ·obtain⟨acts,cl,σ',x,h1,h2,γ',h3,h5⟩:=h a ha σ ok hg;exact⟨acts,cl,σ',_,h1,h2,γ',h3,(jBj.zero σ' h1.ok).2,x,h5,rfl⟩
 ·rintro γ' g' ⟨x,h1,rfl⟩;exact k' γ' x h1 _ (ha.put hd x)
section waiter
theorem zWm (mk:Mark) (hm:∀g,mk≠.extern g) (hmv:∀σ:Cst,Cok low σ->σ.oth i=some (.wt q)->∃car,(Cp low tW msg).Moves i σ [.mark mk] none (σ.turn i (some (.wt q')) σ.cnt σ.wtr σ.sem car)) (hi:i≠0) (ho:ops[j]?=some o) (hg:Wants ops fr o true) (hk:b.kind≠.early) (hop:o.op=.call {callee:=.value (.func f),args:=aS,argTypes:=ats}) (hdst:o.dst=some d) (hd:Nat.blt d N=true)
  (he:Ent P f (fun _=>do mark mk;pure Extern.Race.none_)) (k':W P (ΦN P (Cp low tW msg) i Stop v (q'.enc W0 d0)) b N ds ((d,.tuple #[])::fr) (.inRegion ops rest::k) cs):W P (ΦN P (Cp low tW msg) i Stop v (q.enc W0 d0)) b N ds fr (.inRegion ops (j::rest)::k) cs:=by
 refine zE1 (R:=fun γ' x=>γ'=q'.enc W0 d0∧x=.tuple #[]) hi (fun a=>xE ho hop he) (fun a ha σ ok hgh=>?_) hd (by rintro γ' x ⟨rfl,rfl⟩;exact k');obtain⟨hi0,h1,rfl,rfl⟩:=zDd ok.zero hgh J;obtain⟨car,hmv⟩:=hmv σ ok h1;exact⟨_,_,_,_,hmv,by rw[<-hdst];exact zDg mk hm ho (hg.eq ha.slots) hk hop he zAi vZ,_,yP hi0,zDa,rfl,rfl⟩
theorem zJn (mk:Addr->Mark) (hm:∀ad g,mk ad≠.extern g) (off:Nat) (hmv:∀σ:Cst,Cok low σ->σ.oth i=some (.wt q)->∃car,(Cp low tW msg).Moves i σ [.mark (mk ⟨σ.W,off,none⟩)] none (σ.turn i (some (.wt q')) σ.cnt σ.wtr σ.sem car)) (hi:i≠0) (ho:ops[j]?=some o) (hg:Wants ops fr o true) (hk:b.kind≠.early) (hop:o.op=.call {callee:=.value (.func f),args:=aS,argTypes:=ats}) (hdst:o.dst=some d) (hd:Nat.blt d N=true)
  (hx:aS.toList.map (ev fr)=[some (.pointer (some ⟨W0,off,none⟩))]) (he:Ent P f (Extern.Race.marked mk)) (k':W P (ΦN P (Cp low tW msg) i Stop v (q'.enc W0 d0)) b N ds ((d,.tuple #[])::fr) (.inRegion ops rest::k) cs):W P (ΦN P (Cp low tW msg) i Stop v (q.enc W0 d0)) b N ds fr (.inRegion ops (j::rest)::k) cs:=by
 refine zE1 (R:=fun γ' x=>γ'=q'.enc W0 d0∧x=.tuple #[]) hi (fun a=>xE ho hop he) (fun a ha σ ok hgh=>?_) hd (by rintro γ' x ⟨rfl,rfl⟩;exact k');obtain⟨hi0,h1,rfl,rfl⟩:=zDd ok.zero hgh J;obtain⟨car,hmv⟩:=hmv σ ok h1;have hx':=zEv ha.slots (vs:=[.pointer (some ⟨σ.W,off,none⟩)]) hx;exact⟨_,_,_,_,hmv,by rw[<-hdst];exact zEn mk hm (by rw[hx'];rfl) ho (hg.eq ha.slots) hk hop he zAi vZ,_,yP hi0,zDa,rfl,rfl⟩
theorem zCz {σ:Cst} (h:Cok low σ) {q:Wt} (hi:σ.oth i=some (.wt q)):σ.mn.hasW=true:=(zA5 h hi).2.1
theorem jF2 (hi:i≠0) (ho:ops[j]?=some o) (hg:Wants ops fr o true) (hk:b.kind≠.early) (hop:o.op=.call {callee:=.value (.func f),args:=aS,argTypes:=ats}) (hdst:o.dst=some d) (hd:Nat.blt d N=true)
  (he:Ent P f (fun _=>do mark .disable;pure Extern.Race.none_)) (k':∀n,W P (ΦN P (Cp low tW msg) i Stop v (Wt.enc W0 d0 (.load n))) b N ds ((d,.tuple #[])::fr) (.inRegion ops rest::k) cs):W P (ΦN P (Cp low tW msg) i Stop v (Wt.enc W0 d0 .new)) b N ds fr (.inRegion ops (j::rest)::k) cs:=by
 refine zE1 (R:=fun γ' x=>∃n,γ'=Wt.enc W0 d0 (.load n)∧x=.tuple #[]) hi (fun a=>xE ho hop he) (fun a ha σ ok hgh=>?_) hd (by rintro γ' x ⟨n,rfl,rfl⟩;exact k' n);obtain⟨hi0,h1,rfl,rfl⟩:=zDd (q:=.new) ok.zero hgh J;exact⟨_,_,_,_,jCa ok h1,by rw[<-hdst];exact zDg .disable (by simp) ho (hg.eq ha.slots) hk hop he zAi vZ,_,yP hi0,zDa,_,rfl,rfl⟩
theorem jEc (hi:i≠0) (ho:ops[j]?=some o) (hg:Wants ops fr o true) (hk:b.kind≠.early) (hop:o.op=.call {callee:=.value (.func f),args:=#[x],argTypes:=ats}) (hdst:o.dst=some d) (hd:Nat.blt d N=true)
  (hx:ev fr x=some (pt W0)) (he:Ent P f (Extern.Atomic.loadT (.int .u64))) (k0:W P (ΦN P (Cp low tW msg) i Stop v (Wt.enc W0 d0 .on)) b N ds ((d,.int .u64 (stt 0 0))::fr) (.inRegion ops rest::k) cs)
  (k1:∀c,0<c->c<1000000->c<=n->W P (ΦN P (Cp low tW msg) i Stop v (Wt.enc W0 d0 (.cas c))) b N ds ((d,.int .u64 (stt c 0))::fr) (.inRegion ops rest::k) cs):W P (ΦN P (Cp low tW msg) i Stop v (Wt.enc W0 d0 (.load n))) b N ds fr (.inRegion ops (j::rest)::k) cs:=by
 refine zE1 (R:=fun γ' x=>(γ'=Wt.enc W0 d0 .on∧x=.int .u64 (stt 0 0))∨∃c,0<c∧c<1000000∧c<=n∧γ'=Wt.enc W0 d0 (.cas c)∧x=.int .u64 (stt c 0)) hi (fun a=>xE ho hop he) (fun a ha σ ok hgh=>?_) hd ?_
 ·obtain⟨hi0,h1,rfl,rfl⟩:=zDd (q:=.load n) ok.zero hgh J;obtain⟨_,_,_,ha1⟩:=vO ok h1;have hW:=zCz ok h1;have hs:(σ.state:Int)=stt σ.cnt 0:=by simp[Cst.state,ha1.1.1,stt]
  by_cases hc:σ.cnt=0
  ·rw[hc] at hs;refine⟨_,_,_,_,zXl ok h1 hc,?_,_,yP hi0,zDa,.inl ⟨rfl,rfl⟩⟩;rw[<-hdst,<-hs];exact zD4 hW (qO ha.slots hx) ho (hg.eq ha.slots) hk hop he zAi vZ
  ·refine⟨_,_,_,_,zYx ok h1 (by omega),?_,_,yP hi0,zDa,.inr ⟨σ.cnt,by omega,ok.small,ha1.2,rfl,rfl⟩⟩;rw[<-hdst,<-hs];exact zD4 hW (qO ha.slots hx) ho (hg.eq ha.slots) hk hop he zAi vZ
 ·rintro γ' x (⟨rfl,rfl⟩|⟨c,h1,h2,h3,rfl,rfl⟩)
  ·exact k0
  ·exact k1 c h1 h2 h3
theorem jFk {y z:Operand} (hi:i≠0) (ho:ops[j]?=some o) (hg:Wants ops fr o true) (hk:b.kind≠.early) (hop:o.op=.call {callee:=.value (.func f),args:=#[x,y,z],argTypes:=ats}) (hdst:o.dst=some d) (hd:Nat.blt d N=true)
  (hx:ev fr x=some (pt W0)) (hy:ev fr y=some (.int .u64 (stt n 0))) (hz:ev fr z=some (.int .u64 (stt n 1))) (he:Ent P f (Extern.Atomic.casT (.int .u64))) (k0:W P (ΦN P (Cp low tW msg) i Stop v (Wt.enc W0 d0 .writ)) b N ds ((d,.bool true)::fr) (.inRegion ops rest::k) cs)
  (k1:W P (ΦN P (Cp low tW msg) i Stop v (Wt.enc W0 d0 (.load (n-1)))) b N ds ((d,.bool false)::fr) (.inRegion ops rest::k) cs):W P (ΦN P (Cp low tW msg) i Stop v (Wt.enc W0 d0 (.cas n))) b N ds fr (.inRegion ops (j::rest)::k) cs:=by
 refine zE1 (R:=fun γ' x=>(γ'=Wt.enc W0 d0 .writ∧x=.bool true)∨(γ'=Wt.enc W0 d0 (.load (n-1))∧x=.bool false)) hi (fun a=>xE ho hop he) (fun a ha σ ok hgh=>?_) hd ?_
 ·obtain⟨hi0,h1,rfl,rfl⟩:=zDd (q:=.cas n) ok.zero hgh J;obtain⟨_,_,_,ha1⟩:=vO ok h1;have hW:=zCz ok h1;have hs:(σ.state:Int)=stt σ.cnt 0:=by simp[Cst.state,ha1.1.1,stt]
  by_cases hc:σ.cnt=n
  ·rw[hc] at hs;refine⟨_,_,_,_,jCk ok h1 hc,?_,_,yP hi0,zDa,.inl ⟨rfl,rfl⟩⟩;rw[<-hdst];exact zYd ok hW (qO ha.slots hx) (by rw[hs];exact qO ha.slots hy) (qO ha.slots hz) ho (hg.eq ha.slots) hk hop he (fun b=>by rw[zDo hW,hc];rfl) vZ
  ·refine⟨_,_,_,_,zXw ok h1 hc,?_,_,yP hi0,zDa,.inr ⟨rfl,rfl⟩⟩;rw[<-hdst];refine zVg (s':=n*4294967296+0) ok hW (qO ha.slots hx) (qO ha.slots hy) (qO ha.slots hz) ?_ ho (hg.eq ha.slots) hk hop he zAi vZ;simp only[Cst.state,ha1.1.1,Bool.toNat_false];omega
 ·rintro γ' x (⟨rfl,rfl⟩|⟨rfl,rfl⟩)
  ·exact k0
  ·exact k1
theorem jCs (hi:i≠0) (ho:ops[j]?=some o) (hg:Wants ops fr o true) (hk:b.kind≠.early) (hop:o.op=.call {callee:=.value (.func f),args:=#[x],argTypes:=ats}) (hdst:o.dst=some d) (hd:Nat.blt d N=true)
  (hx:ev fr x=some (pt W0)) (he:Ent P f (Extern.Atomic.loadT (.int .u64))) (k0:W P (ΦN P (Cp low tW msg) i Stop v (Wt.enc W0 d0 .on)) b N ds ((d,.int .u64 (stt 0 0))::fr) (.inRegion ops rest::k) cs):W P (ΦN P (Cp low tW msg) i Stop v (Wt.enc W0 d0 .again)) b N ds fr (.inRegion ops (j::rest)::k) cs:=by
 refine zE1 (R:=fun γ' x=>γ'=Wt.enc W0 d0 .on∧x=.int .u64 (stt 0 0)) hi (fun a=>xE ho hop he) (fun a ha σ ok hgh=>?_) hd ?_
 ·obtain⟨hi0,h1,rfl,rfl⟩:=zDd (q:=.again) ok.zero hgh J;obtain⟨_,hm,_,ha1⟩:=vO ok h1;have hW:=zCz ok h1;have hs:(σ.state:Int)=stt 0 0:=by simp[Cst.state,ha1.1.1,stt,zPj ok hm ha1.1.2.2]
  refine⟨_,_,_,_,zVw ok h1,?_,_,yP hi0,zDa,rfl,rfl⟩;rw[<-hdst,<-hs];exact zD4 hW (qO ha.slots hx) ho (hg.eq ha.slots) hk hop he zAi vZ
 ·rintro γ' x ⟨rfl,rfl⟩;exact k0
theorem jFw {xs:List Value} (hi:i≠0) (ho:ops[j]?=some o) (hg:Wants ops fr o true) (hk:b.kind≠.early) (hop:o.op=.call {callee:=.value (.func f),args:=aS,argTypes:=ats}) (hdst:o.dst=some d) (hd:Nat.blt d N=true)
  (hx:aS.toList.map (ev fr)=(Value.pointer (some ⟨W0,1,none⟩)::xs).map some) (he:Ent P f Extern.Sync.semacquire) (k0:W P (ΦN P (Cp low tW msg) i Stop v (Wt.enc W0 d0 .again)) b N ds ((d,.tuple #[])::fr) (.inRegion ops rest::k) cs):W P (ΦN P (Cp low tW msg) i Stop v (Wt.enc W0 d0 .sleep)) b N ds fr (.inRegion ops (j::rest)::k) cs:=by
 intro a ha
 refine zVt (K:=Cp low tW msg) (γ:=Wt.enc W0 d0 .sleep) hi J J J (xE ho hop he) (fun γ' g'=>γ'=Wt.enc W0 d0 .again∧g'=G (b.at (a.put (some d) (.tuple #[])) (.inRegion ops rest::k)) cs) (fun σ ok hgh=>?_) ?_
 ·obtain⟨hi0,h1,rfl,rfl⟩:=zDd (q:=.sleep) ok.zero hgh J;have hW:=zCz ok h1;have hx':(aS.map a.eval)[0]?=some (.pointer (some ⟨σ.W,1,none⟩)):=by rw[zEv ha.slots hx];rfl
  cases hs:σ.sem with
  | false =>
   refine .inl ⟨⟨σ.W,σ.d,.int .u64 (σ.state:Int),tW,rfl,?_⟩,fun w hw=>stands hW hs hx' ho (hg.eq ha.slots) hop he hw⟩
   simp[Cp,hW,Cst.cells,hs]
  | true =>
   refine .inr ⟨_,_,_,_,jAh ok h1 hs,?_,_,yP hi0,zDa,rfl,rfl⟩;rw[<-hdst];exact zQ4 ok hW hs hx' ho (hg.eq ha.slots) hk hop he (fun b=>by rw[zDo hW];rfl) vZ
 ·rintro γ' g' ⟨rfl,rfl⟩;exact k0 _ (ha.put hd _)
theorem zP5 {s t:TypeId} {e':TypeId} {ty:TypeId} {pos:String} {after:Array Edge} {gd:Option (Nat×Bool)} {off:Nat} (ho:ops[j]?=some ⟨some d,.convert s t x,ty,pos,after,gd⟩) (hg:Wants ops fr ⟨some d,.convert s t x,ty,pos,after,gd⟩ true) (hk:b.kind≠.early) (hd:Nat.blt d N=true)
  (hx:ev fr x=some (.pointer (some ⟨W0,off,none⟩))) (hs:P.underlying s=some (.pointer e')) (ht:P.underlying t=some .unsafePointer) (hsz:(P.info? e').map (fun i=>decide (i.size=0))=some false) (hoff:off=0∨off=1)
  (k0:W P (ΦN P (Cp low tW msg) i Stop v (q.enc W0 d0)) b N ds ((d,.pointer (some ⟨W0,off,none⟩))::fr) (.inRegion ops rest::k) cs):W P (ΦN P (Cp low tW msg) i Stop v (q.enc W0 d0)) b N ds fr (.inRegion ops (j::rest)::k) cs:=by
 intro a ha;refine zSw (K:=Cp low tW msg) (γ:=q.enc W0 d0) J J (fun σ ok hgh w hw=>?_) (k0 _ (ha.put hd _));obtain⟨hi0,h1,rfl,rfl⟩:=zDd ok.zero hgh J;exact zFx (zCz ok h1) (qO ha.slots hx) ho (hg.eq ha.slots) hk hs ht hsz hoff hw
end waiter
end
end
section
open Go.Conc
set_option linter.unusedVariables false
set_option linter.unusedSimpArgs false
variable {after:Array Edge} {c cnt k' off w:Nat} {e' s t ty:TypeId} {gd:Option (Nat×Bool)} {pos:String} {x y:Operand} {σ:Cst}
section
variable {low:Nat} {tW:TypeId} {msg:Nat->Value}
variable {P:Program} {Stop:Goroutine->World->Prop} {v:World} {i:Nat} {b:Frame} {N:Nat} {ds:List Deferred} {fr:LV} {k:List Item} {cs:List Frame} {ops:Array Oper} {j:Nat} {rest:List Nat} {d:Nat} {o:Oper} {f:FuncId} {ats:Array TypeId} {aS:Array Operand} {e:Array Value->Sem Value} {γ:Gh} {W0 f0 d0 e0:Nat}
theorem zO1 {W f:Nat} (h0:σ.oth 0=none) (hg:σ.gh i=some (Wkr.enc W f (.send []))):i≠0∧σ.oth i=some (.wk (.send []))∧W=σ.W∧f=σ.f:=zLr h0 hg
theorem jFs (hi:i≠0) (ho:ops[j]?=some o) (hg:Wants ops fr o true) (hk:b.kind≠.early) (hop:o.op=.call {callee:=.value (.func f),args:=aS,argTypes:=ats}) (hdst:o.dst=some d) (hd:Nat.blt d N=true)
  (hx:aS.toList.map (ev fr)=[some (pt W0)]) (he:Ent P f (Extern.Race.marked .releaseMerge)) (k':W P (Quiet P (Cp low tW msg) i (Wkr.enc W0 f0 .rel)) b N ds ((d,.tuple #[])::fr) (.inRegion ops rest::k) cs):W P (ΦN P (Cp low tW msg) i Stop v (Wkr.enc W0 f0 (.send []))) b N ds fr (.inRegion ops (j::rest)::k) cs:=by
 intro a ha;refine zN9 (K:=Cp low tW msg) (γ:=Wkr.enc W0 f0 (.send [])) hi J J (xE ho hop he) (fun _ _=>False) (fun σ ok hgh=>?_) (fun _ _ x=>x.elim);obtain⟨hi0,h1,rfl,rfl⟩:=zO1 ok.zero hgh;have hx':=zEv ha.slots (vs:=[.pointer (some ⟨σ.W,0,none⟩)]) hx;refine⟨_,_,_,G (b.at (a.put (some d) (.tuple #[])) (.inRegion ops rest::k)) cs,jDc ok h1,?_,.inr (.inl ⟨_,yP hi0,zJw J,k' _ (ha.put hd _)⟩)⟩;rw[<-hdst];exact zEn .releaseMerge (by simp) (by rw[hx'];rfl) ho (hg.eq ha.slots) hk hop he zAi vZ
theorem jD8 (ho:ops[j]?=some ⟨some d,.convert s t x,ty,pos,after,gd⟩) (hg:Wants ops fr ⟨some d,.convert s t x,ty,pos,after,gd⟩ true) (hk:b.kind≠.early) (hd:Nat.blt d N=true)
  (hx:ev fr x=some (.pointer (some ⟨W0,off,none⟩))) (hs:P.underlying s=some (.pointer e')) (ht:P.underlying t=some .unsafePointer) (hsz:(P.info? e').map (fun i=>decide (i.size=0))=some false) (hoff:off=0∨off=1)
  (k0:W P (ΦN P (Cp low tW msg) i Stop v (Wkr.enc W0 f0 (.send []))) b N ds ((d,.pointer (some ⟨W0,off,none⟩))::fr) (.inRegion ops rest::k) cs):W P (ΦN P (Cp low tW msg) i Stop v (Wkr.enc W0 f0 (.send []))) b N ds fr (.inRegion ops (j::rest)::k) cs:=by
 intro a ha;refine zSw (K:=Cp low tW msg) (γ:=Wkr.enc W0 f0 (.send [])) J J (fun σ ok hgh w hw=>?_) (k0 _ (ha.put hd _));obtain⟨hi0,h1,rfl,rfl⟩:=zO1 ok.zero hgh;exact zFx (wY ok h1).2 (qO ha.slots hx) ho (hg.eq ha.slots) hk hs ht hsz hoff hw
theorem jF4 (ho:ops[j]?=some o) (hg:Wants ops fr o true) (hk:b.kind≠.early) (hop:o.op=.call {callee:=.value (.func f),args:=aS,argTypes:=ats}) (hdst:o.dst=some d) (hd:Nat.blt d N=true)
  (he:Ent P f (fun _=>do mark .disable;pure Extern.Race.none_)) (k':W P (Quiet P (Cp low tW msg) i (Wkr.enc W0 f0 .off)) b N ds ((d,.tuple #[])::fr) (.inRegion ops rest::k) cs):W P (Quiet P (Cp low tW msg) i (Wkr.enc W0 f0 .rel)) b N ds fr (.inRegion ops (j::rest)::k) cs:=by
 intro a ha
 refine .act (fun _ γ' g'=>γ'=Wkr.enc W0 f0 .off∧g'=G (b.at (a.put (some d) (.tuple #[])) (.inRegion ops rest::k)) cs) J (xE ho hop he) (fun σ ok hgh=>?_) ?_
 ·obtain⟨hi0,h1,rfl⟩:=zJ1 (q:=.rel) (f:=f0) (Cok.zero ok) hgh J J;refine⟨_,_,_,jDb ok h1,?_,.inl ⟨_,yP hi0,zJw J,rfl,rfl⟩⟩;rw[<-hdst];exact zDg .disable (by simp) ho (hg.eq ha.slots) hk hop he zAi vZ
 ·rintro σ γ' g' ⟨rfl,rfl⟩;exact k' _ (ha.put hd _)
theorem zZz (hc:0<c) (h1:c<1000000) (hw:w<=1):IntKind.u64.wrap (stt c w+18446744069414584320)=stt (c-1) w:=by
 rw[IntKind.wrap_u64];simp only[stt];omega
theorem zYh (h1:c<1000000) (hw:w<=1):IntKind.u64.wrap (stt c w+4294967296)=stt (c+1) w:=by
 rw[IntKind.wrap_u64];simp only[stt];omega
theorem jAt (h:Cok low σ) {q:Wkr} (hi:σ.oth i=some (.wk q)) (hq:counts (some (.wk q))=true):0<σ.cnt:=by
 have h1:=zA8 (o:=σ.oth) ((h.jin i).2 ⟨_,hi⟩);rw[hi,hq] at h1;have h2:=h.cnt;have h3:Bool.toNat true=1:=rfl;omega
theorem jFj (ho:ops[j]?=some o) (hg:Wants ops fr o true) (hk:b.kind≠.early) (hop:o.op=.call {callee:=.value (.func f),args:=#[x,y],argTypes:=ats}) (hdst:o.dst=some d) (hd:Nat.blt d N=true)
  (hx:ev fr x=some (pt W0)) (hy:ev fr y=some (.int .u64 18446744069414584320)) (he:Ent P f (Extern.Atomic.update (Op.intArith .add) .u64 true))
  (k1:∀c w,c<1000000->w<=1->(0<c∨w=0)->W P (ΦX P 1) b N ds ((d,.int .u64 (stt c w))::fr) (.inRegion ops rest::k) cs)
  (k2:W P (Quiet P (Cp low tW msg) i (Wkr.enc W0 f0 .l1)) b N ds ((d,.int .u64 (stt 0 1))::fr) (.inRegion ops rest::k) cs):W P (Quiet P (Cp low tW msg) i (Wkr.enc W0 f0 .off)) b N ds fr (.inRegion ops (j::rest)::k) cs:=by
 intro a ha
 refine .act (fun _ γ' g'=>γ'=Wkr.enc W0 f0 .l1∧g'=G (b.at (a.put (some d) (.int .u64 (stt 0 1))) (.inRegion ops rest::k)) cs) J (xE ho hop he) (fun σ ok hgh=>?_) ?_
 ·obtain⟨hi0,h1,rfl⟩:=zJ1 (q:=.off) (f:=f0) (Cok.zero ok) hgh J J;have hW:=(wY ok h1).2;have hpos:=jAt ok h1 J;have hsm:=ok.small;have hwt:σ.wtr.toNat<=1:=Bool.toNat_le _;have hwr:IntKind.u64.wrap ((σ.state:Int)+18446744069414584320)=(((σ.cnt-1)*4294967296+σ.wtr.toNat:Nat):Int):=zZz hpos hsm hwt;have hD:σ.ts.D i=1:=by rw[yH hi0 h1];rfl
  by_cases hl:σ.wtr=false∨2<=σ.cnt
  ·obtain⟨n,hq⟩:=k1 (σ.cnt-1) σ.wtr.toNat (by omega) hwt (hl.elim (fun x=>.inr (by rw[x];rfl)) fun x=>.inl (by omega)) _ (ha.put hd _)
   refine⟨_,_,G (b.at (a.put (some d) (.int .u64 (stt (σ.cnt-1) σ.wtr.toNat))) (.inRegion ops rest::k)) cs,zYz ok h1 hl,?_,.inr ⟨n,zSv hi0,?_⟩⟩
   ·rw[<-hdst];exact zFy ok hW (qO ha.slots hx) (qO ha.slots hy) hwr ho (hg.eq ha.slots) hk hop he (zDo hW) vZ
   ·have e1:dacts (((Cp low tW msg).ts σ).D i) [.access ⟨.cell ⟨σ.W,0,none⟩,false,true⟩,.access ⟨.cell ⟨σ.W,0,none⟩,true,true⟩]=1:=hD;rw[e1];exact hq
  ·have hw:σ.wtr=true:=by
    cases h:σ.wtr with
    | true=>rfl
    | false=>exact absurd (.inl h) hl
   have hc:σ.cnt=1:=by omega
   refine⟨_,_,_,jAn ok h1 hw hc,?_,.inl ⟨_,yP hi0,zJw J,rfl,rfl⟩⟩;rw[<-hdst];rw[hc,hw] at hwr;exact zFy (s:=0*4294967296+1) ok hW (qO ha.slots hx) (qO ha.slots hy) hwr ho (hg.eq ha.slots) hk hop he (zDo hW) vZ
 ·rintro σ γ' g' ⟨rfl,rfl⟩;exact k2 _ (ha.put hd _)
theorem jDa (ho:ops[j]?=some o) (hg:Wants ops fr o true) (hk:b.kind≠.early) (hop:o.op=.call {callee:=.value (.func f),args:=#[x],argTypes:=ats}) (hdst:o.dst=some d) (hd:Nat.blt d N=true)
  (hx:ev fr x=some (pt W0)) (he:Ent P f (Extern.Atomic.loadT (.int .u64)))
  (k2:W P (Quiet P (Cp low tW msg) i (Wkr.enc W0 f0 .l2)) b N ds ((d,.int .u64 (stt 0 1))::fr) (.inRegion ops rest::k) cs):W P (Quiet P (Cp low tW msg) i (Wkr.enc W0 f0 .l1)) b N ds fr (.inRegion ops (j::rest)::k) cs:=by
 intro a ha
 refine .act (fun _ γ' g'=>γ'=Wkr.enc W0 f0 .l2∧g'=G (b.at (a.put (some d) (.int .u64 (stt 0 1))) (.inRegion ops rest::k)) cs) J (xE ho hop he) (fun σ ok hgh=>?_) ?_
 ·obtain⟨hi0,h1,rfl⟩:=zJ1 (q:=.l1) (f:=f0) (Cok.zero ok) hgh J J;obtain⟨_,_,_,h4,h5,_⟩:=zDm ok h1 J;have hs:(σ.state:Int)=stt 0 1:=by simp[Cst.state,h4,h5,stt]
  refine⟨_,_,_,jGb ok h1,?_,.inl ⟨_,yP hi0,zJw J,rfl,rfl⟩⟩;rw[<-hdst,<-hs];exact zD4 (wY ok h1).2 (qO ha.slots hx) ho (hg.eq ha.slots) hk hop he zAi vZ
 ·rintro σ γ' g' ⟨rfl,rfl⟩;exact k2 _ (ha.put hd _)
theorem jBa (ho:ops[j]?=some o) (hg:Wants ops fr o true) (hk:b.kind≠.early) (hop:o.op=.call {callee:=.value (.func f),args:=#[x,y],argTypes:=ats}) (hdst:o.dst=some d) (hd:Nat.blt d N=true)
  (hx:ev fr x=some (pt W0)) (hy:ev fr y=some (.int .u64 0)) (he:Ent P f Extern.Atomic.storeT)
  (k2:W P (Quiet P (Cp low tW msg) i (Wkr.enc W0 f0 .l3)) b N ds ((d,.tuple #[])::fr) (.inRegion ops rest::k) cs):W P (Quiet P (Cp low tW msg) i (Wkr.enc W0 f0 .l2)) b N ds fr (.inRegion ops (j::rest)::k) cs:=by
 intro a ha
 refine .act (fun _ γ' g'=>γ'=Wkr.enc W0 f0 .l3∧g'=G (b.at (a.put (some d) (.tuple #[])) (.inRegion ops rest::k)) cs) J (xE ho hop he) (fun σ ok hgh=>?_) ?_
 ·obtain⟨hi0,h1,rfl⟩:=zJ1 (q:=.l2) (f:=f0) (Cok.zero ok) hgh J J;obtain⟨_,_,_,h4,h5,_⟩:=zDm ok h1 J;have hW:=(wY ok h1).2;refine⟨_,_,_,jFy ok h1,?_,.inl ⟨_,yP hi0,zJw J,rfl,rfl⟩⟩;rw[<-hdst];exact zTj (s:=0) ok hW (qO ha.slots hx) (qO ha.slots hy) ho (hg.eq ha.slots) hk hop he (fun b=>by rw[zDo hW,h4];rfl) vZ
 ·rintro σ γ' g' ⟨rfl,rfl⟩;exact k2 _ (ha.put hd _)
theorem jFq {xs:List Value} (ho:ops[j]?=some o) (hg:Wants ops fr o true) (hk:b.kind≠.early) (hop:o.op=.call {callee:=.value (.func f),args:=aS,argTypes:=ats}) (hdst:o.dst=some d) (hd:Nat.blt d N=true)
  (hx:aS.toList.map (ev fr)=(Value.pointer (some ⟨W0,1,none⟩)::xs).map some) (he:Ent P f Extern.Sync.semrelease)
  (k2:W P (ΦX P 1) b N ds ((d,.tuple #[])::fr) (.inRegion ops rest::k) cs):W P (Quiet P (Cp low tW msg) i (Wkr.enc W0 f0 .l3)) b N ds fr (.inRegion ops (j::rest)::k) cs:=by
 intro a ha;refine .act (fun _ γ' g'=>False) J (xE ho hop he) (fun σ ok hgh=>?_) (fun _ _ _ x=>x.elim);obtain⟨hi0,h1,rfl⟩:=zJ1 (q:=.l3) (f:=f0) (Cok.zero ok) hgh J J;obtain⟨_,_,h3,h4,_,h5⟩:=zDm ok h1 J;have hW:=(wY ok h1).2;have hx':(aS.map a.eval)[0]?=some (.pointer (some ⟨σ.W,1,none⟩)):=by rw[zEv ha.slots hx];rfl
 have hD:σ.ts.D i=1:=by rw[yH hi0 h1];rfl
 obtain⟨n,hq⟩:=k2 _ (ha.put hd _)
 refine⟨_,_,G (b.at (a.put (some d) (.tuple #[])) (.inRegion ops rest::k)) cs,jFz ok h1,?_,.inr ⟨n,zSv hi0,?_⟩⟩
 ·rw[<-hdst];exact zQ2 ok hW h3 hx' ho (hg.eq ha.slots) hk hop he (fun b=>by rw[zDo hW];rfl) vZ
 ·have e1:dacts (((Cp low tW msg).ts σ).D i) (semActs σ.W)=1:=by
   show dacts (σ.ts.D i) _=1;rw[hD]
   rfl
  rw[e1];exact hq
theorem zN0 {fn:Func} (he:Ent P f (fun _=>do mark .enable;pure Extern.Race.none_)) (h:Wr P (ΦX P 0) b N ds fr cs):Wr P (ΦX P 1) b N (dcall f #[]::ds) fr cs:=by
 intro a todo ha;obtain⟨fn,h1,h2,h3,h4,h5⟩:=he;obtain⟨n,hq⟩:=h ⟨a.tmps,ds⟩ todo ⟨ha.size,rfl,ha.slots⟩;exact⟨n+1,QuitsD.unwind_mark .enable J (by simp) ha.defs h1 h2 h3 h4 h5 hq⟩
theorem zFm {W f d e k m:Nat} {ow:List Nat} (h:σ.gh 0=some (Mn.enc W f d e ow (.hire k m))):σ.mn=.hire k m∧W=σ.W∧f=σ.f∧d=σ.d∧ow=σ.owed∧e=cde σ.lent:=zH4 h
theorem zRz {k m:Nat} (hm:σ.mn=.hire k m) (b:Nat):(Cp low tW msg).sh (σ.step k' m cnt) b=if b=σ.W then some (.cells #[.int .u64 ((cnt*4294967296+σ.wtr.toNat:Nat):Int),.int .u32 (σ.sem.toNat:Int)] tW (0,0)) else none:=by
 show (if _ then _ else _:Option Obj)=_
 by_cases e:b=σ.W
 ·rw[if_pos ⟨rfl,e⟩,if_pos e]
  rfl
 ·rw[if_neg (fun x=>e x.2),if_neg e]
theorem zDu {k m:Nat} (hm:σ.mn=.hire k m):(Cp low tW msg).sh (σ.step k' m σ.cnt)=(Cp low tW msg).sh σ:=by
 funext b
 simp[Cp,hm,Cst.step,Mn.hasW,Cst.cells,Cst.state]
theorem zE2 {k m:Nat} (hm:σ.mn=.hire k m):(Cp low tW msg).ch (σ.step k' m cnt)=(Cp low tW msg).ch σ:=by
 funext b
 simp[Cp,hm,Cst.step,Mn.hasF,Mn.hasD]
theorem zE6 {k m:Nat}:(Cp low tW msg).gh (σ.step k m cnt) 0=some (Mn.enc σ.W σ.f σ.d (cde σ.lent) σ.owed (.hire k m)):=rfl
variable {ow:List Nat} {m:Nat}
theorem jFx (ho:ops[j]?=some o) (hg:Wants ops fr o true) (hk:b.kind≠.early) (hop:o.op=.call {callee:=.value (.func f),args:=aS,argTypes:=ats}) (hdst:o.dst=some d) (hd:Nat.blt d N=true)
  (he:Ent P f (fun _=>do mark .disable;pure Extern.Race.none_)) (k':W P (ΦZ P (Cp low tW msg) Stop v (Mn.enc W0 f0 d0 e0 ow (.hire 1 m))) b N ds ((d,.tuple #[])::fr) (.inRegion ops rest::k) cs):W P (ΦZ P (Cp low tW msg) Stop v (Mn.enc W0 f0 d0 e0 ow (.hire 0 m))) b N ds fr (.inRegion ops (j::rest)::k) cs:=by
 refine zO3 (R:=fun γ' x=>γ'=Mn.enc W0 f0 d0 e0 ow (.hire 1 m)∧x=.tuple #[]) (fun a=>xE ho hop he) (fun a ha σ ok hgh=>?_) hd (by rintro γ' x ⟨rfl,rfl⟩;exact k');obtain⟨hm,rfl,rfl,rfl,rfl,rfl⟩:=zFm hgh;exact⟨_,_,_,_,jCf ok hm,by rw[<-hdst];exact zDg .disable (by simp) ho (hg.eq ha.slots) hk hop he (zDu hm) (zE2 hm),_,zE6,rfl,rfl⟩
theorem jFd (hsm:m+1<1000000) (ho:ops[j]?=some o) (hg:Wants ops fr o true) (hk:b.kind≠.early) (hop:o.op=.call {callee:=.value (.func f),args:=#[x,y],argTypes:=ats}) (hdst:o.dst=some d) (hd:Nat.blt d N=true)
  (hx:ev fr x=some (pt W0)) (hy:ev fr y=some (.int .u64 4294967296)) (he:Ent P f (Extern.Atomic.update (Op.intArith .add) .u64 true))
  (k1:W P (ΦZ P (Cp low tW msg) Stop v (Mn.enc W0 f0 d0 e0 ow (.hire 2 m))) b N ds ((d,.int .u64 (stt 1 0))::fr) (.inRegion ops rest::k) cs)
  (k2:∀c,1<c->c<1000001->W P (ΦZ P (Cp low tW msg) Stop v (Mn.enc W0 f0 d0 e0 ow (.hire 3 m))) b N ds ((d,.int .u64 (stt c 0))::fr) (.inRegion ops rest::k) cs):W P (ΦZ P (Cp low tW msg) Stop v (Mn.enc W0 f0 d0 e0 ow (.hire 1 m))) b N ds fr (.inRegion ops (j::rest)::k) cs:=by
 refine zO3 (R:=fun γ' x=>(γ'=Mn.enc W0 f0 d0 e0 ow (.hire 2 m)∧x=.int .u64 (stt 1 0))∨∃c,1<c∧c<1000001∧γ'=Mn.enc W0 f0 d0 e0 ow (.hire 3 m)∧x=.int .u64 (stt c 0)) (fun a=>xE ho hop he) (fun a ha σ ok hgh=>?_) hd ?_
 ·obtain⟨hm,rfl,rfl,rfl,rfl,rfl⟩:=zFm hgh;have hp:=zDh ok hm;have hW:σ.mn.hasW=true:=by rw[hm];rfl
  have hsm':=ok.small;have hw0:σ.wtr.toNat=0:=by rw[hp.1.1];rfl
  have hwr:IntKind.u64.wrap ((σ.state:Int)+4294967296)=(((σ.cnt+1)*4294967296+0:Nat):Int):=by
   have:=zYh (c:=σ.cnt) (w:=0) hsm' (by omega);simp only[Cst.state,hw0];exact this
  by_cases hc:σ.cnt=0
  ·refine⟨_,_,_,_,zR9 (k:=2) ok hm (.inl J) hsm,?_,_,zE6,.inl ⟨rfl,rfl⟩⟩;rw[<-hdst];rw[hc] at hwr;exact zFy (s:=(0+1)*4294967296+0) ok hW (qO ha.slots hx) (qO ha.slots hy) hwr ho (hg.eq ha.slots) hk hop he (fun b=>by rw[zRz hm,hw0,hc]) (zE2 hm)
  ·refine⟨_,_,_,_,zR9 (k:=3) ok hm (.inr J) hsm,?_,_,zE6,.inr ⟨σ.cnt+1,by omega,by omega,rfl,rfl⟩⟩;rw[<-hdst];exact zFy ok hW (qO ha.slots hx) (qO ha.slots hy) hwr ho (hg.eq ha.slots) hk hop he (fun b=>by rw[zRz hm,hw0]) (zE2 hm)
 ·rintro γ' x (⟨rfl,rfl⟩|⟨c,h1,h2,rfl,rfl⟩)
  ·exact k1
  ·exact k2 c h1 h2
theorem jC3 (ho:ops[j]?=some o) (hg:Wants ops fr o true) (hk:b.kind≠.early) (hop:o.op=.call {callee:=.value (.func f),args:=aS,argTypes:=ats}) (hdst:o.dst=some d) (hd:Nat.blt d N=true)
  (hx:aS.toList.map (ev fr)=[some (.pointer (some ⟨W0,1,none⟩))]) (he:Ent P f (Extern.Race.marked .read)) (k':W P (ΦZ P (Cp low tW msg) Stop v (Mn.enc W0 f0 d0 e0 ow (.hire 3 m))) b N ds ((d,.tuple #[])::fr) (.inRegion ops rest::k) cs):W P (ΦZ P (Cp low tW msg) Stop v (Mn.enc W0 f0 d0 e0 ow (.hire 2 m))) b N ds fr (.inRegion ops (j::rest)::k) cs:=by
 refine zO3 (R:=fun γ' x=>γ'=Mn.enc W0 f0 d0 e0 ow (.hire 3 m)∧x=.tuple #[]) (fun a=>xE ho hop he) (fun a ha σ ok hgh=>?_) hd (by rintro γ' x ⟨rfl,rfl⟩;exact k');obtain⟨hm,rfl,rfl,rfl,rfl,rfl⟩:=zFm hgh;have hx':=zEv ha.slots (vs:=[.pointer (some ⟨σ.W,1,none⟩)]) hx;exact⟨_,_,_,_,zZf ok hm,by rw[<-hdst];exact zEn .read (by simp) (by rw[hx'];rfl) ho (hg.eq ha.slots) hk hop he (zDu hm) (zE2 hm),_,zE6,rfl,rfl⟩
theorem jDq {kk:Nat} (ho:ops[j]?=some ⟨some d,.convert s t x,ty,pos,after,gd⟩) (hg:Wants ops fr ⟨some d,.convert s t x,ty,pos,after,gd⟩ true) (hk:b.kind≠.early) (hd:Nat.blt d N=true)
  (hx:ev fr x=some (.pointer (some ⟨W0,off,none⟩))) (hs:P.underlying s=some (.pointer e')) (ht:P.underlying t=some .unsafePointer) (hsz:(P.info? e').map (fun i=>decide (i.size=0))=some false) (hoff:off=0∨off=1)
  (k0:W P (ΦZ P (Cp low tW msg) Stop v (Mn.enc W0 f0 d0 e0 ow (.hire kk m))) b N ds ((d,.pointer (some ⟨W0,off,none⟩))::fr) (.inRegion ops rest::k) cs):W P (ΦZ P (Cp low tW msg) Stop v (Mn.enc W0 f0 d0 e0 ow (.hire kk m))) b N ds fr (.inRegion ops (j::rest)::k) cs:=by
 intro a ha;refine jAe (K:=Cp low tW msg) (γ:=Mn.enc W0 f0 d0 e0 ow (.hire kk m)) J J (fun σ ok hgh w hw=>?_) (k0 _ (ha.put hd _));obtain⟨hm,rfl,rfl,rfl,rfl,rfl⟩:=zFm hgh;exact zFx (by rw[hm];rfl) (qO ha.slots hx) ho (hg.eq ha.slots) hk hs ht hsz hoff hw
theorem z_on (he:Ent P f (fun _=>do mark .enable;pure Extern.Race.none_)) (h:Wr P (ΦZ P (Cp low tW msg) Stop v (Mn.enc W0 f0 d0 e0 ow (.hire 4 m))) b N ds fr cs):Wr P (ΦZ P (Cp low tW msg) Stop v (Mn.enc W0 f0 d0 e0 ow (.hire 3 m))) b N (dcall f #[]::ds) fr cs:=by
 intro a todo ha
 refine zVn (K:=Cp low tW msg) (γ:=Mn.enc W0 f0 d0 e0 ow (.hire 3 m)) J J J (fun γ' g'=>γ'=Mn.enc W0 f0 d0 e0 ow (.hire 4 m)∧g'=G {b.at ⟨a.tmps,ds⟩ todo with mode:=.returning} cs) (fun σ ok hgh=>?_) ?_
 ·obtain⟨hm,rfl,rfl,rfl,rfl,rfl⟩:=zFm hgh;obtain⟨fn,h1,h2,h3,h4,h5⟩:=he;have hmv:=jE7 (tW:=tW) (msg:=msg) ok hm
  exact⟨_,_,_,_,hmv,fun w hw=>⟨w,#[⟨.mark .enable,false,true⟩],stepG_unwind_entry (v:=.tuple #[]) ha.defs h1 h2 h3 h4 h5 (by simp[Extern.Race.none_]) (by simp) (by
   intro x hx;simp at hx;subst hx
   exact⟨rfl,fun g h=>by cases h⟩),rfl,zA4 hw (zDu hm) (zE2 hm)⟩,_,zE6,(jBj.zero _ hmv.ok).2,rfl,rfl⟩
 ·rintro γ' g' ⟨rfl,rfl⟩;exact h _ todo ⟨ha.size,rfl,ha.slots⟩
theorem zRx (hi:i≠0) (ho:ops[j]?=some o) (hg:Wants ops fr o true) (hk:b.kind≠.early) (hop:o.op=.call {callee:=.builtin .close,args:=#[x],argTypes:=ats}) (hdst:o.dst=none)
  (hx:ev fr x=some (.chan (some d0))) (k2:W P (ΦX P 0) b N ds fr (.inRegion ops rest::k) cs):W P (ΦN P (Cp low tW msg) i Stop v (Wt.enc W0 d0 .cls)) b N ds fr (.inRegion ops (j::rest)::k) cs:=by
 intro a ha;refine zN9 (K:=Cp low tW msg) (γ:=Wt.enc W0 d0 .cls) hi J J (zK4 ho hop) (fun _ _=>False) (fun σ ok hgh=>?_) (fun _ _ x=>x.elim);obtain⟨hi0,h1,rfl,rfl⟩:=zDd (q:=.cls) ok.zero hgh J;obtain⟨_,hm,hsh,ha1⟩:=vO ok h1;obtain⟨n,hq⟩:=k2 _ (ha.put0 (.tuple #[]));have hD:σ.ts.D i=0:=by rw[yH hi0 h1];rfl
 have hmv:=jCc (tW:=tW) (msg:=msg) ok h1
 refine⟨_,_,_,G (b.at (a.put none (.tuple #[])) (.inRegion ops rest::k)) cs,hmv,?_,.inr (.inr ⟨n,zBr (σ:={σ.turn i none σ.cnt σ.wtr σ.sem 2 with shut:=true}) hi0 (if_pos J),?_⟩)⟩
 ·rw[<-hdst];refine zS3 ok hm hsh (qO ha.slots hx) ho (hg.eq ha.slots) hk hop J (fun c=>?_);have:=hmv.ch c;rw[this]
  by_cases e:c=σ.d
  ·subst e;simp
  ·have e':σ.d≠c:=Ne.symm e;simp[e,e']
 ·have e1:dacts (((Cp low tW msg).ts σ).D i) [.access ⟨.obj σ.d,false,true⟩,.close σ.d]=0:=hD;rw[e1];exact hq
end
end
section
open Go.Conc
set_option linter.unusedVariables false
set_option linter.unusedSimpArgs false
variable {N' c w:Nat} {o:Oper} {op:BinOp} {vs:List Value} {x:Int} {y:Code}
section
variable {P:Program} {Φ:Goroutine->Prop} {b:Frame} {N:Nat} {ds:List Deferred} {fr:LV} {k:List Item} {cs:List Frame} {ops:Array Oper} {i:Nat} {rest:List Nat} {d:Nat} {ty:TypeId} {pos:String} {after:Array Edge} {dst:Option Nat} {gd:Option (Nat×Bool)} [S:Stl P Φ]
theorem bk (f:FuncId):(base f).kind≠.early:=by intro h;cases h
theorem bkD (f:FuncId):(baseD f).kind≠.early:=by intro h;cases h
theorem wv {f:FuncId} {x:Value} (ho:ops[i]?=some o) (y:Pyl P fr o x) (h:W P Φ (base f) N ds ((d,x)::fr) (.inRegion ops rest::k) cs) (hg:Wants ops fr o true:=by rfl) (hdst:o.dst=some d:=by rfl) (hd:Nat.blt d N=true:=by rfl) :
  W P Φ (base f) N ds fr (.inRegion ops (i::rest)::k) cs:=xH ho hg (bk f) hdst hd y h
theorem wo (ho:ops[i]?=some o) (h:W P Φ b N ds ((d,undef)::fr) (.inRegion ops rest::k) cs) (hg:Wants ops fr o false:=by exact⟨_,_,rfl,rfl,rfl⟩) (hdst:o.dst=some d:=by rfl) (hd:Nat.blt d N=true:=by rfl) :
  W P Φ b N ds fr (.inRegion ops (i::rest)::k) cs:=jFn ho hg hdst hd h
theorem vH {c:Operand} {x:Code} (hc:ev fr c=some (.bool true)) (h:W P Φ b N ds fr (.code x::k) cs):W P Φ b N ds fr (.code (.cond c x y)::k) cs:=zWn true hc h
theorem kY {c:Operand} {x:Code} (hc:ev fr c=some (.bool false)) (h:W P Φ b N ds fr (.code y::k) cs):W P Φ b N ds fr (.code (.cond c x y)::k) cs:=zWn false hc h
theorem xI {b₀:Frame} {a₀:Act} {ops₀:Array Oper} {i₀:Nat} {rest₀:List Nat} {k₀:List Item} {o₀:Oper} {fn:Func} {x:Value} {N₀ d₀:Nat} {ds₀:List Deferred} {fr₀:LV} (hn:b.kind=.normal) (hf:P.funcs[b.fn]?=some fn) (hr:fn.results=#[]∧x=.tuple #[]∨∃t,fn.results=#[.tmp t]∧look fr t=some x)
  (ho:ops₀[i₀]?=some o₀) (hdst:o₀.dst=some d₀) (hd:Nat.blt d₀ N₀=true) (h1:Sl N₀ ds₀ fr₀ a₀) (h:W P Φ b₀ N₀ ds₀ ((d₀,x)::fr₀) (.inRegion ops₀ rest₀::k₀) cs):Wr P Φ b N [] fr (b₀.at a₀ (.inRegion ops₀ (i₀::rest₀)::k₀)::cs) :=
 zX1 hn hf hr ho (by rw[hdst];exact h _ (h1.put hd x))
end
def Bn (P:Program) (op:BinOp) (t:TypeId) (u u' v:Value):Prop:=∀w,(binOp op t u u').run P w=.ok v w∧(binOp op t u u').events P w #[]=#[]
section
variable {P:Program} {fr:LV} {dst:Option Nat} {ty:TypeId} {pos:String} {after:Array Edge} {gd:Option (Nat×Bool)} {t t':TypeId} {kd ke:IntKind} {m n:Int} {r:Bool}
theorem kO {x y:Operand} {v:Value} (hx:ev fr x=some (.int kd m)) (hy:ev fr y=some (.int kd n)) (h:Bn P op t (.int kd m) (.int kd n) v):Pyl P fr ⟨dst,.binOp op t x y t',ty,pos,after,gd⟩ v:=jCh hx hy (fun w=>(h w).1) fun w=>(h w).2
theorem zCf (hop:op=.shl∨op=.shr) {x y:Operand} {v:Value} (hx:ev fr x=some (.int kd m)) (hy:ev fr y=some (.int ke n)) (h:Bn P op t (.int kd m) (.int ke n) v):Pyl P fr ⟨dst,.binOp op t x y t',ty,pos,after,gd⟩ v:=jE8 hop hx hy (fun w=>(h w).1) fun w=>(h w).2
theorem zCx (h:decide (m<n)=r):Bn P .lss t (.int kd m) (.int kd n) (.bool r):=fun w=>by subst h;simp[binOp,Op.intCmp]
theorem wU (h:decide (n<m)=r):Bn P .gtr t (.int kd m) (.int kd n) (.bool r):=fun w=>by subst h;simp[binOp,Op.intCmp]
theorem zC1 (h:decide (m=n)=r):Bn P .eql t (.int kd m) (.int kd n) (.bool r):=fun w=>by
 have:(m==n)=decide (m=n):=by cases h:(m==n)<;>simp_all
 subst h;simp[binOp,Op.intCmp,this]
theorem yC (h:decide (m≠n)=r):Bn P .neq t (.int kd m) (.int kd n) (.bool r):=fun w=>by
 have:(m != n)=decide (m≠n):=by cases h:(m != n)<;>simp_all
 subst h;simp[binOp,Op.intCmp,this]
theorem jEd (h:kd.wrap (m+n)=x):Bn P .add t (.int kd m) (.int kd n) (.int kd x):=fun w=>by subst h;simp[binOp,Op.intArith]
theorem jEm (h:kd.wrap (m-n)=x):Bn P .sub t (.int kd m) (.int kd n) (.int kd x):=fun w=>by subst h;simp[binOp,Op.intArith]
theorem zWc (h0:0<=n) (h:kd.wrap (m*2^(min n.toNat kd.bits))=x):Bn P .shl t (.int kd m) (.int ke n) (.int kd x):=fun w=>by subst h;simp[binOp,Op.shift,Int.not_lt.2 h0]
theorem jEi (h0:0<=n) (h:m.fdiv (2^(min n.toNat kd.bits))=x):Bn P .shr t (.int kd m) (.int ke n) (.int kd x):=fun w=>by subst h;simp[binOp,Op.shift,Int.not_lt.2 h0]
theorem zWi (h:bits .and kd m n=x):Bn P .and t (.int kd m) (.int kd n) (.int kd x):=fun w=>by subst h;simp[binOp,Op.intBits,bits]
theorem zBm (hc:c<1000002) (hw:w<=1):Bn P .and t (.int .u64 (stt c w)) (.int .u64 2147483648) (.int .u64 0):=by
 refine zWi ?_;have:=Go.ConcN.st_flag c w (by omega) hw;have e:stt c w=(c:Int)*4294967296+(w:Int):=by simp[stt]
 rw[e];exact this
theorem zBp (hc:c<1000002) (hw:w<=1):Bn P .and t (.int .u64 (stt c w)) (.int .u64 2147483647) (.int .u64 (w:Int)):=by
 refine zWi ?_;have:=Go.ConcN.st_waiters c w (by omega) hw;have e:stt c w=(c:Int)*4294967296+(w:Int):=by simp[stt]
 rw[e];exact this
theorem zBh (hw:w<=1):Bn P .shr t (.int .u64 (stt c w)) (.int .u64 32) (.int .u64 (c:Int)):=by
 refine jEi (by decide) ?_;have e:min (32:Int).toNat IntKind.u64.bits=32:=rfl;rw[e,Int.fdiv_eq_ediv_of_nonneg _ (by decide)];have e2:(2:Int)^32=4294967296:=by decide
 rw[e2];simp only[stt];omega
theorem jDr (hc:c<1000002):Bn P .add t (.int .u64 (stt c 0)) (.int .u64 1) (.int .u64 (stt c 1)):=by
 refine jEd ?_;rw[IntKind.wrap_u64];simp only[stt];omega
theorem zAc (hc:c<1000002):IntKind.i32.wrap (c:Int)=(c:Int):=by
 rw[IntKind.wrap_i32];omega
theorem zAd (hc:c<1000002):IntKind.u32.wrap (c:Int)=(c:Int):=by
 rw[IntKind.wrap_u32];omega
end
section
variable {P:Program} {Φ:Goroutine->Prop} {b:Frame} {N:Nat} {ds:List Deferred} {fr fr':LV} {k:List Item} {cs:List Frame} {f:FuncId} {fn:Func}
theorem zZ9 (hs:Sub fr' fr) (h:W P Φ b N ds fr' k cs):W P Φ b N ds fr k cs:=fun a ha=>h a (ha.sub hs)
theorem zDj (hf:P.funcs[f]?=some fn) (hr:fn.results=#[]):Wr P (ΦX P 0) (baseD f) N [] fr [bornF P]:=by
 intro a todo ha
 refine⟨2,.ctl (g':=G (bornF P) []) J (fun w=>?_) (.ctl (g':={G (bornF P) [] with status:=.finished}) J (fun w=>?_) ⟨rfl,rfl⟩)⟩
 ·have h1:=results_none hr a.tmps P w;have h2:=events_results_none hr a.tmps #[] (P:=P) (w:=w);simp[G,stepG,unwind,doReturn,Frame.at,baseD,ha.defs,hf,h1,h2,seen,GStep.after,bornF,goexitEntry]
 ·have h0:(default:Frame).todo=[]:=rfl;simp[G,stepG,unwind,bornF,Frame.catches,goexitEntry,h0]
theorem zQh {c:Code} (hf:P.funcs[f]?=some fn) (hb:fn.body=some c) (hN:fn.ntmps=N') (hle:Nat.ble vs.length N'=true) (h:W P Φ (baseD f) N' [] (idx 0 vs) [.code c] cs):Φ (G (Frame.enter P f vs.toArray .deferred) cs):=by
 subst hN;rw[enter_atD vs.toArray hf hb];have:=zIj (P:=P) (I:=⟨false,fun _ _ _=>True⟩) (vs:=vs) (v:=default) hle;exact h _ ⟨this.size,rfl,this.slots⟩
theorem jCy {c:Code} (hf:P.funcs[f]?=some fn) (hb:fn.body=some c) (hN:fn.ntmps=N') (hle:Nat.ble vs.length N'=true) (h:W P Φ (base f) N' [] (idx 0 vs) [.code c] cs):Φ (G (Frame.enter P f vs.toArray .normal) cs):=by
 subst hN;rw[enter_at vs.toArray hf hb];have:=zIj (P:=P) (I:=⟨false,fun _ _ _=>True⟩) (vs:=vs) (v:=default) hle;exact h _ ⟨this.size,rfl,this.slots⟩
end
section
variable {low:Nat} {tW:TypeId} {msg:Nat->Value} {P:Program} {Stop:Goroutine->World->Prop} {v:World} {i:Nat} {b:Frame} {N:Nat} {ds:List Deferred} {fr:LV} {k:List Item} {cs:List Frame} {W0 d0:Nat} {ops:Array Oper} {j:Nat} {rest:List Nat} {d:Nat} {γ:Gh}
theorem jD4 {c:Code} (h:∀n,(∀m,m<n->W P (ΦN P (Cp low tW msg) i Stop v (Wt.enc W0 d0 (.load m))) b N ds fr (.inLoop c::k) cs)->W P (ΦN P (Cp low tW msg) i Stop v (Wt.enc W0 d0 (.load n))) b N ds fr (.code c::.inLoop c::k) cs) (n:Nat) :
  W P (ΦN P (Cp low tW msg) i Stop v (Wt.enc W0 d0 (.load n))) b N ds fr (.code (.loop c)::k) cs:=by
 have key:∀n,W P (ΦN P (Cp low tW msg) i Stop v (Wt.enc W0 d0 (.load n))) b N ds fr (.code c::.inLoop c::k) cs:=by
  intro n
  induction n using Nat.strongRecOn with
  | _ n ih=>exact h n fun m hm=>zOq (ih m hm)
 exact zVp (key n)
theorem zWg {x:Operand} {t:TypeId} {p:Addr} {u:Value} {ty:TypeId} {pos:String} {after:Array Edge} (ho:ops[j]?=some ⟨some d,.load t x,ty,pos,after,none⟩) (hk:b.kind≠.early) (hro:b.roundOf=none) (hd:Nat.blt d N=true) (hx:ev fr x=some (.pointer (some p))) (ht:One P t) (hc:v.cell? p=some u) (hlt:p.block<v.heap.size)
  (k':W P (ΦN P (Cp low tW msg) i Stop v γ) b N ds ((d,u)::fr) (.inRegion ops rest::k) cs):W P (ΦN P (Cp low tW msg) i Stop v γ) b N ds fr (.inRegion ops (j::rest)::k) cs:=by
 intro a ha
 letI:Sys:=nSys P (Cp low tW msg) i
 have hat:At ⟨P,v.heap.size,saying v (gout γ),N,ds⟩ fr [] a (saying v (gout γ)):=⟨ha.size,ha.defs,ha.slots,Below.refl _ _,Nat.le_refl _,(fun r hr=>by cases hr),List.nodup_nil⟩;have e1:∀a' k',b.at a' k'=b.atR a' k':=fun a' k'=>by rw[Frame.atR_of_none hro]
 show @Gs P (nSys P (Cp low tW msg) i) Stop _ _;rw[e1];refine jC9 (C:=⟨P,v.heap.size,saying v (gout γ),N,ds⟩) (hp:=[]) (x:=u) hat ho hk (.inl hro) (jC hx ht fun a w h=>h.old (show (saying v (gout γ)).cell? p=some u from hc) hlt) ?_;rw[<-e1];exact k' _ (ha.put hd u)
end
end
section
open Go.Conc
set_option linter.unusedVariables false
set_option maxRecDepth 4000
section
variable [I:Sys]
theorem F.fi155_2:FI Tryz.prog 155 2 71 0:=⟨_,_,Tryz.underlying155,rfl,rfl,rfl⟩
theorem F.fi158_1:FI Tryz.prog 158 1 155 0:=⟨_,_,Tryz.underlying158,rfl,rfl,rfl⟩
theorem F.fi158_2:FI Tryz.prog 158 2 156 1:=⟨_,_,Tryz.underlying158,rfl,rfl,rfl⟩
theorem F.one149:One Tryz.prog 149:=⟨by unfold aggB;rw[Tryz.underlying149],by rw[Tryz.underlying149];simp⟩
theorem F.ti155:TI Tryz.prog 155 (.agg #[.int .u64 0]) 1 8:=TI.of (by kernel_rfl)
theorem F.ti156:TI Tryz.prog 156 (.int .u32 0) 1 4:=TI.of (by kernel_rfl)
theorem F.ti71:TI Tryz.prog 71 (.int .u64 0) 1 8:=TI.of (by kernel_rfl)
end
theorem E.relMerge:Ent Tryz.prog 119 (Extern.Race.marked .releaseMerge):=⟨_,Tryz.func119,by kernel_rfl,by kernel_rfl,by kernel_rfl,by kernel_rfl⟩
theorem E.acquire:Ent Tryz.prog 132 (Extern.Race.marked .acquire):=⟨_,Tryz.func132,by kernel_rfl,by kernel_rfl,by kernel_rfl,by kernel_rfl⟩
theorem E.read:Ent Tryz.prog 127 (Extern.Race.marked .read):=⟨_,Tryz.func127,by kernel_rfl,by kernel_rfl,by kernel_rfl,by kernel_rfl⟩
theorem E.write:Ent Tryz.prog 135 (Extern.Race.marked .write):=⟨_,Tryz.func135,by kernel_rfl,by kernel_rfl,by kernel_rfl,by kernel_rfl⟩
theorem E.disable:Ent Tryz.prog 120 (fun _=>do mark .disable;pure Extern.Race.none_):=⟨_,Tryz.func120,by kernel_rfl,by kernel_rfl,by kernel_rfl,by kernel_rfl⟩
theorem E.enable:Ent Tryz.prog 121 (fun _=>do mark .enable;pure Extern.Race.none_):=⟨_,Tryz.func121,by kernel_rfl,by kernel_rfl,by kernel_rfl,by kernel_rfl⟩
theorem E.semrel:Ent Tryz.prog 131 Extern.Sync.semrelease:=⟨_,Tryz.func131,by kernel_rfl,by kernel_rfl,by kernel_rfl,by kernel_rfl⟩
theorem E.semacq:Ent Tryz.prog 136 Extern.Sync.semacquire:=⟨_,Tryz.func136,by kernel_rfl,by kernel_rfl,by kernel_rfl,by kernel_rfl⟩
theorem E.add:Ent Tryz.prog 142 (Extern.Atomic.update (Op.intArith .add) .u64 true):=⟨_,Tryz.func142,by kernel_rfl,by kernel_rfl,by kernel_rfl,by kernel_rfl⟩
theorem E.load:Ent Tryz.prog 143 (Extern.Atomic.loadT (.int .u64)):=⟨_,Tryz.func143,by kernel_rfl,by kernel_rfl,by kernel_rfl,by kernel_rfl⟩
theorem E.store:Ent Tryz.prog 144 Extern.Atomic.storeT:=⟨_,Tryz.func144,by kernel_rfl,by kernel_rfl,by kernel_rfl,by kernel_rfl⟩
theorem E.cas:Ent Tryz.prog 145 (Extern.Atomic.casT (.int .u64)):=⟨_,Tryz.func145,by kernel_rfl,by kernel_rfl,by kernel_rfl,by kernel_rfl⟩
section
variable {low:Nat} {msg:Nat->Value} {Stop:Goroutine->World->Prop} {v:World} {i:Nat} {W0 f0 d0 e0:Nat}
theorem jBz (hi:i≠0) {a:Act} {todo:List Item} (hs:Sl a.tmps.size [] [] a):ΦN Tryz.prog (Cp low 158 msg) i Stop v (Wkr.enc W0 f0 (.send [])) (G (Frame.enter Tryz.prog 107 #[pt W0] .deferred) [{(baseD 106).at a todo with mode:=.returning},bornF Tryz.prog]):=by
 letI:Sys:=nSys Tryz.prog (Cp low 158 msg) i
 refine zQh Tryz.func107 J J J ?_;refine jB (l:=[0,1]) J ?_;refine xH (x:=pt W0) J J (bkD _) J J (zT J) ?_;refine zB0 (vs:=[pt W0,.int .i64 (-1)]) J J (bkD _) J Tryz.func105 (by kernel_rfl) J J J J (fun a1 h1=>?_);refine jI ?_;refine vH J ?_;refine jI ?_;refine jI ?_;refine jB (l:=[0,1]) J ?_;refine wv (x:=.int .i64 (-1)) J (zT J) ?_;refine wv (x:=.bool true) J (kO J J (zCx (decide_eq_true (by omega)))) ?_;refine jL ?_;refine vH J ?_;refine jB (l:=[0,1,2]) J ?_;refine wv (x:=pt W0) J (zT J) ?_;refine jD8 J J (bk _) J J Tryz.underlying172 Tryz.underlying174 (by kernel_rfl) (.inl J) ?_;refine jFs hi J J (bk _) J J J J E.relMerge ?_;refine jL ?_;refine jI ?_;refine jB (l:=[0]) J ?_;refine jF4 J J (bk _) J J J E.disable ?_;refine jL ?_;refine jB (l:=[0]) J ?_;refine zSb J J (bk _) J J ?_;refine jL ?_;refine jI ?_;refine jB (l:=[0]) J ?_;refine wv (x:=.bool false) J (jX J) ?_;refine jL ?_;refine jI ?_;refine jI ?_;refine jB (l:=[0]) J ?_;refine zUx (.bool false) J J (bk _) J J J Tryz.func122 (by kernel_rfl) J (by kernel_rfl) (by kernel_rfl) ?_;refine jL ?_;refine kY J ?_;refine qQ ?_;refine jI ?_;refine jB (l:=[0,1,2,3,4,5,6,7]) J ?_;refine wv (x:=pt W0) J (zT J) ?_;refine wv (x:=pt W0) J (qM J) ?_;refine wv (x:=pt W0) J (xK J F.fi158_1 F.ti155) ?_;refine wv (x:=.int .i64 (-1)) J (zT J) ?_;refine wv (x:=.int .u64 18446744073709551615) J (qJ J Tryz.underlying3 Tryz.underlying71 (by decide)) ?_;refine wv (x:=.int .u64 18446744069414584320) J (zCf (.inl J) J J (zWc (by decide) (by decide))) ?_;refine zB0 (vs:=[pt W0,.int .u64 18446744069414584320]) J J (bk _) J Tryz.func126 (by kernel_rfl) J J J J (fun a2 h2=>?_);refine jI ?_;refine jB (l:=[0]) J ?_;refine wv (x:=.int .u64 0) J (jX J) ?_;refine jL ?_;refine jI ?_;refine jB (l:=[0,1,2,3,4,5]) J ?_;refine wv (x:=pt W0) J (zT J) ?_;refine wv (x:=pt W0) J (qM J) ?_;refine wv (x:=pt W0) J (xK J F.fi155_2 F.ti71) ?_;refine wv (x:=.int .u64 18446744069414584320) J (zT J) ?_
 refine jFj J J (bk _) J J J J J E.add (fun c w hc hw hcw=>?_) ?_
 ·obtain rfl|rfl:w=0∨w=1:=by omega
  ·rcases Nat.eq_zero_or_pos c with rfl|hc0
   ·
    refine wv (x:=.int .u64 (stt 0 0)) J (jX J) ?_;refine jL ?_;refine yX ?_;refine xI J Tryz.func126 (.inr ⟨4,rfl,rfl⟩) J J J h2 ?_;refine wv (x:=.int .u64 (stt 0 0)) J (jX J) ?_;refine jL ?_;refine jI ?_;refine jI ?_;refine jB (l:=[0,1,2,3,4,5,6]) J ?_;refine wv (x:=.int .u64 (stt 0 0)) J (zT J) ?_;refine wv (x:=.int .u64 0) J (kO J J (zBm (by omega) (by decide))) ?_;refine wv (x:=.bool false) J (kO J J (yC (decide_eq_false (by omega)))) ?_;refine wv (x:=.bool false) J (zT J) ?_;refine wo J ?_;refine wo J ?_;refine wv (x:=.bool false) J (kQ false J J) ?_;refine jL ?_;refine kY J ?_;refine qQ ?_;refine jI ?_;refine jB (l:=[0,1,2,3]) J ?_;refine wv (x:=.int .u64 (stt 0 0)) J (zT J) ?_;refine wv (x:=.int .u64 ((0:Nat):Int)) J (zCf (.inr J) J J (zBh (by decide))) ?_;refine wv (x:=.int .i32 ((0:Nat):Int)) J (qJ J Tryz.underlying71 Tryz.underlying21 (zAc (by omega))) ?_;refine wv (x:=.int .i32 ((0:Nat):Int)) J (jX J) ?_;refine jL ?_;refine jI ?_;refine jB (l:=[0,1,2,3]) J ?_;refine wv (x:=.int .u64 (stt 0 0)) J (zT J) ?_;refine wv (x:=.int .u64 ((0:Nat):Int)) J (kO J J (zBp (by omega) (by decide))) ?_;refine wv (x:=.int .u32 ((0:Nat):Int)) J (qJ J Tryz.underlying71 Tryz.underlying156 (zAd (by omega))) ?_;refine wv (x:=.int .u32 ((0:Nat):Int)) J (jX J) ?_;refine jL ?_;refine jI ?_;refine jI ?_;refine jB (l:=[0,1,2,3,4,5,6,7,8,9]) J ?_;refine wv (x:=.bool true) J (zT J) ?_;refine xH (x:=.int .i64 (-1)) J ⟨_,_,rfl,rfl,rfl⟩ (bk _) J J (zT J) ?_;refine xH (x:=.bool false) J ⟨_,_,rfl,rfl,rfl⟩ (bk _) J J (kO J J (wU (decide_eq_false (by omega)))) ?_;refine wv (x:=.bool false) J (kQ true J J) ?_;refine wv (x:=.bool false) J (zT J) ?_;refine wo J ?_;refine wo J ?_;refine wo J ?_;refine wo J ?_;refine wv (x:=.bool false) J (kQ false J J) ?_;refine jL ?_;refine kY J ?_;refine qQ ?_;refine jI ?_;refine jI ?_;refine jB (l:=[0,1]) J ?_;refine wv (x:=.int .i32 ((0:Nat):Int)) J (zT J) ?_;refine wv (x:=.bool false) J (kO J J (zCx (decide_eq_false (by omega)))) ?_;refine jL ?_;refine kY J ?_;refine qQ ?_;refine jI ?_;refine jI ?_;refine jB (l:=[0,1,2,3,4,5,6,7,8,9,10,11]) J ?_;refine wv (x:=.int .u32 ((0:Nat):Int)) J (zT J) ?_;refine wv (x:=.bool false) J (kO J J (yC (decide_eq_false (by omega)))) ?_;refine wv (x:=.bool false) J (zT J) ?_;refine wo J ?_;refine wo J ?_;refine wv (x:=.bool false) J (kQ false J J) ?_;refine wv (x:=.bool false) J (zT J) ?_;refine wo J ?_;refine wo J ?_;refine wo J ?_;refine wo J ?_;refine wv (x:=.bool false) J (kQ false J J) ?_;refine jL ?_;refine kY J ?_;refine qQ ?_;refine jI ?_;refine jI ?_;refine jB (l:=[0,1,2,3,4,5]) J ?_;refine wv (x:=.int .i32 ((0:Nat):Int)) J (zT J) ?_;refine wv (x:=.bool false) J (kO J J (wU (decide_eq_false (by omega)))) ?_;refine wv (x:=.bool false) J (zT J) ?_;refine xH (x:=.int .u32 ((0:Nat):Int)) J ⟨_,_,rfl,rfl,rfl⟩ (bk _) J J (zT J) ?_;refine xH (x:=.bool true) J ⟨_,_,rfl,rfl,rfl⟩ (bk _) J J (kO J J (zC1 (decide_eq_true (by omega)))) ?_;refine wv (x:=.bool true) J (kQ false J J) ?_;refine jL ?_;refine vH J ?_;refine yX ?_;refine zN0 (fn:=default) E.enable ?_;refine xI J Tryz.func105 (.inl ⟨rfl,rfl⟩) J J J h1 ?_;refine jL ?_;refine zD9 ?_;exact zEc J Tryz.func107 J J (zDj Tryz.func106 J (fr:=[]) _ _ hs)
   ·
    refine wv (x:=.int .u64 (stt c 0)) J (jX J) ?_;refine jL ?_;refine yX ?_;refine xI J Tryz.func126 (.inr ⟨4,rfl,rfl⟩) J J J h2 ?_;refine wv (x:=.int .u64 (stt c 0)) J (jX J) ?_;refine jL ?_;refine jI ?_;refine jI ?_;refine jB (l:=[0,1,2,3,4,5,6]) J ?_;refine wv (x:=.int .u64 (stt c 0)) J (zT J) ?_;refine wv (x:=.int .u64 0) J (kO J J (zBm (by omega) (by decide))) ?_;refine wv (x:=.bool false) J (kO J J (yC (decide_eq_false (by omega)))) ?_;refine wv (x:=.bool false) J (zT J) ?_;refine wo J ?_;refine wo J ?_;refine wv (x:=.bool false) J (kQ false J J) ?_;refine jL ?_;refine kY J ?_;refine qQ ?_;refine jI ?_;refine jB (l:=[0,1,2,3]) J ?_;refine wv (x:=.int .u64 (stt c 0)) J (zT J) ?_;refine wv (x:=.int .u64 ((c:Nat):Int)) J (zCf (.inr J) J J (zBh (by decide))) ?_;refine wv (x:=.int .i32 ((c:Nat):Int)) J (qJ J Tryz.underlying71 Tryz.underlying21 (zAc (by omega))) ?_;refine wv (x:=.int .i32 ((c:Nat):Int)) J (jX J) ?_;refine jL ?_;refine jI ?_;refine jB (l:=[0,1,2,3]) J ?_;refine wv (x:=.int .u64 (stt c 0)) J (zT J) ?_;refine wv (x:=.int .u64 ((0:Nat):Int)) J (kO J J (zBp (by omega) (by decide))) ?_;refine wv (x:=.int .u32 ((0:Nat):Int)) J (qJ J Tryz.underlying71 Tryz.underlying156 (zAd (by omega))) ?_;refine wv (x:=.int .u32 ((0:Nat):Int)) J (jX J) ?_;refine jL ?_;refine jI ?_;refine jI ?_;refine jB (l:=[0,1,2,3,4,5,6,7,8,9]) J ?_;refine wv (x:=.bool true) J (zT J) ?_;refine xH (x:=.int .i64 (-1)) J ⟨_,_,rfl,rfl,rfl⟩ (bk _) J J (zT J) ?_;refine xH (x:=.bool false) J ⟨_,_,rfl,rfl,rfl⟩ (bk _) J J (kO J J (wU (decide_eq_false (by omega)))) ?_;refine wv (x:=.bool false) J (kQ true J J) ?_;refine wv (x:=.bool false) J (zT J) ?_;refine wo J ?_;refine wo J ?_;refine wo J ?_;refine wo J ?_;refine wv (x:=.bool false) J (kQ false J J) ?_;refine jL ?_;refine kY J ?_;refine qQ ?_;refine jI ?_;refine jI ?_;refine jB (l:=[0,1]) J ?_;refine wv (x:=.int .i32 ((c:Nat):Int)) J (zT J) ?_;refine wv (x:=.bool false) J (kO J J (zCx (decide_eq_false (by omega)))) ?_;refine jL ?_;refine kY J ?_;refine qQ ?_;refine jI ?_;refine jI ?_;refine jB (l:=[0,1,2,3,4,5,6,7,8,9,10,11]) J ?_;refine wv (x:=.int .u32 ((0:Nat):Int)) J (zT J) ?_;refine wv (x:=.bool false) J (kO J J (yC (decide_eq_false (by omega)))) ?_;refine wv (x:=.bool false) J (zT J) ?_;refine wo J ?_;refine wo J ?_;refine wv (x:=.bool false) J (kQ false J J) ?_;refine wv (x:=.bool false) J (zT J) ?_;refine wo J ?_;refine wo J ?_;refine wo J ?_;refine wo J ?_;refine wv (x:=.bool false) J (kQ false J J) ?_;refine jL ?_;refine kY J ?_;refine qQ ?_;refine jI ?_;refine jI ?_;refine jB (l:=[0,1,2,3,4,5]) J ?_;refine wv (x:=.int .i32 ((c:Nat):Int)) J (zT J) ?_;refine wv (x:=.bool true) J (kO J J (wU (decide_eq_true (by omega)))) ?_;refine wv (x:=.bool true) J (zT J) ?_;refine wo J ?_;refine wo J ?_;refine wv (x:=.bool true) J (kQ true J J) ?_;refine jL ?_;refine vH J ?_;refine yX ?_;refine zN0 (fn:=default) E.enable ?_;refine xI J Tryz.func105 (.inl ⟨rfl,rfl⟩) J J J h1 ?_;refine jL ?_;refine zD9 ?_;exact zEc J Tryz.func107 J J (zDj Tryz.func106 J (fr:=[]) _ _ hs)
  ·have hc0:0<c:=by omega
   refine wv (x:=.int .u64 (stt c 1)) J (jX J) ?_;refine jL ?_;refine yX ?_;refine xI J Tryz.func126 (.inr ⟨4,rfl,rfl⟩) J J J h2 ?_;refine wv (x:=.int .u64 (stt c 1)) J (jX J) ?_;refine jL ?_;refine jI ?_;refine jI ?_;refine jB (l:=[0,1,2,3,4,5,6]) J ?_;refine wv (x:=.int .u64 (stt c 1)) J (zT J) ?_;refine wv (x:=.int .u64 0) J (kO J J (zBm (by omega) (by decide))) ?_;refine wv (x:=.bool false) J (kO J J (yC (decide_eq_false (by omega)))) ?_;refine wv (x:=.bool false) J (zT J) ?_;refine wo J ?_;refine wo J ?_;refine wv (x:=.bool false) J (kQ false J J) ?_;refine jL ?_;refine kY J ?_;refine qQ ?_;refine jI ?_;refine jB (l:=[0,1,2,3]) J ?_;refine wv (x:=.int .u64 (stt c 1)) J (zT J) ?_;refine wv (x:=.int .u64 ((c:Nat):Int)) J (zCf (.inr J) J J (zBh (by decide))) ?_;refine wv (x:=.int .i32 ((c:Nat):Int)) J (qJ J Tryz.underlying71 Tryz.underlying21 (zAc (by omega))) ?_;refine wv (x:=.int .i32 ((c:Nat):Int)) J (jX J) ?_;refine jL ?_;refine jI ?_;refine jB (l:=[0,1,2,3]) J ?_;refine wv (x:=.int .u64 (stt c 1)) J (zT J) ?_;refine wv (x:=.int .u64 ((1:Nat):Int)) J (kO J J (zBp (by omega) (by decide))) ?_;refine wv (x:=.int .u32 ((1:Nat):Int)) J (qJ J Tryz.underlying71 Tryz.underlying156 (zAd (by omega))) ?_;refine wv (x:=.int .u32 ((1:Nat):Int)) J (jX J) ?_;refine jL ?_;refine jI ?_;refine jI ?_;refine jB (l:=[0,1,2,3,4,5,6,7,8,9]) J ?_;refine wv (x:=.bool true) J (zT J) ?_;refine xH (x:=.int .i64 (-1)) J ⟨_,_,rfl,rfl,rfl⟩ (bk _) J J (zT J) ?_;refine xH (x:=.bool false) J ⟨_,_,rfl,rfl,rfl⟩ (bk _) J J (kO J J (wU (decide_eq_false (by omega)))) ?_;refine wv (x:=.bool false) J (kQ true J J) ?_;refine wv (x:=.bool false) J (zT J) ?_;refine wo J ?_;refine wo J ?_;refine wo J ?_;refine wo J ?_;refine wv (x:=.bool false) J (kQ false J J) ?_;refine jL ?_;refine kY J ?_;refine qQ ?_;refine jI ?_;refine jI ?_;refine jB (l:=[0,1]) J ?_;refine wv (x:=.int .i32 ((c:Nat):Int)) J (zT J) ?_;refine wv (x:=.bool false) J (kO J J (zCx (decide_eq_false (by omega)))) ?_;refine jL ?_;refine kY J ?_;refine qQ ?_;refine jI ?_;refine jI ?_;refine jB (l:=[0,1,2,3,4,5,6,7,8,9,10,11]) J ?_;refine wv (x:=.int .u32 ((1:Nat):Int)) J (zT J) ?_;refine wv (x:=.bool true) J (kO J J (yC (decide_eq_true (by omega)))) ?_;refine wv (x:=.bool true) J (zT J) ?_;refine xH (x:=.int .i64 (-1)) J ⟨_,_,rfl,rfl,rfl⟩ (bk _) J J (zT J) ?_;refine xH (x:=.bool false) J ⟨_,_,rfl,rfl,rfl⟩ (bk _) J J (kO J J (wU (decide_eq_false (by omega)))) ?_;refine wv (x:=.bool false) J (kQ true J J) ?_;refine wv (x:=.bool false) J (zT J) ?_;refine wo J ?_;refine wo J ?_;refine wo J ?_;refine wo J ?_;refine wv (x:=.bool false) J (kQ false J J) ?_;refine jL ?_;refine kY J ?_;refine qQ ?_;refine jI ?_;refine jI ?_;refine jB (l:=[0,1,2,3,4,5]) J ?_;refine wv (x:=.int .i32 ((c:Nat):Int)) J (zT J) ?_;refine wv (x:=.bool true) J (kO J J (wU (decide_eq_true (by omega)))) ?_;refine wv (x:=.bool true) J (zT J) ?_;refine wo J ?_;refine wo J ?_;refine wv (x:=.bool true) J (kQ true J J) ?_;refine jL ?_;refine vH J ?_;refine yX ?_;refine zN0 (fn:=default) E.enable ?_;refine xI J Tryz.func105 (.inl ⟨rfl,rfl⟩) J J J h1 ?_;refine jL ?_;refine zD9 ?_;exact zEc J Tryz.func107 J J (zDj Tryz.func106 J (fr:=[]) _ _ hs)
 ·
  refine wv (x:=.int .u64 (stt 0 1)) J (jX J) ?_;refine jL ?_;refine yX ?_;refine xI J Tryz.func126 (.inr ⟨4,rfl,rfl⟩) J J J h2 ?_;refine wv (x:=.int .u64 (stt 0 1)) J (jX J) ?_;refine jL ?_;refine jI ?_;refine jI ?_;refine jB (l:=[0,1,2,3,4,5,6]) J ?_;refine wv (x:=.int .u64 (stt 0 1)) J (zT J) ?_;refine wv (x:=.int .u64 0) J (kO J J (zBm (by omega) (by decide))) ?_;refine wv (x:=.bool false) J (kO J J (yC (decide_eq_false (by omega)))) ?_;refine wv (x:=.bool false) J (zT J) ?_;refine wo J ?_;refine wo J ?_;refine wv (x:=.bool false) J (kQ false J J) ?_;refine jL ?_;refine kY J ?_;refine qQ ?_;refine jI ?_;refine jB (l:=[0,1,2,3]) J ?_;refine wv (x:=.int .u64 (stt 0 1)) J (zT J) ?_;refine wv (x:=.int .u64 ((0:Nat):Int)) J (zCf (.inr J) J J (zBh (by decide))) ?_;refine wv (x:=.int .i32 ((0:Nat):Int)) J (qJ J Tryz.underlying71 Tryz.underlying21 (zAc (by omega))) ?_;refine wv (x:=.int .i32 ((0:Nat):Int)) J (jX J) ?_;refine jL ?_;refine jI ?_;refine jB (l:=[0,1,2,3]) J ?_;refine wv (x:=.int .u64 (stt 0 1)) J (zT J) ?_;refine wv (x:=.int .u64 ((1:Nat):Int)) J (kO J J (zBp (by omega) (by decide))) ?_;refine wv (x:=.int .u32 ((1:Nat):Int)) J (qJ J Tryz.underlying71 Tryz.underlying156 (zAd (by omega))) ?_;refine wv (x:=.int .u32 ((1:Nat):Int)) J (jX J) ?_;refine jL ?_;refine jI ?_;refine jI ?_;refine jB (l:=[0,1,2,3,4,5,6,7,8,9]) J ?_;refine wv (x:=.bool true) J (zT J) ?_;refine xH (x:=.int .i64 (-1)) J ⟨_,_,rfl,rfl,rfl⟩ (bk _) J J (zT J) ?_;refine xH (x:=.bool false) J ⟨_,_,rfl,rfl,rfl⟩ (bk _) J J (kO J J (wU (decide_eq_false (by omega)))) ?_;refine wv (x:=.bool false) J (kQ true J J) ?_;refine wv (x:=.bool false) J (zT J) ?_;refine wo J ?_;refine wo J ?_;refine wo J ?_;refine wo J ?_;refine wv (x:=.bool false) J (kQ false J J) ?_;refine jL ?_;refine kY J ?_;refine qQ ?_;refine jI ?_;refine jI ?_;refine jB (l:=[0,1]) J ?_;refine wv (x:=.int .i32 ((0:Nat):Int)) J (zT J) ?_;refine wv (x:=.bool false) J (kO J J (zCx (decide_eq_false (by omega)))) ?_;refine jL ?_;refine kY J ?_;refine qQ ?_;refine jI ?_;refine jI ?_;refine jB (l:=[0,1,2,3,4,5,6,7,8,9,10,11]) J ?_;refine wv (x:=.int .u32 ((1:Nat):Int)) J (zT J) ?_;refine wv (x:=.bool true) J (kO J J (yC (decide_eq_true (by omega)))) ?_;refine wv (x:=.bool true) J (zT J) ?_;refine xH (x:=.int .i64 (-1)) J ⟨_,_,rfl,rfl,rfl⟩ (bk _) J J (zT J) ?_;refine xH (x:=.bool false) J ⟨_,_,rfl,rfl,rfl⟩ (bk _) J J (kO J J (wU (decide_eq_false (by omega)))) ?_;refine wv (x:=.bool false) J (kQ true J J) ?_;refine wv (x:=.bool false) J (zT J) ?_;refine wo J ?_;refine wo J ?_;refine wo J ?_;refine wo J ?_;refine wv (x:=.bool false) J (kQ false J J) ?_;refine jL ?_;refine kY J ?_;refine qQ ?_;refine jI ?_;refine jI ?_;refine jB (l:=[0,1,2,3,4,5]) J ?_;refine wv (x:=.int .i32 ((0:Nat):Int)) J (zT J) ?_;refine wv (x:=.bool false) J (kO J J (wU (decide_eq_false (by omega)))) ?_;refine wv (x:=.bool false) J (zT J) ?_;refine xH (x:=.int .u32 ((1:Nat):Int)) J ⟨_,_,rfl,rfl,rfl⟩ (bk _) J J (zT J) ?_;refine xH (x:=.bool false) J ⟨_,_,rfl,rfl,rfl⟩ (bk _) J J (kO J J (zC1 (decide_eq_false (by omega)))) ?_;refine wv (x:=.bool false) J (kQ false J J) ?_;refine jL ?_;refine kY J ?_;refine qQ ?_;refine jI ?_;refine jI ?_;refine jB (l:=[0,1,2,3,4,5]) J ?_;refine wv (x:=pt W0) J (zT J) ?_;refine wv (x:=pt W0) J (qM J) ?_;refine wv (x:=pt W0) J (xK J F.fi158_1 F.ti155) ?_;refine zB0 (vs:=[pt W0]) J J (bk _) J Tryz.func128 (by kernel_rfl) J J J J (fun a3 h3=>?_);refine jI ?_;refine jB (l:=[0]) J ?_;refine wv (x:=.int .u64 0) J (jX J) ?_;refine jL ?_;refine jI ?_;refine jB (l:=[0,1,2,3,4]) J ?_;refine wv (x:=pt W0) J (zT J) ?_;refine wv (x:=pt W0) J (qM J) ?_;refine wv (x:=pt W0) J (xK J F.fi155_2 F.ti71) ?_;refine jDa J J (bk _) J J J J E.load ?_;refine wv (x:=.int .u64 (stt 0 1)) J (jX J) ?_;refine jL ?_;refine yX ?_;refine xI J Tryz.func128 (.inr ⟨2,rfl,rfl⟩) J J J h3 ?_;refine wv (x:=.int .u64 (stt 0 1)) J (zT J) ?_;refine wv (x:=.bool false) J (kO J J (yC (by decide))) ?_;refine jL ?_;refine kY J ?_;refine qQ ?_;refine jI ?_;refine jB (l:=[0,1,2,3]) J ?_;refine wv (x:=pt W0) J (zT J) ?_;refine wv (x:=pt W0) J (qM J) ?_;refine wv (x:=pt W0) J (xK J F.fi158_1 F.ti155) ?_;refine zB0 (vs:=[pt W0,.int .u64 0]) J J (bk _) J Tryz.func129 (by kernel_rfl) J J J J (fun a4 h4=>?_);refine jB (l:=[0,1,2,3,4]) J ?_;refine wv (x:=pt W0) J (zT J) ?_;refine wv (x:=pt W0) J (qM J) ?_;refine wv (x:=pt W0) J (xK J F.fi155_2 F.ti71) ?_;refine wv (x:=.int .u64 0) J (zT J) ?_;refine jBa J J (bk _) J J J J J E.store ?_;refine jL ?_;refine zD9 ?_;refine xI J Tryz.func129 (.inl ⟨rfl,rfl⟩) J J J h4 ?_;refine jL ?_;refine jI ?_;refine jI ?_;refine jB (l:=[0]) J ?_;refine wv (x:=.bool false) J (zT J) ?_;refine jL ?_;refine kY J ?_;refine qQ ?_;refine zH2 ?_;refine zVp ?_;refine jI ?_;refine jI ?_;refine jB (l:=[0,1]) J ?_;refine wv (x:=.int .u32 ((1:Nat):Int)) J (zT J) ?_;refine wv (x:=.bool true) J (kO J J (yC (decide_eq_true (by omega)))) ?_;refine jL ?_;refine vH J ?_;refine qQ ?_;refine jI ?_;refine zH2 ?_;refine jB (l:=[0,1,2,3]) J ?_;refine wv (x:=pt W0) J (zT J) ?_;refine wv (x:=pt W0) J (qM J) ?_;refine wv (x:=.pointer (some ⟨W0,1,none⟩)) J (xK J F.fi158_2 F.ti156) ?_;refine jFq (xs:=[_,_]) J J (bk _) J J J J E.semrel ?_;refine jL ?_;refine zMs ?_;refine jB (l:=[0,1,2]) J ?_;refine wv (x:=.int .u32 ((1:Nat):Int)) J (zT J) ?_;refine wv (x:=.int .u32 0) J (kO J J (jEm (by decide))) ?_;refine wv (x:=.int .u32 0) J (jX J) ?_;refine jL ?_;refine zOq ?_;refine jI ?_;refine jI ?_;refine jB (l:=[0,1]) J ?_;refine wv (x:=.int .u32 0) J (zT J) ?_;refine wv (x:=.bool false) J (kO J J (yC (decide_eq_false (by omega)))) ?_;refine jL ?_;refine kY J ?_;refine jE5 J ?_;refine zD9 ?_;refine zN0 (fn:=default) E.enable ?_;refine xI J Tryz.func105 (.inl ⟨rfl,rfl⟩) J J J h1 ?_;refine jL ?_;refine zD9 ?_;exact zEc J Tryz.func107 J J (zDj Tryz.func106 J (fr:=[]) _ _ hs)
theorem jDj {ow:List Nat} {m:Nat} {cs:List Frame} (hm:m+1<1000000) (hend:∀fr:Frame,(fr.mode=.returning∧fr.defers=[]∧fr.kind=.normal∧fr.fn=105)->ΦZ Tryz.prog (Cp low 158 msg) Stop v (Mn.enc W0 f0 d0 e0 ow (.hire 4 m)) (G fr cs)) :
  ΦZ Tryz.prog (Cp low 158 msg) Stop v (Mn.enc W0 f0 d0 e0 ow (.hire 0 m)) (G (Frame.enter Tryz.prog 105 #[pt W0,.int .i64 1] .normal) cs):=by
 letI:Sys:=zSys Tryz.prog (Cp low 158 msg)
 refine jCy Tryz.func105 J J J ?_;refine jI ?_;refine vH J ?_;refine jI ?_;refine jI ?_;refine jB (l:=[0,1]) J ?_;refine wv (x:=.int .i64 1) J (zT J) ?_;refine wv (x:=.bool false) J (kO J J (zCx (decide_eq_false (by omega)))) ?_;refine jL ?_;refine kY J ?_;refine qQ ?_;refine jI ?_;refine jB (l:=[0]) J ?_;refine jFx J J (bk _) J J J E.disable ?_;refine jL ?_;refine jB (l:=[0]) J ?_;refine zSb J J (bk _) J J ?_;refine jL ?_;refine jI ?_;refine jB (l:=[0]) J ?_;refine wv (x:=.bool false) J (jX J) ?_;refine jL ?_;refine jI ?_;refine jI ?_;refine jB (l:=[0]) J ?_;refine zUx (.bool false) J J (bk _) J J J Tryz.func122 (by kernel_rfl) J (by kernel_rfl) (by kernel_rfl) ?_;refine jL ?_;refine kY J ?_;refine qQ ?_;refine jI ?_;refine jB (l:=[0,1,2,3,4,5,6,7]) J ?_;refine wv (x:=pt W0) J (zT J) ?_;refine wv (x:=pt W0) J (qM J) ?_;refine wv (x:=pt W0) J (xK J F.fi158_1 F.ti155) ?_;refine wv (x:=.int .i64 1) J (zT J) ?_;refine wv (x:=.int .u64 1) J (qJ J Tryz.underlying3 Tryz.underlying71 (by decide)) ?_;refine wv (x:=.int .u64 4294967296) J (zCf (.inl J) J J (zWc (by decide) (by decide))) ?_;refine zB0 (vs:=[pt W0,.int .u64 4294967296]) J J (bk _) J Tryz.func126 (by kernel_rfl) J J J J (fun a1 h1=>?_);refine jI ?_;refine jB (l:=[0]) J ?_;refine wv (x:=.int .u64 0) J (jX J) ?_;refine jL ?_;refine jI ?_;refine jB (l:=[0,1,2,3,4,5]) J ?_;refine wv (x:=pt W0) J (zT J) ?_;refine wv (x:=pt W0) J (qM J) ?_;refine wv (x:=pt W0) J (xK J F.fi155_2 F.ti71) ?_;refine wv (x:=.int .u64 4294967296) J (zT J) ?_
 refine jFd hm J J (bk _) J J J J J E.add ?_ (fun c hc0 hc1=>?_)
 ·
  refine wv (x:=.int .u64 (stt 1 0)) J (jX J) ?_;refine jL ?_;refine yX ?_;refine xI J Tryz.func126 (.inr ⟨4,rfl,rfl⟩) J J J h1 ?_;refine wv (x:=.int .u64 (stt 1 0)) J (jX J) ?_;refine jL ?_;refine jI ?_;refine jI ?_;refine jB (l:=[0,1,2,3,4,5,6]) J ?_;refine wv (x:=.int .u64 (stt 1 0)) J (zT J) ?_;refine wv (x:=.int .u64 0) J (kO J J (zBm (by omega) (by decide))) ?_;refine wv (x:=.bool false) J (kO J J (yC (decide_eq_false (by omega)))) ?_;refine wv (x:=.bool false) J (zT J) ?_;refine wo J ?_;refine wo J ?_;refine wv (x:=.bool false) J (kQ false J J) ?_;refine jL ?_;refine kY J ?_;refine qQ ?_;refine jI ?_;refine jB (l:=[0,1,2,3]) J ?_;refine wv (x:=.int .u64 (stt 1 0)) J (zT J) ?_;refine wv (x:=.int .u64 ((1:Nat):Int)) J (zCf (.inr J) J J (zBh (by decide))) ?_;refine wv (x:=.int .i32 ((1:Nat):Int)) J (qJ J Tryz.underlying71 Tryz.underlying21 (zAc (by omega))) ?_;refine wv (x:=.int .i32 ((1:Nat):Int)) J (jX J) ?_;refine jL ?_;refine jI ?_;refine jB (l:=[0,1,2,3]) J ?_;refine wv (x:=.int .u64 (stt 1 0)) J (zT J) ?_;refine wv (x:=.int .u64 ((0:Nat):Int)) J (kO J J (zBp (by omega) (by decide))) ?_;refine wv (x:=.int .u32 ((0:Nat):Int)) J (qJ J Tryz.underlying71 Tryz.underlying156 (zAd (by omega))) ?_;refine wv (x:=.int .u32 ((0:Nat):Int)) J (jX J) ?_;refine jL ?_;refine jI ?_;refine jI ?_;refine jB (l:=[0,1,2,3,4,5,6,7,8,9]) J ?_;refine wv (x:=.bool true) J (zT J) ?_;refine xH (x:=.int .i64 1) J ⟨_,_,rfl,rfl,rfl⟩ (bk _) J J (zT J) ?_;refine xH (x:=.bool true) J ⟨_,_,rfl,rfl,rfl⟩ (bk _) J J (kO J J (wU (decide_eq_true (by omega)))) ?_;refine wv (x:=.bool true) J (kQ true J J) ?_;refine wv (x:=.bool true) J (zT J) ?_;refine xH (x:=.int .i32 ((1:Nat):Int)) J ⟨_,_,rfl,rfl,rfl⟩ (bk _) J J (zT J) ?_;refine xH (x:=.int .i64 1) J ⟨_,_,rfl,rfl,rfl⟩ (bk _) J J (zT J) ?_;refine xH (x:=.int .i32 1) J ⟨_,_,rfl,rfl,rfl⟩ (bk _) J J (qJ J Tryz.underlying3 Tryz.underlying21 (by decide)) ?_;refine xH (x:=.bool true) J ⟨_,_,rfl,rfl,rfl⟩ (bk _) J J (kO J J (zC1 (decide_eq_true (by omega)))) ?_;refine wv (x:=.bool true) J (kQ true J J) ?_;refine jL ?_;refine vH J ?_;refine jB (l:=[0,1,2,3,4]) J ?_;refine wv (x:=pt W0) J (zT J) ?_;refine wv (x:=pt W0) J (qM J) ?_;refine wv (x:=.pointer (some ⟨W0,1,none⟩)) J (xK J F.fi158_2 F.ti156) ?_;refine jDq J J (bk _) J J Tryz.underlying179 Tryz.underlying174 (by kernel_rfl) (.inr J) ?_;refine jC3 J J (bk _) J J J J E.read ?_;refine jL ?_;refine jI ?_;refine jI ?_;refine jB (l:=[0,1]) J ?_;refine wv (x:=.int .i32 ((1:Nat):Int)) J (zT J) ?_;refine wv (x:=.bool false) J (kO J J (zCx (decide_eq_false (by omega)))) ?_;refine jL ?_;refine kY J ?_;refine qQ ?_;refine jI ?_;refine jI ?_;refine jB (l:=[0,1,2,3,4,5,6,7,8,9,10,11]) J ?_;refine wv (x:=.int .u32 ((0:Nat):Int)) J (zT J) ?_;refine wv (x:=.bool false) J (kO J J (yC (decide_eq_false (by omega)))) ?_;refine wv (x:=.bool false) J (zT J) ?_;refine wo J ?_;refine wo J ?_;refine wv (x:=.bool false) J (kQ false J J) ?_;refine wv (x:=.bool false) J (zT J) ?_;refine wo J ?_;refine wo J ?_;refine wo J ?_;refine wo J ?_;refine wv (x:=.bool false) J (kQ false J J) ?_;refine jL ?_;refine kY J ?_;refine qQ ?_;refine jI ?_;refine jI ?_;refine jB (l:=[0,1,2,3,4,5]) J ?_;refine wv (x:=.int .i32 ((1:Nat):Int)) J (zT J) ?_;refine wv (x:=.bool true) J (kO J J (wU (decide_eq_true (by omega)))) ?_;refine wv (x:=.bool true) J (zT J) ?_;refine wo J ?_;refine wo J ?_;refine wv (x:=.bool true) J (kQ true J J) ?_;refine jL ?_;refine vH J ?_;refine yX ?_;refine z_on E.enable ?_;exact fun a todo ha=>hend _ ⟨rfl,ha.defs,rfl,rfl⟩
 ·
  refine wv (x:=.int .u64 (stt c 0)) J (jX J) ?_;refine jL ?_;refine yX ?_;refine xI J Tryz.func126 (.inr ⟨4,rfl,rfl⟩) J J J h1 ?_;refine wv (x:=.int .u64 (stt c 0)) J (jX J) ?_;refine jL ?_;refine jI ?_;refine jI ?_;refine jB (l:=[0,1,2,3,4,5,6]) J ?_;refine wv (x:=.int .u64 (stt c 0)) J (zT J) ?_;refine wv (x:=.int .u64 0) J (kO J J (zBm (by omega) (by decide))) ?_;refine wv (x:=.bool false) J (kO J J (yC (decide_eq_false (by omega)))) ?_;refine wv (x:=.bool false) J (zT J) ?_;refine wo J ?_;refine wo J ?_;refine wv (x:=.bool false) J (kQ false J J) ?_;refine jL ?_;refine kY J ?_;refine qQ ?_;refine jI ?_;refine jB (l:=[0,1,2,3]) J ?_;refine wv (x:=.int .u64 (stt c 0)) J (zT J) ?_;refine wv (x:=.int .u64 ((c:Nat):Int)) J (zCf (.inr J) J J (zBh (by decide))) ?_;refine wv (x:=.int .i32 ((c:Nat):Int)) J (qJ J Tryz.underlying71 Tryz.underlying21 (zAc (by omega))) ?_;refine wv (x:=.int .i32 ((c:Nat):Int)) J (jX J) ?_;refine jL ?_;refine jI ?_;refine jB (l:=[0,1,2,3]) J ?_;refine wv (x:=.int .u64 (stt c 0)) J (zT J) ?_;refine wv (x:=.int .u64 ((0:Nat):Int)) J (kO J J (zBp (by omega) (by decide))) ?_;refine wv (x:=.int .u32 ((0:Nat):Int)) J (qJ J Tryz.underlying71 Tryz.underlying156 (zAd (by omega))) ?_;refine wv (x:=.int .u32 ((0:Nat):Int)) J (jX J) ?_;refine jL ?_;refine jI ?_;refine jI ?_;refine jB (l:=[0,1,2,3,4,5,6,7,8,9]) J ?_;refine wv (x:=.bool true) J (zT J) ?_;refine xH (x:=.int .i64 1) J ⟨_,_,rfl,rfl,rfl⟩ (bk _) J J (zT J) ?_;refine xH (x:=.bool true) J ⟨_,_,rfl,rfl,rfl⟩ (bk _) J J (kO J J (wU (decide_eq_true (by omega)))) ?_;refine wv (x:=.bool true) J (kQ true J J) ?_;refine wv (x:=.bool true) J (zT J) ?_;refine xH (x:=.int .i32 ((c:Nat):Int)) J ⟨_,_,rfl,rfl,rfl⟩ (bk _) J J (zT J) ?_;refine xH (x:=.int .i64 1) J ⟨_,_,rfl,rfl,rfl⟩ (bk _) J J (zT J) ?_;refine xH (x:=.int .i32 1) J ⟨_,_,rfl,rfl,rfl⟩ (bk _) J J (qJ J Tryz.underlying3 Tryz.underlying21 (by decide)) ?_;refine xH (x:=.bool false) J ⟨_,_,rfl,rfl,rfl⟩ (bk _) J J (kO J J (zC1 (decide_eq_false (by omega)))) ?_;refine wv (x:=.bool false) J (kQ true J J) ?_;refine jL ?_;refine kY J ?_;refine qQ ?_;refine jI ?_;refine jI ?_;refine jB (l:=[0,1]) J ?_;refine wv (x:=.int .i32 ((c:Nat):Int)) J (zT J) ?_;refine wv (x:=.bool false) J (kO J J (zCx (decide_eq_false (by omega)))) ?_;refine jL ?_;refine kY J ?_;refine qQ ?_;refine jI ?_;refine jI ?_;refine jB (l:=[0,1,2,3,4,5,6,7,8,9,10,11]) J ?_;refine wv (x:=.int .u32 ((0:Nat):Int)) J (zT J) ?_;refine wv (x:=.bool false) J (kO J J (yC (decide_eq_false (by omega)))) ?_;refine wv (x:=.bool false) J (zT J) ?_;refine wo J ?_;refine wo J ?_;refine wv (x:=.bool false) J (kQ false J J) ?_;refine wv (x:=.bool false) J (zT J) ?_;refine wo J ?_;refine wo J ?_;refine wo J ?_;refine wo J ?_;refine wv (x:=.bool false) J (kQ false J J) ?_;refine jL ?_;refine kY J ?_;refine qQ ?_;refine jI ?_;refine jI ?_;refine jB (l:=[0,1,2,3,4,5]) J ?_;refine wv (x:=.int .i32 ((c:Nat):Int)) J (zT J) ?_;refine wv (x:=.bool true) J (kO J J (wU (decide_eq_true (by omega)))) ?_;refine wv (x:=.bool true) J (zT J) ?_;refine wo J ?_;refine wo J ?_;refine wv (x:=.bool true) J (kQ true J J) ?_;refine jL ?_;refine vH J ?_;refine yX ?_;refine z_on E.enable ?_;exact fun a todo ha=>hend _ ⟨rfl,ha.defs,rfl,rfl⟩
theorem jB5 (hi:i≠0) {p:Addr} (hcell:v.cell? p=some (.chan (some d0))) (hlt:p.block<v.heap.size):ΦN Tryz.prog (Cp low 158 msg) i Stop v (Wt.enc W0 d0 .new) (G (Frame.enter Tryz.prog 108 #[pt W0,.pointer (some p)] .deferred) [bornF Tryz.prog]):=by
 letI:Sys:=nSys Tryz.prog (Cp low 158 msg) i
 refine zQh Tryz.func108 J J J ?_;refine jI ?_;refine jB (l:=[0]) J ?_;refine zB0 (vs:=[pt W0]) J J (bkD _) J Tryz.func109 (by kernel_rfl) J J J J (fun a1 h1=>?_);refine jI ?_;refine vH J ?_;refine jB (l:=[0]) J ?_;refine jF2 hi J J (bk _) J J J E.disable (fun n=>?_);refine jL ?_;refine zH2 ?_;refine zZ9 (fr':=[(0,pt W0)]) (by repeat (first|exact Sub.nil _|refine Sub.cons J ?_)) ?_;refine jD4 (fun n ih=>?_) n;refine zH2 ?_;refine jI ?_;refine jB (l:=[0,1,2,3,4]) J ?_;refine wv (x:=pt W0) J (zT J) ?_;refine wv (x:=pt W0) J (qM J) ?_;refine wv (x:=pt W0) J (xK J F.fi158_1 F.ti155) ?_;refine zB0 (vs:=[pt W0]) J J (bk _) J Tryz.func128 (by kernel_rfl) J J J J (fun a2 h2=>?_);refine jI ?_;refine jB (l:=[0]) J ?_;refine wv (x:=.int .u64 0) J (jX J) ?_;refine jL ?_;refine jI ?_;refine jB (l:=[0,1,2,3,4]) J ?_;refine wv (x:=pt W0) J (zT J) ?_;refine wv (x:=pt W0) J (qM J) ?_;refine wv (x:=pt W0) J (xK J F.fi155_2 F.ti71) ?_
 refine jEc hi J J (bk _) J J J J E.load ?_ (fun c hc0 hc1 hcn=>?_)
 ·
  refine wv (x:=.int .u64 (stt 0 0)) J (jX J) ?_;refine jL ?_;refine yX ?_;refine xI J Tryz.func128 (.inr ⟨2,rfl,rfl⟩) J J J h2 ?_;refine wv (x:=.int .u64 (stt 0 0)) J (jX J) ?_;refine jL ?_;refine jI ?_;refine jB (l:=[0,1,2,3]) J ?_;refine wv (x:=.int .u64 (stt 0 0)) J (zT J) ?_;refine wv (x:=.int .u64 ((0:Nat):Int)) J (zCf (.inr J) J J (zBh (by decide))) ?_;refine wv (x:=.int .i32 ((0:Nat):Int)) J (qJ J Tryz.underlying71 Tryz.underlying21 (zAc (by omega))) ?_;refine wv (x:=.int .i32 ((0:Nat):Int)) J (jX J) ?_;refine jL ?_;refine jI ?_;refine jB (l:=[0,1,2,3]) J ?_;refine wv (x:=.int .u64 (stt 0 0)) J (zT J) ?_;refine wv (x:=.int .u64 ((0:Nat):Int)) J (kO J J (zBp (by omega) (by decide))) ?_;refine wv (x:=.int .u32 ((0:Nat):Int)) J (qJ J Tryz.underlying71 Tryz.underlying156 (zAd (by omega))) ?_;refine wv (x:=.int .u32 ((0:Nat):Int)) J (jX J) ?_;refine jL ?_;refine jI ?_;refine jI ?_;refine jB (l:=[0,1]) J ?_;refine wv (x:=.int .i32 ((0:Nat):Int)) J (zT J) ?_;refine wv (x:=.bool true) J (kO J J (zC1 (decide_eq_true (by omega)))) ?_;refine jL ?_;refine vH J ?_;refine jI ?_;refine vH J ?_;refine jI ?_;refine jB (l:=[0]) J ?_;refine zWm (q:=.on) (q':=.acq) .enable (by simp) (fun σ ok h=>⟨_,zWq ok h⟩) hi J J (bk _) J J J E.enable ?_;refine jL ?_;refine jB (l:=[0,1,2]) J ?_;refine wv (x:=pt W0) J (zT J) ?_;refine zP5 (q:=.acq) J J (bk _) J J Tryz.underlying172 Tryz.underlying174 (by kernel_rfl) (.inl J) ?_;refine zJn (q:=.acq) (q':=.cls) .acquire (by simp) 0 (fun σ ok h=>⟨_,zR0 ok h⟩) hi J J (bk _) J J J J E.acquire ?_;refine jL ?_;refine jI ?_;refine jI ?_;refine jB (l:=[0,1,2,3,4,5,6,7,8,9,10]) J ?_;refine wv (x:=.int .u32 ((0:Nat):Int)) J (zT J) ?_;refine wv (x:=.bool true) J (kO J J (zC1 (decide_eq_true (by omega)))) ?_;refine wv (x:=.bool true) J (zT J) ?_;refine xH (x:=.int .u64 (stt 0 0)) J ⟨_,_,rfl,rfl,rfl⟩ (bk _) J J (zT J) ?_;refine xH (x:=.int .u64 0) J ⟨_,_,rfl,rfl,rfl⟩ (bk _) J J (kO J J (zBm (by omega) (by decide))) ?_;refine xH (x:=.bool false) J ⟨_,_,rfl,rfl,rfl⟩ (bk _) J J (kO J J (yC (decide_eq_false (by omega)))) ?_;refine wv (x:=.bool false) J (kQ true J J) ?_;refine wv (x:=.bool false) J (zT J) ?_;refine wo J ?_;refine wo J ?_;refine wv (x:=.bool false) J (kQ false J J) ?_;refine jL ?_;refine kY J ?_;refine qQ ?_;refine yX ?_;refine xI J Tryz.func109 (.inl ⟨rfl,rfl⟩) J J J h1 ?_;refine jL ?_;refine jB (l:=[0,1]) J ?_;refine zWg J (bkD _) J J J F.one149 hcell hlt ?_;refine zRx hi J J (bkD _) J J J ?_;refine jL ?_;refine zD9 ?_;exact zDj Tryz.func108 J
 ·
  refine wv (x:=.int .u64 (stt c 0)) J (jX J) ?_;refine jL ?_;refine yX ?_;refine xI J Tryz.func128 (.inr ⟨2,rfl,rfl⟩) J J J h2 ?_;refine wv (x:=.int .u64 (stt c 0)) J (jX J) ?_;refine jL ?_;refine jI ?_;refine jB (l:=[0,1,2,3]) J ?_;refine wv (x:=.int .u64 (stt c 0)) J (zT J) ?_;refine wv (x:=.int .u64 ((c:Nat):Int)) J (zCf (.inr J) J J (zBh (by decide))) ?_;refine wv (x:=.int .i32 ((c:Nat):Int)) J (qJ J Tryz.underlying71 Tryz.underlying21 (zAc (by omega))) ?_;refine wv (x:=.int .i32 ((c:Nat):Int)) J (jX J) ?_;refine jL ?_;refine jI ?_;refine jB (l:=[0,1,2,3]) J ?_;refine wv (x:=.int .u64 (stt c 0)) J (zT J) ?_;refine wv (x:=.int .u64 ((0:Nat):Int)) J (kO J J (zBp (by omega) (by decide))) ?_;refine wv (x:=.int .u32 ((0:Nat):Int)) J (qJ J Tryz.underlying71 Tryz.underlying156 (zAd (by omega))) ?_;refine wv (x:=.int .u32 ((0:Nat):Int)) J (jX J) ?_;refine jL ?_;refine jI ?_;refine jI ?_;refine jB (l:=[0,1]) J ?_;refine wv (x:=.int .i32 ((c:Nat):Int)) J (zT J) ?_;refine wv (x:=.bool false) J (kO J J (zC1 (decide_eq_false (by omega)))) ?_;refine jL ?_;refine kY J ?_;refine qQ ?_;refine jI ?_;refine jB (l:=[0,1,2,3,4,5,6]) J ?_;refine wv (x:=pt W0) J (zT J) ?_;refine wv (x:=pt W0) J (qM J) ?_;refine wv (x:=pt W0) J (xK J F.fi158_1 F.ti155) ?_;refine wv (x:=.int .u64 (stt c 0)) J (zT J) ?_;refine wv (x:=.int .u64 (stt c 0)) J (zT J) ?_;refine wv (x:=.int .u64 (stt c 1)) J (kO J J (jDr (by omega))) ?_;refine zB0 (vs:=[pt W0,.int .u64 (stt c 0),.int .u64 (stt c 1)]) J J (bk _) J Tryz.func134 (by kernel_rfl) J J J J (fun a3 h3=>?_);refine jI ?_;refine jB (l:=[0]) J ?_;refine wv (x:=.bool false) J (jX J) ?_;refine jL ?_;refine jI ?_;refine jB (l:=[0,1,2,3,4,5,6]) J ?_;refine wv (x:=pt W0) J (zT J) ?_;refine wv (x:=pt W0) J (qM J) ?_;refine wv (x:=pt W0) J (xK J F.fi155_2 F.ti71) ?_;refine wv (x:=.int .u64 (stt c 0)) J (zT J) ?_;refine wv (x:=.int .u64 (stt c 1)) J (zT J) ?_
  refine jFk hi J J (bk _) J J J J J J E.cas ?_ ?_
  ·
   refine wv (x:=.bool true) J (jX J) ?_;refine jL ?_;refine yX ?_;refine xI J Tryz.func134 (.inr ⟨6,rfl,rfl⟩) J J J h3 ?_;refine jL ?_;refine vH J ?_;refine jI ?_;refine jI ?_;refine jB (l:=[0,1,2,3]) J ?_;refine wv (x:=.bool true) J (zT J) ?_;refine xH (x:=.int .u32 ((0:Nat):Int)) J ⟨_,_,rfl,rfl,rfl⟩ (bk _) J J (zT J) ?_;refine xH (x:=.bool true) J ⟨_,_,rfl,rfl,rfl⟩ (bk _) J J (kO J J (zC1 (decide_eq_true (by omega)))) ?_;refine wv (x:=.bool true) J (kQ true J J) ?_;refine jL ?_;refine vH J ?_;refine jB (l:=[0,1,2,3,4]) J ?_;refine wv (x:=pt W0) J (zT J) ?_;refine wv (x:=pt W0) J (qM J) ?_;refine wv (x:=.pointer (some ⟨W0,1,none⟩)) J (xK J F.fi158_2 F.ti156) ?_;refine zP5 (q:=.writ) J J (bk _) J J Tryz.underlying179 Tryz.underlying174 (by kernel_rfl) (.inr J) ?_;refine zJn (q:=.writ) (q':=.sleep) .write (by simp) 1 (fun σ ok h=>⟨_,zX4 ok h⟩) hi J J (bk _) J J J J E.write ?_;refine jL ?_;refine jI ?_;refine jB (l:=[0]) J ?_;refine wv (x:=.bool false) J (jX J) ?_;refine jL ?_;refine jI ?_;refine jI ?_;refine jB (l:=[0,1,2,3,4,5]) J ?_;refine wv (x:=.int .u64 (stt c 0)) J (zT J) ?_;refine wv (x:=.int .u64 0) J (kO J J (zBm (by omega) (by decide))) ?_;refine wv (x:=.bool false) J (kO J J (yC (decide_eq_false (by omega)))) ?_;refine wv (x:=.bool false) J (zT J) ?_;refine wo J ?_;refine wv (x:=.bool false) J (kQ false J J) ?_;refine jL ?_;refine kY J ?_;refine qQ ?_;refine jI ?_;refine jB (l:=[0,1,2,3,4]) J ?_;refine wv (x:=pt W0) J (zT J) ?_;refine wv (x:=pt W0) J (qM J) ?_;refine wv (x:=.pointer (some ⟨W0,1,none⟩)) J (xK J F.fi158_2 F.ti156) ?_;refine wv (x:=.bool false) J (zT J) ?_;refine jFw (xs:=[_]) hi J J (bk _) J J J J E.semacq ?_;refine jL ?_;refine jI ?_;refine jB (l:=[0,1,2,3,4,5]) J ?_;refine wv (x:=pt W0) J (zT J) ?_;refine wv (x:=pt W0) J (qM J) ?_;refine wv (x:=pt W0) J (xK J F.fi158_1 F.ti155) ?_;refine zB0 (vs:=[pt W0]) J J (bk _) J Tryz.func128 (by kernel_rfl) J J J J (fun a4 h4=>?_);refine jI ?_;refine jB (l:=[0]) J ?_;refine wv (x:=.int .u64 0) J (jX J) ?_;refine jL ?_;refine jI ?_;refine jB (l:=[0,1,2,3,4]) J ?_;refine wv (x:=pt W0) J (zT J) ?_;refine wv (x:=pt W0) J (qM J) ?_;refine wv (x:=pt W0) J (xK J F.fi155_2 F.ti71) ?_;refine jCs hi J J (bk _) J J J J E.load ?_;refine wv (x:=.int .u64 (stt 0 0)) J (jX J) ?_;refine jL ?_;refine yX ?_;refine xI J Tryz.func128 (.inr ⟨2,rfl,rfl⟩) J J J h4 ?_;refine wv (x:=.bool false) J (kO J J (yC (by decide))) ?_;refine wv (x:=.bool false) J (jX J) ?_;refine jL ?_;refine jI ?_;refine vH J ?_;refine jI ?_;refine jB (l:=[0]) J ?_;refine zWm (q:=.on) (q':=.acq) .enable (by simp) (fun σ ok h=>⟨_,zWq ok h⟩) hi J J (bk _) J J J E.enable ?_;refine jL ?_;refine jB (l:=[0,1,2]) J ?_;refine wv (x:=pt W0) J (zT J) ?_;refine zP5 (q:=.acq) J J (bk _) J J Tryz.underlying172 Tryz.underlying174 (by kernel_rfl) (.inl J) ?_;refine zJn (q:=.acq) (q':=.cls) .acquire (by simp) 0 (fun σ ok h=>⟨_,zR0 ok h⟩) hi J J (bk _) J J J J E.acquire ?_;refine jL ?_;refine jI ?_;refine jI ?_;refine jB (l:=[0]) J ?_;refine wv (x:=.bool false) J (zT J) ?_;refine jL ?_;refine kY J ?_;refine qQ ?_;refine yX ?_;refine xI J Tryz.func109 (.inl ⟨rfl,rfl⟩) J J J h1 ?_;refine jL ?_;refine jB (l:=[0,1]) J ?_;refine zWg J (bkD _) J J J F.one149 hcell hlt ?_;refine zRx hi J J (bkD _) J J J ?_;refine jL ?_;refine zD9 ?_;exact zDj Tryz.func108 J
  ·
   refine wv (x:=.bool false) J (jX J) ?_;refine jL ?_;refine yX ?_;refine xI J Tryz.func134 (.inr ⟨6,rfl,rfl⟩) J J J h3 ?_;refine jL ?_;refine kY J ?_;refine qQ ?_;refine zMs ?_;exact zZ9 (fr':=[(0,pt W0)]) (by repeat (first|exact Sub.nil _|refine Sub.cons J ?_)) (ih (c-1) (by omega))
end
end
section
open Go.Conc
theorem jFu {low m W0 f0 d0 e0:Nat} {msg:Nat->Value} {ow:List Nat} {w:World} (hm:m+1<1000000) (hout:w.output=gout (Mn.enc W0 f0 d0 e0 ow (.hire 0 m))) :
  @Calls Tryz.prog (zSys Tryz.prog (Cp low 158 msg)) 105 #[pt W0,.int .i64 1] w fun e w'=>e=.returned (.tuple #[])∧w'=saying w (gout (Mn.enc W0 f0 d0 e0 ow (.hire 4 m))):=by
 intro cs
 letI:Sys:=zSys Tryz.prog (Cp low 158 msg)
 have h:=jDj (low:=low) (msg:=msg) (W0:=W0) (f0:=f0) (d0:=d0) (e0:=e0) (ow:=ow) (m:=m) (v:=w) (cs:=cs)
  (Stop:=fun g v'=>∃e fr v₀,(e=.returned (.tuple #[])∧v₀=saying w (gout (Mn.enc W0 f0 d0 e0 ow (.hire 4 m))))∧Rl v₀ v'∧g=G fr cs∧fr.fn=105∧Leaving Tryz.prog fr v' e) hm (fun fr h1=>by
   obtain⟨h1,h2,h3,h4⟩:=h1;refine Gs.stop fun v₁ hv=>⟨_,fr,_,⟨rfl,rfl⟩,hv,rfl,h4,h1,h2,h3,_,by rw[h4];exact Tryz.func105,?_⟩;have hr:Tryz.f105.results=#[]:=rfl
   have h5:results Tryz.f105 fr.tmps=pure (.tuple #[]):=by
    unfold results;rw[hr];simp
   refine⟨?_,fun v₂ _=>?_⟩
   ·rw[h5];exact vR _
   ·rw[h5];rfl)
 unfold ΦZ at h;have e:saying w (gout (Mn.enc W0 f0 d0 e0 ow (.hire 0 m)))=w:=by rw[<-hout];rfl
 rw[e] at h;exact h
end
section
variable [I:Sys]
variable {dst:Option Tmp} {l l' z:List Value} {m n:Nat} {parts:Array (Nat×Operand)} {pl:List (Nat×Nat)} {t:TypeId} {vs:LV}
def Places (P:Program) (t:TypeId) (pl:List (Nat×Nat)):Prop :=
 (∃fs,P.underlying t=some (.struct fs)∧fs.toList.mapM (fun f=>(P.info? f.type).map fun i=>(f.offset,i.size))=some pl) ∨
 (∃n e s,P.underlying t=some (.array n e)∧(P.info? e).map (·.size)=some s∧pl=(List.range n).map (fun j=>(j*s,s)))
inductive Filled (pl:List (Nat×Nat)):List Value->List (Nat×Value)->List Value->Prop
 | nil (z:List Value):Filled pl z [] z
 | cons {i off:Nat} {v:Value} {z lv l:List Value} {ps:LV} [h:Cells v lv] (hp:pl[i]?=some (off,lv.length)) (hb:Nat.ble (off+lv.length) z.length=true)
   (h':Filled pl (z.take off++lv++z.drop (off+lv.length)) ps l):Filled pl z ((i,v)::ps) l
theorem zIw {place:Nat->Option (Nat×Nat)} (hpl:∀i q,pl[i]?=some q->place i=some q) {z l:List Value} {ps:LV} (h:Filled pl z ps l):Instr.fill place z.toArray ps=some l.toArray:=by
 induction h with
 | nil z=>rfl
 | @cons i off v z lv l ps hc hp hb _ ih =>
  have hb':off+lv.length<=z.length:=by simpa[Nat.ble_eq] using hb
  unfold Instr.fill;rw[hpl _ _ hp];simp only[hc.eq];rw[if_neg (by simp;omega)];have hfold:=zMb lv z.toArray off 0 (by simp;omega);simp only[Nat.add_zero] at hfold
  have hz:lv.toArray.zipIdx.foldl (fun cs (q:Value×Nat)=>cs.setIfInBounds (off+q.2) q.1) z.toArray=(z.take off++lv++z.drop (off+lv.length)).toArray:=by
   apply Array.ext'
   rw[<-Array.foldl_toList];simpa using hfold
  rw[show (fun (cs:Array Value) (x:Value×Nat)=>match x with|(c,j)=>cs.setIfInBounds (off+j) c)=(fun (cs:Array Value) (q:Value×Nat)=>cs.setIfInBounds (off+q.2) q.1) from rfl,hz];exact ih
theorem zMq {P:Program} {ps:LV} (hi:TI P t (.agg z.toArray) n m) (hpl:Places P t pl) (h:Filled pl z ps l) (w:World) :
  (Instr.build t ps.toArray).run P w=.ok (.agg l.toArray) w:=by
 obtain⟨i,hi,hz,_⟩:=hi;refine run_build w t _ _ ?_;unfold Program.built
 rcases hpl with ⟨fs,hu,hfs⟩|⟨k,e,s,hu,hs,rfl⟩
 ·have hf:=zIw (place:=fun i=>pl.toArray[i]?) (fun i q hq=>by simpa using hq) h;simp only[hi,hu,hz,hfs];exact hf
 ·obtain⟨j,hj,hjs⟩:=Option.map_eq_some_iff.1 hs
  have hf:=zIw (place:=fun i=>some (i*s,s)) (fun i q hq=>by
   rw[List.getElem?_map] at hq;obtain⟨a,ha,hq⟩:=Option.map_eq_some_iff.1 hq
   have hai:a=i:=by
    rcases Nat.lt_or_ge i k with h1|h1
    ·rw[List.getElem?_range h1] at ha;exact (Option.some.inj ha).symm
    ·rw[List.getElem?_eq_none (by simpa using h1)] at ha;cases ha
   rw[<-hq,hai]) h
  simp only[hi,hu,hz,hj,hjs];exact hf
section
variable {C:Ctx} {fr:LV} {hp hp':List Res} {a:Act} {w:World} {ops:Array Oper} {Q:QT} {rest:List Oper}
 {d:Nat} {ty:TypeId} {pos:String} {after:Array Edge}
theorem kM (hd:Nat.blt d C.N=true)
  (hx:parts.toList.map (fun q=>(q.1,ev fr q.2))=vs.map (fun q=>(q.1,some q.2))) (hi:TI C.P t (.agg z.toArray) n m) (hpl:Places C.P t pl) (h:Filled pl z vs l) (hl:l=l')
  (k:Lst C ops Q rest ((d,.agg l'.toArray)::fr) hp):Lst C ops Q (⟨some d,.build t parts,ty,pos,after,none⟩::rest) fr hp:=by
 subst hl;exact zVk hd hx (zMq hi hpl h) k
theorem vF
  (hx:parts.toList.map (fun q=>(q.1,ev fr q.2))=vs.map (fun q=>(q.1,some q.2))) (hi:TI C.P t (.agg z.toArray) n m) (hpl:Places C.P t pl) (h:Filled pl z vs l) (hl:l=l') :
  Yld C ⟨dst,.build t parts,ty,pos,after,none⟩ fr hp (.agg l'.toArray):=by
 subst hl;refine⟨rfl,fun a w ha=>⟨zKe ..,?_⟩⟩
 have h':parts.map (fun (i,x)=>(i,a.eval x))=vs.toArray:=by
  have:∀(l:List (Nat×Operand)) (vs:LV),l.map (fun q=>(q.1,ev fr q.2))=vs.map (fun q=>(q.1,some q.2))->l.map (fun (q:Nat×Operand)=>(q.1,a.eval q.2))=vs:=by
   intro l
   induction l with
   | nil=>intro vs h;cases vs with
    | nil=>rfl
    | cons=>simp at h
   | cons x l ih =>
    intro vs h
    cases vs with
    | nil=>simp at h
    | cons v vs =>
     simp only[List.map_cons,List.cons.injEq,Prod.mk.injEq] at h;rw[List.map_cons,ha.eval h.1.2,ih vs h.2,h.1.1]
  obtain⟨l⟩:=parts;simp only[List.map_toArray];rw[show (fun (x:Nat×Operand)=>match x with|(i,x)=>(i,a.eval x))=(fun (q:Nat×Operand)=>(q.1,a.eval q.2)) from rfl,this l vs hx]
 simp only[execOp,h',Sem.run_bind,zMq hi hpl h,Result.andThen_ok,Sem.run_pure]
theorem zLn {op:BinOp} {x y:Operand} {t':TypeId} {u u':Value} {v:Value} [htb:TB u u'] (hx:ev fr x=some u) (hy:ev fr y=some u')
  (hr:∀w:World,(do eqGuard op t x y u u';binOp op t u u':Sem Value).run C.P w=.ok v w):Yld C ⟨dst,.binOp op t x y t',ty,pos,after,none⟩ fr hp v:=by
 refine⟨rfl,fun a w ha=>⟨kU _ (by rw[ha.eval hx,ha.eval hy];exact htb.tame ..),?_⟩⟩;have:=hr w;simp only[execOp,ha.eval hx,ha.eval hy,Sem.run_bind] at this ⊢;rw[this];rfl
theorem zHa (ha:At C fr hp a w) {j t:Nat} (hj:(ops[j]?).bind (·.dst)=some t) (hv:look fr t=some undef):yielded ops a.tmps j=none:=by
 have h:=ha.slots t _ hv;unfold yielded;rw[hj];simp only[Option.bind_some]
 cases hx:a.tmps[t]? with
 | none=>rfl
 | some u =>
  rw[Array.getD_eq_getD_getElem?,hx] at h;have hu:u=undef:=h;rw[hu];rfl
theorem kE {op:Op} {j t d:Nat} {b:Bool} (hd:Nat.blt d C.N=true) (hj:(ops[j]?).bind (·.dst)=some t) (hv:look fr t=some undef)
  (k:Lst C ops Q rest ((d,undef)::fr) hp):Lst C ops Q (⟨some d,op,ty,pos,after,some (j,b)⟩::rest) fr hp:=by
 intro a w ha;simp only[wpList]
 have e:Region.wanted ⟨some d,op,ty,pos,after,some (j,b)⟩ (yielded ops a.tmps)=false:=by
  simp[Region.wanted,zHa ha hj hv]
 rw[if_neg (by rw[e];simp)];exact k _ _ (ha.put (kK hd) _)
inductive Dk
 | b (n:Nat)
 | q (A:Option Addr)
 | r (A:Option Addr)
class Drp (bs:List Dk) (hp:List Res) (hp':outParam (List Res)):Prop where
 sub:hp'.Sublist hp
instance Drp.nil (hp:List Res):Drp [] hp hp:=⟨List.Sublist.refl _⟩
class Drp1 (b:Dk) (hp:List Res) (hp':outParam (List Res)):Prop where
 sub:hp'.Sublist hp
instance Drp1.tail (b:Dk) (x:Res) (l l':List Res) [h:Drp1 b l l']:Drp1 b (x::l) (x::l'):=⟨h.sub.cons_cons x⟩
instance Drp1.b (b:Nat) (o:Obj) (l:List Res):Drp1 (.b b) (.blk b o::l) l:=⟨List.Sublist.cons _ (List.Sublist.refl _)⟩
instance Drp1.r (A:Option Addr) (e size n c:Nat) (xs:List Value) (l:List Res):Drp1 (.r A) (.row e size A n c xs::l) l:=⟨List.Sublist.cons _ (List.Sublist.refl _)⟩
instance Drp.cons (b:Dk) (bs:List Dk) (l l' l'':List Res) [h:Drp1 b l l'] [h':Drp bs l' l'']:Drp (b::bs) l l'':=⟨h'.sub.trans h.sub⟩
theorem jS {id:Nat} {l:List Oper} {hpS:List Res} (bs:List Dk) (hm:C.P.follows .mixedOrders=true) (n:Nat) (hn:l.length=n) (lst:List Bool) (hl:Array.replicate n false=lst.toArray) [hs:Drp bs hp hpS] (h:Any C l.toArray Q hpS n lst.toArray fr hp) :
  Cod C (.region id l.toArray true) Q fr hp:=zMh hm n hn lst hl hs.sub h
theorem zI6 {fn:Func} {R:Ending->World->Prop} {ch:List PanicEntry} (hds:C.ds=[]) (k:∀a w,At C fr hp a w->R (.panicked ch) w):Ex C (bodyPost C.P fn R) (.panic ch) fr hp :=
 fun a w ha=>⟨ha.defs.trans hds,k a w ha⟩
end
end
section
variable {P:Program} {b:Bool} {dst:Option Tmp} {j t:Nat} {l m:List Res} {n:Int} {o:Oper} {op:Op} {p:Prop} {v:Value} {x:Operand} {y:Code} {α:Type}
theorem sbl (h:l.Sublist m:=by repeat (first|exact List.Sublist.refl _|exact List.nil_sublist _|exact List.sublist_append_left _ _|refine List.Sublist.cons_cons _ ?_|refine List.Sublist.cons _ ?_|refine (List.Sublist.refl _).append ?_)):l.Sublist m:=h
theorem sbn {l m:LV} (h:Sub l m:=by repeat (first|exact Sub.nil _|refine Sub.cons rfl ?_)):Sub l m:=h
theorem pkk (h:Pck l m:=by repeat (first|exact Pck.nil _|exact Pck.refl _|(apply Pck.cons;focus ((repeat (first|exact Rem.here _|apply Rem.there));done))|refine Pck.skip _ ?_)):Pck l m:=h
theorem zC [I:Sys] {C:Ctx} {fr:LV} {hp hpS:List Res} {ops:Array Oper} {Q:QT} {d fuel:Nat} {listed:Array Bool} (i:Nat) (hi:ops[i]?=some o) (hdst:o.dst=some d) (hd:Nat.blt d C.N=true)
  (y:Yld C o fr hpS v) (k:Any C ops Q hpS fuel (listed.setIfInBounds i true) ((d,v)::fr) hp) (hns:Region.noSelect ops=true:=by kernel_rfl) (hf:Region.free .any ops listed i=true:=by kernel_rfl) (hr:(Region.ready .any ops listed).contains i=true:=by kernel_rfl)
  (hs:hpS.Sublist hp:=by repeat (first|exact List.Sublist.refl _|exact List.nil_sublist _|exact List.sublist_append_left _ _|refine List.Sublist.cons_cons _ ?_|refine List.Sublist.cons _ ?_|refine (List.Sublist.refl _).append ?_)):Any C ops Q hpS (fuel+1) listed fr hp :=
 zAo i hi hdst hd hns hf hr hs y J k
theorem om (h:p:=by omega):p:=h
theorem kr (h:p:=by kernel_rfl):p:=h
theorem tdo (h:p:=by (try dsimp only);omega):p:=h
section
variable [I:Sys] {C:Ctx} {fr:LV} {hp:List Res} {ops:Array Oper} {Q Q':QT} {rest:List Oper} {d:Nat} {ty:TypeId} {pos:String} {after:Array Edge}
theorem lnx (h:Cod C y Q fr hp):Lst C ops (Exit.then (wp C.P y Q) Q) [] fr hp:=zB (zD h)
theorem csr {id:Nat} {l:List Oper} (h:Lst C l.toArray (Exit.then (wp C.P y Q) Q) l fr hp):Cod C (Code.seq (.region id l.toArray false) y) Q fr hp:=zG (zL h)
theorem lax (hd:Nat.blt d C.N=true) (hx:ev fr x=some v) (k:Cod C y Q ((d,v)::fr) hp):Lst C ops (Exit.then (wp C.P y Q) Q) [⟨some d,.assign x,ty,pos,after,none⟩] fr hp:=zF hd hx (lnx k)
end
theorem nsl {l:List α}:[].Sublist l:=List.nil_sublist l
section
variable [I:Sys] {C:Ctx} {fr:LV} {hp hpS:List Res} {ops:Array Oper} {Q:QT} {fuel:Nat} {listed:Array Bool}
theorem anx (h:Any C ops Q [] fuel listed fr hp):Ex C (Exit.then (Nxt C ops Q [] fuel listed) (Lax (OnlyN Q))) .normal fr hp:=zPq nsl h
theorem anb (h:Any C ops Q hpS fuel listed fr hp) (hs:hpS.Sublist hp:=by repeat (first|exact List.Sublist.refl _|exact List.nil_sublist _|exact List.sublist_append_left _ _|refine List.Sublist.cons_cons _ ?_|refine List.Sublist.cons _ ?_|refine (List.Sublist.refl _).append ?_)):Ex C (Exit.then (Nxt C ops Q hpS fuel listed) (Lax (OnlyN Q))) .normal fr hp:=zPq hs h
theorem adn (h:Ex C Q .normal fr hp) (h0:Region.ready .any ops listed=[]:=by kernel_rfl):Any C ops Q hpS fuel listed fr hp:=zZu rfl h0 h
theorem an1 (i:Nat) (hi:ops[i]?=some o) (h:Lst C ops (Exit.then (Nxt C ops Q hpS fuel (listed.setIfInBounds i true)) (Lax (OnlyN Q))) [o] fr hp) (hr:Region.ready .any ops listed=[i]:=by kernel_rfl):Any C ops Q hpS (fuel+1) listed fr hp:=jA8 i hr hi rfl h
end
abbrev fl (n:Nat):List Bool:=List.replicate n false
theorem rsO [I:Sys] {C:Ctx} {fr:LV} {hp:List Res} {fn:Func} (h:fn.results=#[.tmp t]) (hv:look fr t=some v):∀(a:Act) (w:World),At C fr hp a w->ResV C.P fn a.tmps v w:=fun _ _ ha=>jAi h hv ha
theorem bdO [I:Sys] {t:TypeId} {m:Int} (h : -9223372036854775808<=m+n:=by omega) (h':m+n<9223372036854775808:=by omega):∀w:World,(binOp .add t (.int .i64 m) (.int .i64 n)).run P w=.ok (.int .i64 (m+n)) w:=fun w=>zAw w (by rw[IntKind.wrap_i64];omega)
theorem bdP [I:Sys] {t:TypeId} {m r:Int} (h : -9223372036854775808<=m+n:=by omega) (h':m+n<9223372036854775808:=by omega) (e:m+n=r:=by omega):∀w:World,(binOp .add t (.int .i64 m) (.int .i64 n)).run P w=.ok (.int .i64 r) w:=fun w=>zAw w (by rw[IntKind.wrap_i64];omega)
abbrev V4 (a b c d:Nat):List Value:=[.int .i64 (a:Int),.int .i64 (b:Int),.int .i64 (c:Int),.int .u8 (d:Int)]
abbrev CA (fA:Option Addr) (n fc kiln:Nat) (dA:Option Addr) (m dc:Nat):List Value:=[.slice fA n fc,.int .i64 (kiln:Int),.slice dA m dc]
abbrev CG (fA:Option Addr) (n fc kiln:Nat) (dA:Option Addr) (m dc:Nat):Value:=.agg (CA fA n fc kiln dA m dc).toArray
abbrev CO (fA:Option Addr) (n fc kiln:Nat) (dA:Option Addr) (m dc t:Nat):Obj:=.cells (CA fA n fc kiln dA m dc).toArray t (0,0)
theorem zo1 {l:List α} {n:Nat} {x:Option α} (h:l[n]?=x):l[0+n*1]?=x:=by rw[Nat.mul_one,Nat.zero_add];exact h
abbrev CY (fA:Option Addr) (n fc:Nat) (kz:Int) (dA:Option Addr) (m dc:Nat):List Value:=[.slice fA n fc,.int .i64 kz,.slice dA m dc]
abbrev CF (p g n:Nat) (w:Bool):List Value:=[.int .i64 (p:Int),.int .i64 (g:Int),.int .i64 (n:Int),.bool w]
section
variable [I:Sys] {C:Ctx} {fr:LV} {hp hpS:List Res} {ops:Array Oper} {Q:QT} {d fuel:Nat} {listed:Array Bool} {ty:TypeId} {pos:String} {after:Array Edge}
theorem ato (i:Nat) (hi:ops[i]?=some ⟨dst,op,ty,pos,after,some (j,b)⟩) (hj:(ops[j]?).bind (·.dst)=some t) (hv:look fr t=some (.bool b)) (hdst:dst=some d) (hd:Nat.blt d C.N=true)
  (y:Yld C ⟨dst,op,ty,pos,after,none⟩ fr hpS v) (k:Any C ops Q hpS fuel (listed.setIfInBounds i true) ((d,v)::fr) hp) (hns:Region.noSelect ops=true:=by kernel_rfl) (hf:Region.free .any ops listed i=true:=by kernel_rfl) (hr:(Region.ready .any ops listed).contains i=true:=by kernel_rfl)
  (hs:hpS.Sublist hp:=by repeat (first|exact List.Sublist.refl _|exact List.nil_sublist _|exact List.sublist_append_left _ _|refine List.Sublist.cons_cons _ ?_|refine List.Sublist.cons _ ?_|refine (List.Sublist.refl _).append ?_)):Any C ops Q hpS (fuel+1) listed fr hp :=
 zI2 i hi hj hv hdst hd hns hf hr hs y J k
theorem atf (i:Nat) (hi:ops[i]?=some ⟨dst,op,ty,pos,after,some (j,b)⟩) (hj:(ops[j]?).bind (·.dst)=some t) (hv:look fr t=some (.bool (!b))) (hdst:dst=some d) (hd:Nat.blt d C.N=true)
  (k:Any C ops Q hpS fuel (listed.setIfInBounds i true) ((d,undef)::fr) hp) (hns:Region.noSelect ops=true:=by kernel_rfl) (hf:Region.free .any ops listed i=true:=by kernel_rfl) (hr:(Region.ready .any ops listed).contains i=true:=by kernel_rfl)
  (hs:hpS.Sublist hp:=by repeat (first|exact List.Sublist.refl _|exact List.nil_sublist _|exact List.sublist_append_left _ _|refine List.Sublist.cons_cons _ ?_|refine List.Sublist.cons _ ?_|refine (List.Sublist.refl _).append ?_)):Any C ops Q hpS (fuel+1) listed fr hp :=
 zPf i hi hj hv hdst hd hns hf hr hs J k
theorem anm (i:Nat) (hi:ops[i]?=some ⟨some d,.move x,ty,pos,after,none⟩) (hd:Nat.blt d C.N=true) (hx:ev fr x=some v)
  (k:Any C ops Q hpS fuel (listed.setIfInBounds i true) ((d,v)::fr) hp) (hns:Region.noSelect ops=true:=by kernel_rfl) (hf:Region.free .any ops listed i=true:=by kernel_rfl) (hr:(Region.ready .any ops listed).contains i=true:=by kernel_rfl)
  (hs:hpS.Sublist hp:=by repeat (first|exact List.Sublist.refl _|exact List.nil_sublist _|exact List.sublist_append_left _ _|refine List.Sublist.cons_cons _ ?_|refine List.Sublist.cons _ ?_|refine (List.Sublist.refl _).append ?_)):Any C ops Q hpS (fuel+1) listed fr hp :=
 zC i hi J hd (kF hx) k hns hf hr hs
end
end
section
variable [I:Sys]
theorem zI8 (n:Nat) (h:n<18446744073709551616):IntKind.u64.wrap (n:Int)=n:=by
 simp[IntKind.wrap,IntKind.bits,IntKind.signed];omega
theorem kC (n:Int) (h : -9223372036854775808<=n) (h':n<9223372036854775808):IntKind.i64.wrap n=n:=by
 rw[IntKind.wrap_i64];omega
theorem zM3 (a:Nat) (h:a<18446744073709551616):(BitVec.ofInt IntKind.u64.bits (a:Int)).toNat=a:=by
 rw[BitVec.ofInt_natCast,BitVec.toNat_ofNat];exact Nat.mod_eq_of_lt h
theorem zDk (a b:Nat) (ha:a<18446744073709551616) (hb:b<18446744073709551616):IntKind.u64.wrap ((BitVec.ofInt IntKind.u64.bits (a:Int) ^^^ BitVec.ofInt IntKind.u64.bits (b:Int)).toNat:Int)=((a ^^^ b:Nat):Int):=by
 rw[BitVec.toNat_xor,zM3 a ha,zM3 b hb];exact zI8 _ (show _<2^64 from Nat.xor_lt_two_pow ha hb)
theorem zDy (a n k:Nat):(a:Int).fdiv (2^(min ((n:Int)).toNat k))=((a >>> (min n k):Nat):Int):=by
 rw[Int.toNat_natCast,Nat.shiftRight_eq_div_pow,Int.natCast_ediv,Int.fdiv_eq_ediv_of_nonneg]
 ·simp
 ·exact Int.pow_nonneg (by decide)
def ints (l:List Nat):List Value:=l.map fun (n:Nat)=>Value.int .i64 (n:Int)
theorem zWp (l:List Nat) (n:Nat):ints (l++[n])=ints l++[.int .i64 (n:Int)]:=by simp[ints]
theorem zFv (l:List Nat):(ints l).length=l.length:=by simp[ints]
def icell (n:Int):List Value:=[.int .i64 n]
end
section
open Go.Conc
variable {a:Act} {assign body:Code} {b:Frame} {cs:List Frame} {f:FuncId} {g:Operand} {k:List Item} {l:Nat} {main:Bool} {ps:Array Tmp} {v v':World}
def roundPost (P:Program) (l:Nat) (R:Ending->World->Prop):Exit->Act->World->Prop
 | .normal,_,v=>∀v₁,Rl v v₁->∃x v',(Instr.endRound l none).run P v₁=.ok x v'∧R (.returned x) v'
 | .ret,_,v=>∀v₁,Rl v v₁->∃x v',(Instr.endRound l (some .ret)).run P v₁=.ok x v'∧R (.returned x) v'
 | .exit id,_,v=>∀v₁,Rl v v₁->∃x v',(Instr.endRound l (some (.exit id))).run P v₁=.ok x v'∧R (.returned x) v'
 | _,_,_=>False
section
variable {P:Program} [I:Sys]
omit I in
theorem zEb (l:Nat):Tame P (Instr.beginRound l):=Tame.bind (zBy l) fun r=>Tame.bind ⟨trivial,trivial⟩ fun _=>by
 split<;>first|trivial|exact kG _
omit I in
theorem zHr (l:Nat):Tame P (Instr.endLoop l):=Tame.bind (zBy l) fun r=>by
 show Tame P (if r.state==.busy then _ else _)
 split
 ·exact Tame.bind (kG _) fun _=>Tame.bind ⟨trivial,trivial⟩ fun _=>trivial
 ·exact Tame.bind ⟨trivial,trivial⟩ fun _=>trivial
theorem Stp.begin (hb:b.roundOf=some l) (hk:b.kind≠.early) (hr:(Instr.beginRound l).run P v=.ok () v') :
  ∃es,Stp P main (G (b.atR a (.beginRound::k)) cs) v (G (b.atR a k) cs) v' es:=by
 have hk':(b.kind==CallKind.early)=false:=by simpa using hk
 have ht:Tame P (do Instr.beginRound l;pure .skip:Sem Next):=Tame.bind (zEb l) fun _=>trivial;have hr':(do Instr.beginRound l;pure .skip:Sem Next).run P v=.ok .skip v':=by simp[hr]
 refine⟨seen P b.fn ((do Instr.beginRound l;pure .skip:Sem Next).events P v #[]),⟨fun F S w hw=>?_,fun _ _ w hw=>?_⟩⟩
 ·obtain⟨w',h1,h2,h3,h4,h5⟩:=ht.ok hr' hw;refine⟨w',?_,h3,h4,yN h5⟩;rw[<-h2];obtain⟨w2,k1,_⟩:=(zEb l).ok hr hw
  obtain rfl:w2=w':=by
   have e:(do Instr.beginRound l;pure .skip:Sem Next).run P w=.ok .skip w2:=by simp[k1]
   rw[h1] at e
   cases e;rfl
  simp[G,stepG,stepG.exec,Frame.atR,hb,stepG.apply,k1,hk',GStep.after,Frame.finish]
 ·obtain⟨w',h1,_,_,h4,_⟩:=ht.ok hr' hw.self;rw[hr'] at h1
  cases h1
  exact h4.output
theorem zPh {tmps:Array Value} {R:Ending->World->Prop} (hfa:fits assign=true) (hfb:fits body=true)
  (h:wp P assign (Exit.then (fun a v=>∀v₁,Rl v v₁->∃v',(Instr.beginRound l).run P v₁=.ok () v'∧wp P body (roundPost P l R) a v') (fun _ _ _=>False)) ⟨tmps,[]⟩ v):Rounds P l f tmps assign body v R:=by
 intro cs
 let b:Frame:={(default:Frame) with fn:=f,kind:=.normal,roundOf:=some l}
 have hb:b.kind≠.early:=by simp[b]
 have he:Frame.round l f tmps assign body .normal=b.atR ⟨tmps,[]⟩ [.code assign,.beginRound,.code body]:=by simp[Frame.round,Frame.atR,b]
 rw[he];refine (h b [.beginRound,.code body] cs ⟨hb,.inr hfa⟩).bind ?_;rintro g w' ⟨e,a',v0,hq,hr,harr⟩
 cases e with
 | normal =>
  obtain rfl:=harr;refine Gs.step' J fun v₁ h1=>?_;obtain⟨v',h2,h3⟩:=hq v₁ (hr.trans h1);obtain⟨es,h4⟩:=Stp.begin (main:=I.main) (b:=b) (a:=a') (k:=[.code body]) (cs:=cs) J hb h2;refine⟨_,_,_,h4,(h3 b [] cs ⟨hb,.inr hfb⟩).bind ?_⟩;rintro g w'' ⟨e,a2,v2,hq,hr,harr⟩
  cases e with
  | normal=>obtain rfl:=harr;exact .stop fun v3 h3=>⟨_,rfl,b,a2,[],none,rfl,rfl,rfl,.inl ⟨rfl,rfl⟩,fun v4 h4=>hq v4 ((hr.trans h3).trans h4)⟩
  | ret=>obtain⟨todo,rfl⟩:=harr;exact .stop fun v3 h3=>⟨_,rfl,b,a2,_,some .ret,rfl,rfl,rfl,.inr (.inl ⟨todo,rfl,rfl⟩),fun v4 h4=>hq v4 ((hr.trans h3).trans h4)⟩
  | exit id=>obtain⟨k₁,hk,rfl⟩:=harr;exact .stop fun v3 h3=>⟨_,rfl,b,a2,_,some (.exit id),rfl,rfl,rfl,.inr (.inr ⟨id,k₁,rfl,by rw[hk];rfl,rfl⟩),fun v4 h4=>hq v4 ((hr.trans h3).trans h4)⟩
  | _=>exact hq.elim
 | _=>exact hq.elim
def rangeSem (a:Act) (g:Operand) (l:Nat):Sem Next:=do
 let d<-resolve a.eval {callee:=.value g,args:=#[.const (.func (.yield l) #[] #[])],argTypes:=#[]} 0
 invoke d.target d.args
omit I in
theorem zL1 (fn:FuncId) (tmps:Array Value) (ps:Array Tmp) (assign body:Code):Tame P (Instr.enterLoop fn tmps ps assign body none):=by
 exact And.intro trivial fun _=>And.intro trivial fun _=>trivial
theorem Stp.ranges {args:Array Value} (hb:b.roundOf=none) (hk:b.kind≠.early)
  (ht:Tame P (rangeSem a g (v.heap.size+1))) (hr:∀w,(rangeSem a g (v.heap.size+1)).run P w=.ok (.enter f args) w) :
  ∃es,Stp P main (G (b.atR a (.code (.rangeFunc g ps assign body)::k)) cs) v
   (G (Frame.enter P f args .normal) (b.atR {a with defers:={target:=.collected v.heap.size,args:=#[]}::a.defers} (.inRangeFunc (v.heap.size+1)::k)::cs))
   ((v.alloc (.deferred (some []))).alloc (.loop {state:=.ready,pending:=none,fn:=b.fn,tmps:=a.tmps,params:=ps,assign,body,defers:=v.heap.size})) es:=by
 have hk':(b.kind==CallKind.early)=false:=by simpa using hk
 have he:∀w:World,w.heap.size=v.heap.size->(Instr.enterLoop b.fn a.tmps ps assign body none).run P w=.ok (v.heap.size+1,[{target:=.collected v.heap.size,args:=#[]}])
   ((w.alloc (.deferred (some []))).alloc (.loop {state:=.ready,pending:=none,fn:=b.fn,tmps:=a.tmps,params:=ps,assign,body,defers:=v.heap.size})):=fun w hw=>by
  rw[<-hw];exact run_enterLoop_outer (w:=w) b.fn a.tmps ps assign body
 refine⟨seen P b.fn ((Instr.enterLoop b.fn a.tmps ps assign body none).events P v #[])++seen P b.fn ((rangeSem a g (v.heap.size+1)).events P ((v.alloc (.deferred (some []))).alloc (.loop {state:=.ready,pending:=none,fn:=b.fn,tmps:=a.tmps,params:=ps,assign,body,defers:=v.heap.size})) #[]),⟨fun F S w hw=>?_,fun _ _ w hw=>rfl⟩⟩;obtain⟨w1,h1,h2,h3,h4,h5⟩:=(zL1 b.fn a.tmps ps assign body).ok (he v J) hw;obtain⟨w2,k1,k2,k3,k4,k5⟩:=ht.ok (hr _) h3;rw[hr w1] at k1
 cases k1
 refine⟨w1,?_,k3,h4.trans k4,?_⟩
 ·rw[<-h2,<-k2]
  have hev:({fn:=b.fn,tmps:=a.tmps,todo:=.inRangeFunc (v.heap.size+1)::k,defers:={target:=.collected v.heap.size,args:=#[]}::a.defers,mode:=.run,kind:=b.kind}:Frame).eval=a.eval:=by
   funext x;cases x<;>rfl
  have hr1:=hr w1;unfold rangeSem at hr1 ⊢;simp only[G,stepG,stepG.exec,Frame.atR,hb,h1,Sem.runT_eq,stepG.apply,List.singleton_append,hev,hr1];simp[GStep.after,hk']
 ·intro e hm
  rcases Array.mem_append.1 hm with hm|hm
  ·exact yN h5 e hm
  ·exact yN k5 e hm
theorem Stp.endRange {jump:Option Code} (hr:(Instr.endLoop l).run P v=.ok jump v') :
  ∃es,Stp P main (G (b.atR a (.endRangeFunc l::k)) cs) v (G (b.atR a ((jump.map Item.code).toList++k)) cs) v' es:=by
 refine⟨seen P b.fn ((Instr.endLoop l).events P v #[]),⟨fun F S w hw=>?_,fun _ _ w hw=>?_⟩⟩
 ·obtain⟨w',h1,h2,h3,h4,h5⟩:=(zHr l).ok hr hw;refine⟨w',?_,h3,h4,yN h5⟩;rw[<-h2];simp[G,stepG,stepG.exec,Frame.atR,h1,Sem.runT_eq,GStep.after]
 ·obtain⟨w',h1,_,_,h4,_⟩:=(zHr l).ok hr hw.self;rw[hr] at h1
  cases h1
  exact h4.output
def rangeQ (Q:QT) (a:Act):Option Code->World->Prop
 | none,v=>Q .normal a v
 | some .ret,v=>Q .ret a v
 | some (.exit id),v=>Q (.exit id) a v
 | _,_=>False
abbrev recIn (fn:FuncId) (a:Act) (ps:Array Tmp) (assign body:Code) (D:Nat):Loop:={state:=.ready,pending:=none,fn,tmps:=a.tmps,params:=ps,assign,body,defers:=D}
theorem zOe {Q:QT}
  (h:∀fn v₁,Rl v v₁->∃f args,Tame P (rangeSem a g (v₁.heap.size+1))∧(∀w,(rangeSem a g (v₁.heap.size+1)).run P w=.ok (.enter f args) w) ∧
   Calls P f args ((v₁.alloc (.deferred (some []))).alloc (.loop (recIn fn a ps assign body v₁.heap.size))) fun e v3=>(∃x,e=.returned x) ∧
    ∀v4,Rl v3 v4->∃jump v5,(Instr.endLoop (v₁.heap.size+1)).run P v4=.ok jump v5∧rangeQ Q {a with defers:={target:=.collected v₁.heap.size,args:=#[]}::a.defers} jump v5) :
  wp P (.rangeFunc g ps assign body) Q a v:=by
 intro b k cs hb;have hro:b.roundOf=none:=hb.2.resolve_right (by simp[fits]);refine Gs.step' J fun v₁ h1=>?_;obtain⟨f,args,ht,hr,hc⟩:=h b.fn v₁ h1;obtain⟨es,h2⟩:=Stp.ranges (main:=I.main) (k:=k) (cs:=cs) (ps:=ps) (assign:=assign) (body:=body) hro hb.1 ht hr;refine⟨_,_,_,h2,(hc _).bind ?_⟩;rintro g' w' ⟨e,fr,v0,⟨⟨x,rfl⟩,hend⟩,hr0,rfl,_,hle⟩;refine Gs.step' J fun v2 h3=>?_;obtain⟨es,h4⟩:=Stp.leaving (main:=I.main) (c:=b.atR {a with defers:={target:=.collected v₁.heap.size,args:=#[]}::a.defers} (.inRangeFunc (v₁.heap.size+1)::k)) (cs:=cs) (hle.rely h3);refine⟨_,_,_,h4,Gs.step' J fun v4 h5=>?_⟩;obtain⟨jump,v5,h6,h7⟩:=hend v4 ((hr0.trans h3).trans h5);obtain⟨es,h8⟩:=Stp.endRange (main:=I.main) (b:=b) (a:={a with defers:={target:=.collected v₁.heap.size,args:=#[]}::a.defers}) (k:=k) (cs:=cs) h6;refine⟨_,_,_,h8,?_⟩
 match jump,h7 with
 | none,h7=>exact Out.now (e:=.normal) h7 rfl
 | some .ret,h7=>exact Out.now (e:=.ret) h7 ⟨k,rfl⟩
 | some (.exit id),h7=>exact Out.now (e:=.exit id) h7 ⟨k,rfl,rfl⟩
end
end
end Go.Proofs.YteppiphdbondeaaGreat.N
