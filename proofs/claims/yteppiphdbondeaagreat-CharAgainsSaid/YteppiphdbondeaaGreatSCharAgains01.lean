/- Parts of the walk of the law CharAgains: Sx, Sx2, Srec, M1, M2, M3, M4, M5, N1. -/
import Derived.Test.YteppiphdbondeaaGreatSCharAgains00
import Derived.WalkKit
import Derived.WalkLawsBesides
import Derived.Deep.LoopGhost
import Derived.OrdersHeld
import Derived.ScopeJumps
import Derived.Conc.CrowdComm
import Derived.Conc.Beside
import Derived.Conc.TokenTrace
namespace Go.Proofs.YteppiphdbondeaaGreat.N
set_option linter.unusedSectionVars false
open Go.RowKit
section
variable {A:Option Addr} {B N b bytes cap ft i j len o off size u:Nat} {G X α:Type} {K:Act->World->Prop} {R:Ending->World->Prop} {args captured:Array Operand} {c x y:Operand} {ch:List PanicEntry} {cs first fs l out vs xs:List Value} {ct e s t':TypeId} {f:FuncId} {fn:Func} {fr':LV} {ke:IntKind} {l1 l2:Array Bool} {o':Oper} {op:Op} {p:Addr} {parts:Array (Nat×Operand)} {r:Int} {ts:Array TypeId} {v v' z:Value} {w':World}
abbrev pt (b:Nat):Value:=.pointer (some ⟨b,0,none⟩)
abbrev PO (b t:Nat):Obj:=.cells #[.pointer (some ⟨b,0,none⟩)] t (0,0)
def look:List (Nat×Value)->Nat->Option Value
  | [],_=>none
  | (a,v)::r,n=>bif Nat.beq a n then some v else look r n
theorem zBj (d:Nat) (v:Value) (fr:LV) (n:Nat):look ((d,v)::fr) n=if d=n then some v else look fr n:=by
  show (bif Nat.beq d n then some v else look fr n)=_
  by_cases h:d=n
  · subst h;simp
  · have : Nat.beq d n = false := by
      cases hb:Nat.beq d n with
      | false=>rfl
      | true=>exact absurd (Nat.eq_of_beq_eq_true hb) h
    simp[this,h]
def ev (fr:LV):Operand->Option Value
  | .tmp t=>look fr t
  | .const v=>some v
  | .global g=>some (.pointer (some ⟨g,0,none⟩))
  | .func f=>some (.func (.func f) #[] #[])

inductive Res where
  | blk (b:Nat) (o:Obj)
  | row (e size:Nat) (A:Option Addr) (n c:Nat) (xs:List Value)
  | que (e size:Nat) (A:Option Addr) (n c:Nat) (xs:List Value)
def ownsQue (w:World) (B e size:Nat) (A:Option Addr) (n c:Nat) (xs:List Value):Prop :=
  xs.length=n*size∧((A=none∧n=0∧c=0)∨∃g o cur,A=some ⟨g,o,none⟩∧B<=g∧w.heap[g]?=some (.cells cur e (0,0))∧n<=c∧c<=maxLen∧o+c*size<=cur.size∧(cur.toList.drop o).take (n*size)=xs)
def Res.id:Res->Option Nat
  | .blk b _=>some b
  | .row _ _ A n c _=>(Value.slice A n c).ownBlock
  | .que _ _ A n c _=>(Value.slice A n c).ownBlock
def Res.ok (B:Nat) (w:World):Res->Prop
  | .blk b o=>B<=b∧w.heap[b]?=some o
  | .row e size A n c xs=>w.ownsRow B e size (.slice A n c) n xs
  | .que e size A n c xs=>ownsQue w B e size A n c xs

theorem Res.lt {w:World} {r:Res} (h:r.ok B w):∀k,r.id=some k->B<=k∧k<w.heap.size:=by
  intro k hk
  cases r with
  | blk b o =>
    have hk':some b=some k:=hk
    cases hk'
    exact⟨h.1,(Array.getElem?_eq_some_iff.1 h.2).1⟩
  | row e size A n c xs=>exact World.ownsRow.lt h k hk
  | que e size A n c xs =>
    rcases h.2 with ⟨h1,_,_⟩|⟨g,o,cur,h1,hb,hg,_⟩
    · subst h1;cases hk
    · subst h1;have hk':some g=some k:=hk
      cases hk'
      exact⟨hb,(Array.getElem?_eq_some_iff.1 hg).1⟩
theorem Res.ok_mono {B':Nat} {w:World} {r:Res} (h:r.ok B w) (hB:B'<=B):r.ok B' w:=by
  cases r with
  | blk b o=>exact⟨Nat.le_trans hB h.1,h.2⟩
  | row e size A n c xs =>
    obtain⟨h1,h2⟩:=h;refine⟨h1,?_⟩
    rcases h2 with h2|⟨g,cap,cur,hv,hg,r⟩
    · exact .inl h2
    · exact .inr ⟨g,cap,cur,hv,Nat.le_trans hB hg,r⟩
  | que e size A n c xs =>
    obtain⟨h1,h2⟩:=h;refine⟨h1,?_⟩
    rcases h2 with h2|⟨g,o,cur,hv,hg,r⟩
    · exact .inl h2
    · exact .inr ⟨g,o,cur,hv,Nat.le_trans hB hg,r⟩
theorem Res.keep {w:World} {r:Res} (h:r.ok B w) (hk:∀k,r.id=some k->w'.heap[k]?=w.heap[k]?):r.ok B w':=by
  cases r with
  | blk b o=>exact⟨h.1,(hk b rfl).trans h.2⟩
  | row e size A n c xs =>
    obtain⟨h1,h2⟩:=h;refine⟨h1,?_⟩
    rcases h2 with h2|⟨g,cap,cur,hv,hg,hh,r⟩
    · exact .inl h2
    · refine .inr ⟨g,cap,cur,hv,hg,?_,r⟩;rw[hk g (by show (Value.slice A n c).ownBlock=some g;rw[hv];rfl)]
      exact hh
  | que e size A n c xs =>
    obtain⟨h1,h2⟩:=h;refine⟨h1,?_⟩
    rcases h2 with h2|⟨g,o,cur,hv,hg,hh,r⟩
    · exact .inl h2
    · refine .inr ⟨g,o,cur,hv,hg,?_,r⟩;rw[hk g (by show (Value.slice A n c).ownBlock=some g;rw[hv];rfl)];exact hh

structure Ctx where
  P:Program
  B:Nat
  w0:World
  N:Nat
  ds:List Deferred
structure At (C:Ctx) (fr:LV) (hp:List Res) (a:Act) (w:World):Prop where
  size:a.tmps.size=C.N
  defs:a.defers=C.ds
  slots:∀t v,look fr t=some v->a.tmps.getD t undef=v
  below:Below C.B C.w0 w
  base:C.B<=w.heap.size
  own:∀r,r∈hp->r.ok C.B w
  apart:(hp.filterMap Res.id).Nodup

section
variable {C:Ctx} {fr:LV} {hp:List Res} {a:Act} {w:World}

theorem At.eval (h:At C fr hp a w) {x:Operand} {v:Value} (hx:ev fr x=some v):a.eval x=v:=by
  cases x with
  | tmp t=>exact h.slots t v hx
  | const u=>exact Option.some.inj hx
  | global g=>exact Option.some.inj hx
  | func f=>exact Option.some.inj hx

theorem At.put (h:At C fr hp a w) {d:Nat} (hd:d<C.N) (v:Value):At C ((d,v)::fr) hp (a.put (some d) v) w:=by
  refine⟨?_,h.defs,?_,h.below,h.base,h.own,h.apart⟩
  · simp[Act.put,h.size]
  · intro t u ht;rw[zBj] at ht;show (a.tmps.setIfInBounds d v).getD t undef=u
    by_cases e:d=t
    · subst e;rw[if_pos J] at ht;have hs:d<a.tmps.size:=by rw[h.size];exact hd
      simp only[Array.getD_eq_getD_getElem?,Array.getElem?_setIfInBounds,if_true,if_pos hs];simpa using ht
    · rw[if_neg e] at ht;rw[<-h.slots t u ht];simp only[Array.getD_eq_getD_getElem?,Array.getElem?_setIfInBounds];rw[if_neg e]

theorem At.world {hp' : List Res} (h : At C fr hp a w) (hb : Below C.B w w') (ho : ∀ r, r ∈ hp' -> r.ok C.B w') (ha : (hp'.filterMap Res.id).Nodup) :
    At C fr hp' a w' :=
  ⟨h.size,h.defs,h.slots,h.below.trans hb,Nat.le_trans h.base hb.size,ho,ha⟩

theorem At.ids_lt (h:At C fr hp a w):∀k,k∈hp.filterMap Res.id->C.B<=k∧k<w.heap.size:=by
  intro k hk;obtain⟨r,hr,hrk⟩:=List.mem_filterMap.1 hk;exact Res.lt (h.own r hr) k hrk

theorem At.later (h:At C fr hp a w) {w':World} (hb:Below w.heap.size w w'):At C fr hp a w' :=
  h.world (hb.mono h.base) (fun r hr=>Res.keep (h.own r hr) (fun k hk=>hb.block k (Res.lt (h.own r hr) k hk).2)) h.apart

theorem At.grew (h : At C fr hp a w) {w' : World} (hb : Below w.heap.size w w') {rs : List Res} (hr : ∀ r, r ∈ rs -> r.ok w.heap.size w') (hn : (rs.filterMap Res.id).Nodup) :
    At C fr (rs++hp) a w':=by
  have hl:=h.later hb
  refine⟨hl.size,hl.defs,hl.slots,hl.below,hl.base,?_,?_⟩
  · intro r hrm
    rcases List.mem_append.1 hrm with h1|h1
    · exact Res.ok_mono (hr r h1) h.base
    · exact hl.own r h1
  · rw[List.filterMap_append,List.nodup_append];refine⟨hn,hl.apart,?_⟩;intro x hx y hy e;subst e;obtain⟨r,hrm,hrx⟩:=List.mem_filterMap.1 hx;have h1:=(Res.lt (hr r hrm) x hrx).1;have h2:=(h.ids_lt x hy).2;omega

theorem At.alloc (h:At C fr hp a w) (o:Obj):At C fr (.blk w.heap.size o::hp) a (w.alloc o):=by
  refine h.grew (rs:=[.blk w.heap.size o]) ((Below.refl _ _).alloc (Nat.le_refl _) o) ?_ (by simp[Res.id]);intro r hr;simp at hr;subst hr;exact⟨Nat.le_refl _,heap_alloc_new w o⟩

inductive Upd (r r':Res):List Res->List Res->Prop
  | head (l:List Res):Upd r r' (r::l) (r'::l)
  | tail (x:Res) {l l':List Res} (h:Upd r r' l l'):Upd r r' (x::l) (x::l')
theorem Upd.mem {r r':Res} {l l':List Res} (h:Upd r r' l l'):r∈l:=by
  induction h with
  | head l=>simp
  | tail x _ ih=>simp[ih]
theorem Upd.split {r r':Res} {l l':List Res} (h:Upd r r' l l'):∃l1 l2,l=l1++r::l2∧l'=l1++r'::l2:=by
  induction h with
  | head l=>exact⟨[],l,rfl,rfl⟩
  | tail x _ ih =>
    obtain⟨l1,l2,e,e'⟩:=ih;exact⟨x::l1,l2,by rw[e];rfl,by rw[e'];rfl⟩

theorem At.turn {hp' : List Res} {r r' : Res} (h : At C fr hp a w) (hu : Upd r r' hp hp') (hg : w.grownBy w' r.id) (hr : r'.ok C.B w')
    (hid:∀k,r'.id=some k->r.id=some k∨w.heap.size<=k):At C fr hp' a w':=by
  obtain⟨l1,l2,rfl,rfl⟩:=hu.split;have hrB:∀k,r.id=some k->C.B<=k:=fun k hk=>(Res.lt (h.own r (by simp)) k hk).1;have hb:Below C.B w w':=(Below.refl C.B w).grown hg h.base hrB;have hap:=h.apart
  have other:∀x,x∈l1++l2->x.ok C.B w':=by
    intro x hx
    have hxm:x∈l1++r::l2:=by
      rcases List.mem_append.1 hx with h1|h1
      · exact List.mem_append.2 (.inl h1)
      · exact List.mem_append.2 (.inr (List.mem_cons.2 (.inr h1)))
    refine Res.keep (h.own x hxm) fun k hk=>hg.block k (Res.lt (h.own x hxm) k hk).2 ?_;intro e;have hmem:k∈(l1++l2).filterMap Res.id:=List.mem_filterMap.2 ⟨x,hx,hk⟩;rw[List.filterMap_append] at hap hmem;rw[List.filterMap_cons_some e.symm] at hap;rw[List.nodup_append] at hap;obtain⟨_,h2,h3⟩:=hap;rw[List.nodup_cons] at h2
    rcases List.mem_append.1 hmem with h1|h1
    · exact h3 k h1 k (by simp) J
    · exact h2.1 h1
  refine h.world hb ?_ ?_
  · intro x hx
    rcases List.mem_append.1 hx with h1|h1
    · exact other x (List.mem_append.2 (.inl h1))
    · rcases List.mem_cons.1 h1 with h2|h2
      · subst h2;exact hr
      · exact other x (List.mem_append.2 (.inr h2))
  · rw[List.filterMap_append] at hap ⊢
    cases hri:r'.id with
    | none =>
      rw[List.filterMap_cons_none hri]
      cases hr0:r.id with
      | none=>rw[List.filterMap_cons_none hr0] at hap;exact hap
      | some k =>
        rw[List.filterMap_cons_some hr0] at hap;rw[List.nodup_append] at hap ⊢;obtain⟨h1,h2,h3⟩:=hap;rw[List.nodup_cons] at h2
        exact⟨h1,h2.2,fun x hx y hy=>h3 x hx y (List.mem_cons.2 (.inr hy))⟩
    | some k' =>
      have hl:∀k,k∈l1.filterMap Res.id∨k∈l2.filterMap Res.id->k<w.heap.size:=by
        intro k hk;refine (h.ids_lt k ?_).2;rw[List.filterMap_append]
        rcases hk with hk|hk
        · exact List.mem_append.2 (.inl hk)
        · refine List.mem_append.2 (.inr ?_);obtain⟨x,hx,hxk⟩:=List.mem_filterMap.1 hk;exact List.mem_filterMap.2 ⟨x,List.mem_cons.2 (.inr hx),hxk⟩
      have hnot:k'∉l1.filterMap Res.id∧k'∉l2.filterMap Res.id:=by
        rcases hid k' hri with h0|h0
        · rw[List.filterMap_cons_some h0] at hap;rw[List.nodup_append] at hap;obtain⟨_,h2,h3⟩:=hap;rw[List.nodup_cons] at h2;exact⟨fun hm=>h3 k' hm k' (by simp) J,h2.1⟩
        · exact⟨fun hm=>by have:=hl k' (.inl hm);omega,fun hm=>by have:=hl k' (.inr hm);omega⟩
      have hap':(l1.filterMap Res.id++l2.filterMap Res.id).Nodup:=by
        cases hr0:r.id with
        | none=>rw[List.filterMap_cons_none hr0] at hap;exact hap
        | some k =>
          rw[List.filterMap_cons_some hr0] at hap;rw[List.nodup_append] at hap ⊢;obtain⟨h1,h2,h3⟩:=hap;rw[List.nodup_cons] at h2;exact⟨h1,h2.2,fun x hx y hy=>h3 x hx y (List.mem_cons.2 (.inr hy))⟩
      rw[List.filterMap_cons_some hri];rw[List.nodup_append] at hap' ⊢;obtain⟨h1,h2,h3⟩:=hap'
      refine⟨h1,?_,?_⟩
      · rw[List.nodup_cons];exact⟨hnot.2,h2⟩
      · intro x hx y hy
        rcases List.mem_cons.1 hy with h4|h4
        · subst h4;intro e;subst e;exact hnot.1 hx
        · exact h3 x hx y h4

theorem At.mem_blk (h:At C fr hp a w) {b:Nat} {o:Obj} (hm:Res.blk b o∈hp):w.heap[b]?=some o:=(h.own _ hm).2

theorem zKi {w : World} {cs : Array Value} {t : TypeId} (h : w.heap[b]? = some (.cells cs t (0, 0))) (v : Value) :
    (w.setCell ⟨b,off,none⟩ v).heap[b]?=some (.cells (cs.setIfInBounds off v) t (0,0)):=by
  simp[World.setCell,Array.getElem?_modify,h]

theorem At.drop_res (h:At C fr hp a w) {hp':List Res} (hs:hp'.Sublist hp):At C fr hp' a w :=
  ⟨h.size,h.defs,h.slots,h.below,h.base,fun r hr=>h.own r (hs.subset hr),h.apart.sublist (hs.filterMap _)⟩

inductive Sub:List (Nat×Value)->List (Nat×Value)->Prop
  | nil (fr:LV):Sub [] fr
  | cons {fr fr':LV} {t:Nat} {v:Value} (h:look fr t=some v) (hs:Sub fr' fr):Sub ((t,v)::fr') fr
theorem Sub.look {fr:LV} (h:Sub fr' fr):∀t v,look fr' t=some v->Go.Proofs.YteppiphdbondeaaGreat.N.look fr t=some v:=by
  induction h with
  | nil fr=>intro t v h;cases h
  | @cons fr fr' d u h0 _ ih =>
    intro t v h;rw[zBj] at h
    by_cases e:d=t
    · subst e;rw[if_pos J] at h;rw[<-h];exact h0
    · rw[if_neg e] at h;exact ih t v h
theorem At.drop_slots_of (h:At C fr hp a w) {fr':LV} (hs:∀t v,Go.Proofs.YteppiphdbondeaaGreat.N.look fr' t=some v->Go.Proofs.YteppiphdbondeaaGreat.N.look fr t=some v):At C fr' hp a w :=
  ⟨h.size,h.defs,fun t v ht=>h.slots t v (hs t v ht),h.below,h.base,h.own,h.apart⟩
theorem At.drop_slots (h:At C fr hp a w) {fr':LV} (hs:Sub fr' fr):At C fr' hp a w :=
  ⟨h.size,h.defs,fun t v ht=>h.slots t v (hs.look t v ht),h.below,h.base,h.own,h.apart⟩
end

theorem At.rely {C:Ctx} {fr:LV} {hp:List Res} {a:Act} {w:World} (h:At C fr hp a w) (hr:Rl w w'):At C fr hp a w':=h.later hr
variable [I:Sys]
def Lst (C:Ctx) (ops:Array Oper) (Q:QT) (l:List Oper) (fr:LV) (hp:List Res):Prop :=
  ∀a w,At C fr hp a w->wpList C.P ops Q l a w
def Cod (C:Ctx) (c:Code) (Q:QT) (fr:LV) (hp:List Res):Prop :=
  ∀a w,At C fr hp a w->wp C.P c Q a w
def Ex (C:Ctx) (Q:QT) (e:Exit) (fr:LV) (hp:List Res):Prop :=
  ∀a w,At C fr hp a w->Q e a w

class InB (b:Nat) (o:outParam Obj) (hp:List Res):Prop where
  mem:Res.blk b o∈hp
instance InB.tail (b:Nat) (o:Obj) (x:Res) (l:List Res) [h:InB b o l]:InB b o (x::l):=⟨List.mem_cons.2 (.inr h.mem)⟩
instance InB.head (b:Nat) (o:Obj) (l:List Res):InB b o (.blk b o::l):=⟨List.mem_cons.2 (.inl rfl)⟩
class UpB (b:Nat) (o:outParam Obj) (o':Obj) (hp:List Res) (hp':outParam (List Res)):Prop where
  upd:Upd (.blk b o) (.blk b o') hp hp'
instance UpB.tail (b:Nat) (o o':Obj) (x:Res) (l l':List Res) [h:UpB b o o' l l']:UpB b o o' (x::l) (x::l'):=⟨.tail x h.upd⟩
instance UpB.head (b:Nat) (o o':Obj) (l:List Res):UpB b o o' (.blk b o::l) (.blk b o'::l):=⟨.head l⟩
class InR (A:Option Addr) (e size n c:outParam Nat) (xs:outParam (List Value)) (hp:List Res):Prop where
  mem:Res.row e size A n c xs∈hp
instance InR.tail (A:Option Addr) (e size n c:Nat) (xs:List Value) (x:Res) (l:List Res) [h:InR A e size n c xs l]:InR A e size n c xs (x::l):=⟨List.mem_cons.2 (.inr h.mem)⟩
instance InR.head (A:Option Addr) (e size n c:Nat) (xs:List Value) (l:List Res):InR A e size n c xs (.row e size A n c xs::l):=⟨List.mem_cons.2 (.inl rfl)⟩
class UpR (A:Option Addr) (e size n c:outParam Nat) (xs:outParam (List Value)) (r':Res) (hp:List Res) (hp':outParam (List Res)):Prop where
  upd:Upd (.row e size A n c xs) r' hp hp'
instance UpR.tail (A:Option Addr) (e size n c:Nat) (xs:List Value) (r' x:Res) (l l':List Res) [h:UpR A e size n c xs r' l l']:UpR A e size n c xs r' (x::l) (x::l'):=⟨.tail x h.upd⟩
instance UpR.head (A:Option Addr) (e size n c:Nat) (xs:List Value) (r':Res) (l:List Res):UpR A e size n c xs r' (.row e size A n c xs::l) (r'::l):=⟨.head l⟩

class Cells (v:Value) (l:outParam (List Value)):Prop where
  eq:v.cells=l.toArray
  one:∀u∈l,u.oneCell'=true
instance Cells.int (k:IntKind) (n:Int):Cells (.int k n) [.int k n]:=⟨rfl,by simp[Value.oneCell']⟩
instance Cells.bool (b:Bool):Cells (.bool b) [.bool b]:=⟨rfl,by simp[Value.oneCell']⟩
instance Cells.pointer (b:Option Addr):Cells (.pointer b) [.pointer b]:=⟨rfl,by simp[Value.oneCell']⟩
instance Cells.slice (b:Option Addr) (n c:Nat):Cells (.slice b n c) [.slice b n c]:=⟨rfl,by simp[Value.oneCell']⟩
instance Cells.map (b:Option Nat):Cells (.map b) [.map b]:=⟨rfl,by simp[Value.oneCell']⟩
instance Cells.func (f:Fn) (x y:Array Value):Cells (.func f x y) [.func f x y]:=⟨rfl,by simp[Value.oneCell']⟩
instance Cells.nilFunc:Cells .nilFunc [.nilFunc]:=⟨rfl,by simp[Value.oneCell']⟩
class Ones (l:List Value):Prop where
  one:∀u∈l,u.oneCell'=true
instance Ones.nil:Ones []:=⟨by simp⟩
instance Ones.cons (v:Value) (l:List Value) [h:Cells v [v]] [h':Ones l]:Ones (v::l):=⟨by
  intro u hu
  rcases List.mem_cons.1 hu with e|e
  · subst e;exact h.one u (by simp)
  · exact h'.one u e⟩
instance Cells.agg (l:List Value) [h:Ones l]:Cells (.agg l.toArray) l:=⟨rfl,h.one⟩

def aggB (P:Program) (t:TypeId):Bool :=
  match P.underlying t with
  | some (.struct _)=>true
  | some (.array _ _)=>true
  | _=>false
def TI (P:Program) (t:TypeId) (z:Value) (size bytes:Nat):Prop:=∃i,P.info? t=some i∧i.zero=some z∧i.size=size∧i.bytes=bytes
theorem TI.of {P:Program} {t:TypeId} (h:(P.info? t).map (fun i=>(i.zero,i.size,i.bytes))=some (some z,size,bytes)):TI P t z size bytes :=
  info_parts h
def FI (P:Program) (s:TypeId) (f:Nat) (ft off:Nat):Prop:=∃fs fd,P.underlying s=some (.struct fs)∧fs[f]?=some fd∧fd.type=ft∧fd.offset=off

section
variable {C:Ctx} {fr:LV} {hp hp':List Res} {a:Act} {w:World} {ops:Array Oper} {Q:QT} {rest:List Oper}
  {d:Nat} {ty:TypeId} {pos:String} {after:Array Edge}

theorem kK {a:Nat} (h:Nat.blt a b=true):a<b:=by simpa[Nat.blt_eq] using h

theorem zAb {P:Program} {t:TypeId} {b:Bool} (h:aggB P t=b) (hu:P.underlying t≠none) (w:World):(isAgg t).run P w=.ok b w:=by
  unfold aggB at h
  cases hd:P.underlying t with
  | none=>exact absurd hd hu
  | some u =>
    rw[hd] at h;subst h;unfold isAgg;simp only[Sem.run_bind,run_underlying hd,Result.andThen_ok]
    cases u<;>rfl

theorem xV {o:Oper} (hg:o.guard=none) (h:∀a w,At C fr hp a w->OpNow C.P o a w (wpList C.P ops Q rest) Q):Lst C ops Q (o::rest) fr hp :=
  fun a w ha=>zT5 (by simp[Region.wanted,hg]) fun v₁ hv=>h a v₁ (ha.rely hv)
theorem qI (v : Value) (hd : Nat.blt d C.N = true) (ht : ∀ a w, At C fr hp a w -> Tame C.P (execOp a.eval ⟨some d, op, ty, pos, after, none⟩))
    (h:∀a w,At C fr hp a w->∃w',(execOp a.eval ⟨some d,op,ty,pos,after,none⟩).run C.P w=.ok (.value v) w'∧At C fr hp' a w')
    (k:Lst C ops Q rest ((d,v)::fr) hp'):Lst C ops Q (⟨some d,op,ty,pos,after,none⟩::rest) fr hp:=by
  refine xV J fun a w ha=>⟨ht a w ha,?_⟩;obtain⟨w',hr,ha'⟩:=h a w ha;rw[hr];exact k _ _ (ha'.put (kK hd) v)
theorem zD2 (ht : ∀ a w, At C fr hp a w -> Tame C.P (execOp a.eval ⟨none, op, ty, pos, after, none⟩))
    (h:∀a w,At C fr hp a w->∃w',(execOp a.eval ⟨none,op,ty,pos,after,none⟩).run C.P w=.ok .skip w'∧At C fr hp' a w')
    (k:Lst C ops Q rest fr hp'):Lst C ops Q (⟨none,op,ty,pos,after,none⟩::rest) fr hp:=by
  refine xV J fun a w ha=>⟨ht a w ha,?_⟩;obtain⟨w',hr,ha'⟩:=h a w ha;rw[hr];exact k _ _ ha'
theorem zB (k:Ex C Q .normal fr hp):Lst C ops Q [] fr hp:=fun a w ha=>zUu (k a w ha)

theorem zA (hd:Nat.blt d C.N=true) (hx:ev fr x=some v) (k:Lst C ops Q rest ((d,v)::fr) hp):Lst C ops Q (⟨some d,.move x,ty,pos,after,none⟩::rest) fr hp :=
  qI v hd (fun _ _ _=>zMz _) (fun a w ha=>⟨w,by simp[execOp,ha.eval hx],ha⟩) k
theorem zF (hd:Nat.blt d C.N=true) (hx:ev fr x=some v) (k:Lst C ops Q rest ((d,v)::fr) hp):Lst C ops Q (⟨some d,.assign x,ty,pos,after,none⟩::rest) fr hp :=
  qI v hd (fun _ _ _=>zIr _) (fun a w ha=>⟨w,by simp[execOp,ha.eval hx],ha⟩) k
theorem jH (hd : Nat.blt d C.N = true) (hc : ev fr c = some (.bool true)) (hx : ev fr x = some v)
    (k:Lst C ops Q rest ((d,v)::fr) hp):Lst C ops Q (⟨some d,.pick c x y,ty,pos,after,none⟩::rest) fr hp :=
  qI _ hd (fun _ _ _=>zD5 _ _ _) (fun a w ha=>⟨w,by simp[execOp,ha.eval hc,ha.eval hx,asBool],ha⟩) k
theorem jU (hd : Nat.blt d C.N = true) (hc : ev fr c = some (.bool false)) (hy : ev fr y = some v)
    (k:Lst C ops Q rest ((d,v)::fr) hp):Lst C ops Q (⟨some d,.pick c x y,ty,pos,after,none⟩::rest) fr hp :=
  qI _ hd (fun _ _ _=>zD5 _ _ _) (fun a w ha=>⟨w,by simp[execOp,ha.eval hc,ha.eval hy,asBool],ha⟩) k
theorem qC {b : Bool} {t : TypeId} (hd : Nat.blt d C.N = true) (hx : ev fr x = some (.bool b)) (k : Lst C ops Q rest ((d, .bool (!b)) :: fr) hp) :
    Lst C ops Q (⟨some d,.unOp .not t x,ty,pos,after,none⟩::rest) fr hp :=
  qI _ hd (fun _ _ _=>zM1 ..) (fun a w ha=>⟨w,by simp[execOp,ha.eval hx,Op.unary],ha⟩) k
theorem jF (hd : Nat.blt d C.N = true) (hx : ev fr x = some (.tuple vs.toArray)) (hv : vs[i]? = some v) (k : Lst C ops Q rest ((d, v) :: fr) hp) :
    Lst C ops Q (⟨some d,.extract x i,ty,pos,after,none⟩::rest) fr hp :=
  qI _ hd (fun _ _ _=>zG2 ..) (fun a w ha=>⟨w,by simp[execOp,ha.eval hx,Instr.extract,hv],ha⟩) k

theorem wI {xs:Array Operand} (ha:At C fr hp a w) (h:xs.toList.map (ev fr)=vs.map some):xs.map a.eval=vs.toArray:=by
  have:∀(l:List Operand) (vs:List Value),l.map (ev fr)=vs.map some->l.map a.eval=vs:=by
    intro l
    induction l with
    | nil=>intro vs h;cases vs with
      | nil=>rfl
      | cons=>simp at h
    | cons x l ih =>
      intro vs h
      cases vs with
      | nil=>simp at h
      | cons v vs =>
        simp only[List.map_cons,List.cons.injEq] at h;rw[List.map_cons,ha.eval h.1,ih vs h.2]
  obtain⟨l⟩:=xs;simp only[List.map_toArray];rw[this l vs h]

theorem wG {fn : Fn} {first : Array Operand} (hd : Nat.blt d C.N = true) (hf : first.toList.map (ev fr) = fs.map some) (hc : captured.toList.map (ev fr) = cs.map some)
    (k:Lst C ops Q rest ((d,.func fn fs.toArray cs.toArray)::fr) hp):Lst C ops Q (⟨some d,.makeFunc fn first captured,ty,pos,after,none⟩::rest) fr hp :=
  qI _ hd (fun _ _ _=>zGr ..) (fun a w ha=>⟨w,by simp only[execOp,wI ha hf,wI ha hc,Instr.makeFunc,Sem.run_bind,Sem.run_pure,Result.andThen_ok],ha⟩) k

theorem zKt {P:Program} (t:TypeId) (v:Value) (w:World):(newVar t v).run P w=.ok ⟨w.heap.size,0,none⟩ (w.alloc (.cells v.cells t)):=rfl

theorem jT {t : TypeId} (hd : Nat.blt d C.N = true) (hx : ev fr x = some v) [hl : Cells v l]
    (k:∀b,Lst C ops Q rest ((d,.pointer (some ⟨b,0,none⟩))::fr) (.blk b (.cells l.toArray t (0,0))::hp)):Lst C ops Q (⟨some d,.box t x,ty,pos,after,none⟩::rest) fr hp:=by
  refine xV J fun a w ha=>?_;refine⟨zZj ..,?_⟩
  have hr:(execOp a.eval ⟨some d,.box t x,ty,pos,after,none⟩).run C.P w=.ok (.value (.pointer (some ⟨w.heap.size,0,none⟩))) (w.alloc (.cells l.toArray t)):=by
    simp[execOp,Instr.box,ha.eval hx,zKt,hl.eq]
  rw[hr];exact k w.heap.size _ _ ((ha.alloc (.cells l.toArray t)).put (kK hd) _)

theorem zW {t : TypeId} (hd : Nat.blt d C.N = true) (hz : TI C.P t z size bytes) [hl : Cells z l]
    (k:∀b,Lst C ops Q rest ((d,.pointer (some ⟨b,0,none⟩))::fr) (.blk b (.cells l.toArray t (0,0))::hp)):Lst C ops Q (⟨some d,.alloc t,ty,pos,after,none⟩::rest) fr hp:=by
  refine xV J fun a w ha=>?_;obtain⟨i,hi,hz0,_,_⟩:=hz;refine⟨zS4 ..,?_⟩
  have hr:(execOp a.eval ⟨some d,.alloc t,ty,pos,after,none⟩).run C.P w=.ok (.value (.pointer (some ⟨w.heap.size,0,none⟩))) (w.alloc (.cells l.toArray t)):=by
    simp[execOp,Instr.alloc,zeroValue,typeInfo,hi,hz0,zKt,hl.eq]
  rw[hr];exact k w.heap.size _ _ ((ha.alloc (.cells l.toArray t)).put (kK hd) _)

theorem xO (hd : Nat.blt d C.N = true) (hx : ev fr x = some (.pointer (some p))) (k : Lst C ops Q rest ((d, .pointer (some p)) :: fr) hp) :
    Lst C ops Q (⟨some d,.nilCheck x,ty,pos,after,none⟩::rest) fr hp :=
  qI _ hd (fun a w ha=>zGt (ha.eval hx)) (fun a w ha=>⟨w,by simp[execOp,ha.eval hx],ha⟩) k
theorem xW (b o n:Nat):(⟨b,o,none⟩:Addr).add n=⟨b,o+n,none⟩:=by unfold Addr.add;split<;>simp_all
theorem zAe {f : Nat} {n m : Nat} (hd : Nat.blt d C.N = true) (hx : ev fr x = some (.pointer (some ⟨b, o, none⟩)))
    (hf:FI C.P s f ft off) (hi:TI C.P ft z (n+1) m)
    (k:Lst C ops Q rest ((d,.pointer (some ⟨b,o+off,none⟩))::fr) hp):Lst C ops Q (⟨some d,.fieldAddr s x f,ty,pos,after,none⟩::rest) fr hp:=by
  obtain⟨fs,fd,h1,h2,h3,h4⟩:=hf;obtain⟨i,hi,_,hs,_⟩:=hi;subst h3;subst h4;refine qI _ hd (fun a w ha=>zKp (ha.eval hx) h1 h2 hi hs) (fun a w ha=>⟨w,?_,ha⟩) k;simp[execOp,ha.eval hx,Instr.fieldAt,run_underlying h1,h2,Instr.sureAddr,fieldPlace,sizeOf,typeInfo,hi,hs,xW]
theorem zI {f : Nat} {n m : Nat} (hd : Nat.blt d C.N = true) (hx : ev fr x = some (.pointer (some ⟨b, 0, none⟩)))
    (hf:FI C.P s f ft off) (hi:TI C.P ft z (n+1) m)
    (k:Lst C ops Q rest ((d,.pointer (some ⟨b,off,none⟩))::fr) hp):Lst C ops Q (⟨some d,.fieldAddr s x f,ty,pos,after,none⟩::rest) fr hp :=
  zAe hd hx hf hi (by rw[Nat.zero_add];exact k)

class Splice (cur:List Value) (o:Nat) (vs:List Value) (out:outParam (List Value)):Prop where
  eq:out=cur.take o++vs++cur.drop (o+vs.length)
  len:o+vs.length<=cur.length
instance Splice.nil (cur:List Value):Splice cur 0 [] cur:=⟨by simp,by simp⟩
instance Splice.cons (c v:Value) (cur vs out:List Value) [h:Splice cur 0 vs out]:Splice (c::cur) 0 (v::vs) (v::out):=⟨by
  have:=h.eq;simp at this ⊢
  exact this,by have:=h.len;simp at this ⊢;omega⟩
instance Splice.succ (c:Value) (cur vs out:List Value) (o:Nat) [h:Splice cur o vs out]:Splice (c::cur) (o+1) vs (c::out):=⟨by
  have:=h.eq;simp only[List.take_succ_cons,List.cons_append,Nat.add_right_comm o 1,List.drop_succ_cons]
  rw[this],by have:=h.len;simp at this ⊢;omega⟩
class Ext (cs:List Value) (o n:Nat) (out:outParam (List Value)):Prop where
  eq:out=(cs.drop o).take n
  len:o+n<=cs.length
instance Ext.zero (cs:List Value):Ext cs 0 0 []:=⟨by simp,by simp⟩
instance Ext.cons (c:Value) (cs out:List Value) (n:Nat) [h:Ext cs 0 n out]:Ext (c::cs) 0 (n+1) (c::out):=⟨by
  have:=h.eq;simp at this ⊢
  exact this,by have:=h.len;simp at this ⊢;omega⟩
class Get (cs:List Value) (o:Nat) (v:outParam Value):Prop where
  eq:cs[o]?=some v
instance Get.zero (c:Value) (cs:List Value):Get (c::cs) 0 c:=⟨rfl⟩
instance Get.succ (c:Value) (cs:List Value) (o:Nat) (v:Value) [h:Get cs o v]:Get (c::cs) (o+1) v:=⟨by simpa using h.eq⟩

theorem zLq {P:Program} {t:TypeId} (h:aggB P t=true):P.underlying t≠none:=by
  intro e;unfold aggB at h;rw[e] at h
  cases h
def One (P:Program) (t:TypeId):Prop:=aggB P t=false∧P.underlying t≠none

theorem jM {t : TypeId} (hd : Nat.blt d C.N = true) (hx : ev fr x = some (.pointer (some p))) (ht : One C.P t)
    (hc:∀a w,At C fr hp a w->w.cell? p=some v) (k:Lst C ops Q rest ((d,v)::fr) hp):Lst C ops Q (⟨some d,.load t x,ty,pos,after,none⟩::rest) fr hp :=
  qI _ hd (fun _ _ _=>zCt ..) (fun a w ha=>⟨w,by simp[execOp,ha.eval hx,Instr.loadAt,Instr.sureAddr,loadVar,zAb ht.1 ht.2,hc a w ha],ha⟩) k
theorem qV {t : TypeId} {n m : Nat} (hd : Nat.blt d C.N = true) (hx : ev fr x = some (.pointer (some ⟨b, o, none⟩))) (ht : aggB C.P t = true)
    (hi:TI C.P t z n m) (hl:l.length=n) (hc:∀a w,At C fr hp a w->∀j u,l[j]?=some u->w.cell? ⟨b,o+j,none⟩=some u)
    (k:Lst C ops Q rest ((d,.agg l.toArray)::fr) hp):Lst C ops Q (⟨some d,.load t x,ty,pos,after,none⟩::rest) fr hp:=by
  obtain⟨i,hi,_,hs,_⟩:=hi;refine qI _ hd (fun _ _ _=>zCt ..) (fun a w ha=>⟨w,?_,ha⟩) k;have h1:=run_loadCells_list (P:=C.P) w ⟨b,o,none⟩ l (fun j u hu=>by rw[xW];exact hc a w ha j u hu);rw[hl] at h1;simp[execOp,ha.eval hx,Instr.loadAt,Instr.sureAddr,loadVar,zAb ht (zLq ht),sizeOf,typeInfo,hi,hs,h1]
theorem qY {w:World} {t:TypeId} (h:w.heap[b]?=some (.cells cs.toArray t (0,0))) (hv:cs[o]?=some v):w.cell? ⟨b,o,none⟩=some v:=by
  rw[cell_of_row w b o cs.toArray t (0,0) h];simpa using hv
theorem zS {t : TypeId} (hd : Nat.blt d C.N = true) (hx : ev fr x = some (.pointer (some ⟨b, o, none⟩))) (ht : One C.P t)
    [hm:InB b (.cells cs.toArray ct (0,0)) hp] [hv:Get cs o v] (k:Lst C ops Q rest ((d,v)::fr) hp):Lst C ops Q (⟨some d,.load t x,ty,pos,after,none⟩::rest) fr hp :=
  jM hd hx ht (fun _ _ ha=>qY (ha.mem_blk hm.mem) hv.eq) k
theorem zZ {t : TypeId} {n m : Nat} (hd : Nat.blt d C.N = true) (hx : ev fr x = some (.pointer (some ⟨b, o, none⟩))) (ht : aggB C.P t = true) (hi : TI C.P t z n m)
    [hm:InB b (.cells cs.toArray ct (0,0)) hp] [hv:Ext cs o n l] (k:Lst C ops Q rest ((d,.agg l.toArray)::fr) hp):Lst C ops Q (⟨some d,.load t x,ty,pos,after,none⟩::rest) fr hp:=by
  have hlen:=hv.len;have heq:=hv.eq
  refine qV hd hx ht hi ?_ (fun _ _ ha j u hu=>qY (ha.mem_blk hm.mem) ?_) k
  · rw[heq,List.length_take,List.length_drop];omega
  · rw[heq,List.getElem?_take] at hu
    split at hu
    · rw[List.getElem?_drop] at hu;exact hu
    · cases hu
theorem At.old (ha:At C fr hp a w) {p:Addr} {v:Value} (h:C.w0.cell? p=some v) (hb:p.block<C.B):w.cell? p=some v:=by
  rw[<-h];exact ha.below.cell hb

theorem zDe {w : World} {t : TypeId} (hs : Splice cs o vs out) (hg : w.heap[b]? = some (.cells cs.toArray t (0, 0))) (h1 : ∀ v ∈ vs, v.oneCell' = true) (P : Program) :
    ∃w',(storeCells ⟨b,o,none⟩ vs).run P w=.ok () w'∧w'.heap[b]?=some (.cells out.toArray t (0,0))∧w.grownBy w' (some b):=by
  have h:=run_storeCells_at P b o t vs 0 cs.toArray w hg (by have:=hs.len;simp;omega) h1;refine⟨_,h,?_,⟨rfl,rfl,rfl,by simp,fun k _ hk=>setRow_other w b k _ (fun e=>hk (by rw[e]))⟩⟩;rw[setRow_heap w b cs.toArray _ t _ hg,hs.eq];simp
theorem zH {t : TypeId} {n m : Nat} (hx : ev fr x = some (.pointer (some ⟨b, o, none⟩))) (hy : ev fr y = some v) (hi : TI C.P t z n m)
    [hc:Cells v vs] (hn:vs.length=n) [hm:InB b (.cells cs.toArray ct (0,0)) hp] [hs:Splice cs o vs out] [hu:UpB b (.cells cs.toArray ct (0,0)) (.cells out.toArray ct (0,0)) hp hp']
    (k:Lst C ops Q rest fr hp'):Lst C ops Q (⟨none,.store t x y,ty,pos,after,none⟩::rest) fr hp:=by
  obtain⟨i,hi,_,hsz,_⟩:=hi;refine zD2 (fun _ _ _=>zB1 ..) (fun a w ha=>?_) k;obtain⟨w',h1,h2,h3⟩:=zDe hs (ha.mem_blk hm.mem) hc.one C.P;refine⟨w',?_,ha.turn hu.upd h3 ⟨(ha.own _ hm.mem).1,h2⟩ (fun k hk=>.inl hk)⟩;simp[execOp,ha.eval hx,ha.eval hy,Instr.storeAt,Instr.sureAddr,storeVar,sizeOf,typeInfo,hi,hc.eq,hn,hsz,h1]

theorem zE {op : BinOp} {t : TypeId} {kd : IntKind} {m n : Int} (hd : Nat.blt d C.N = true) (hx : ev fr x = some (.int kd m)) (hy : ev fr y = some (.int kd n))
    (hr:∀w:World,(binOp op t (.int kd m) (.int kd n)).run C.P w=.ok v w)
    (k:Lst C ops Q rest ((d,v)::fr) hp):Lst C ops Q (⟨some d,.binOp op t x y t',ty,pos,after,none⟩::rest) fr hp:=by
  refine qI _ hd (fun a w ha=>zCg (ha.eval hx) (ha.eval hy)) (fun a w ha=>⟨w,?_,ha⟩) k
  have hg:∀w:World,(eqGuard op t x y (.int kd m) (.int kd n)).run C.P w=.ok () w:=by
    intro w;unfold eqGuard
    cases op<;>simp
  simp[execOp,ha.eval hx,ha.eval hy,hg,hr]
section
variable {P:Program} {kd:IntKind} {t:TypeId} {m n:Int} (w:World)
theorem jY:(binOp .lss t (.int kd m) (.int kd n)).run P w=.ok (.bool (decide (m<n))) w:=by simp[binOp,Op.intCmp]
theorem zEw:(binOp .leq t (.int kd m) (.int kd n)).run P w=.ok (.bool (decide (m<=n))) w:=by simp[binOp,Op.intCmp]
theorem wM:(binOp .gtr t (.int kd m) (.int kd n)).run P w=.ok (.bool (decide (n<m))) w:=by simp[binOp,Op.intCmp]
theorem zFb:(binOp .geq t (.int kd m) (.int kd n)).run P w=.ok (.bool (decide (n<=m))) w:=by simp[binOp,Op.intCmp]
theorem kD:(binOp .eql t (.int kd m) (.int kd n)).run P w=.ok (.bool (decide (m=n))) w:=by
  simp only[binOp,Op.intCmp];have:(m==n)=decide (m=n):=by cases h:(m==n)<;>simp_all
  simp[this]
theorem kT:(binOp .neq t (.int kd m) (.int kd n)).run P w=.ok (.bool (decide (m≠n))) w:=by
  simp only[binOp,Op.intCmp];have:(m != n)=decide (m≠n):=by cases h:(m != n)<;>simp_all
  simp[this]
theorem zAw (h:kd.wrap (m+n)=r):(binOp .add t (.int kd m) (.int kd n)).run P w=.ok (.int kd r) w:=by simp[binOp,Op.intArith,h]
theorem qK (h:kd.wrap (m-n)=r):(binOp .sub t (.int kd m) (.int kd n)).run P w=.ok (.int kd r) w:=by simp[binOp,Op.intArith,h]
theorem zDq (h:kd.wrap (m*n)=r):(binOp .mul t (.int kd m) (.int kd n)).run P w=.ok (.int kd r) w:=by simp[binOp,Op.intArith,h]
theorem zH8 (h0:n≠0) (h:kd.wrap (m.tdiv n)=r):(binOp .quo t (.int kd m) (.int kd n)).run P w=.ok (.int kd r) w:=by simp[binOp,Op.intDiv,h,h0]
theorem jBc (h0:n≠0) (h:m.tmod n=r):(binOp .rem t (.int kd m) (.int kd n)).run P w=.ok (.int kd r) w:=by simp[binOp,Op.intDiv,h,h0]
theorem jC2 (h:kd.wrap ((BitVec.ofInt kd.bits m &&& BitVec.ofInt kd.bits n).toNat)=r):(binOp .and t (.int kd m) (.int kd n)).run P w=.ok (.int kd r) w:=by subst h;simp only[binOp,ne_eq,not_true_eq_false,if_false,Op.intBits];rfl
theorem jD7 (h:kd.wrap ((BitVec.ofInt kd.bits m ||| BitVec.ofInt kd.bits n).toNat)=r):(binOp .or t (.int kd m) (.int kd n)).run P w=.ok (.int kd r) w:=by subst h;simp only[binOp,ne_eq,not_true_eq_false,if_false,Op.intBits];rfl
theorem zDl (h:kd.wrap ((BitVec.ofInt kd.bits m ^^^ BitVec.ofInt kd.bits n).toNat)=r):(binOp .xor t (.int kd m) (.int kd n)).run P w=.ok (.int kd r) w:=by subst h;simp only[binOp,ne_eq,not_true_eq_false,if_false,Op.intBits];rfl
theorem zF8 (h:kd.wrap ((BitVec.ofInt kd.bits m &&& ~~~ BitVec.ofInt kd.bits n).toNat)=r):(binOp .andNot t (.int kd m) (.int kd n)).run P w=.ok (.int kd r) w:=by subst h;simp only[binOp,ne_eq,not_true_eq_false,if_false,Op.intBits];rfl
end
theorem zRp {t : TypeId} {kd : IntKind} {m n : Int} (hd : Nat.blt d C.N = true) (hx : ev fr x = some (.int kd m)) (hy : ev fr y = some (.int ke n)) (h0 : 0 <= n)
    (hr:kd.wrap (m*2^(min n.toNat kd.bits))=r)
    (k:Lst C ops Q rest ((d,.int kd r)::fr) hp):Lst C ops Q (⟨some d,.binOp .shl t x y t',ty,pos,after,none⟩::rest) fr hp:=by
  refine qI _ hd (fun a w ha=>zCg (ha.eval hx) (ha.eval hy)) (fun a w ha=>⟨w,?_,ha⟩) k;simp[execOp,ha.eval hx,ha.eval hy,eqGuard,binOp,Op.shift,Int.not_lt.2 h0,hr]
theorem zDi {t : TypeId} {kd : IntKind} {m n : Int} (hd : Nat.blt d C.N = true) (hx : ev fr x = some (.int kd m)) (hy : ev fr y = some (.int ke n)) (h0 : 0 <= n)
    (hr:m.fdiv (2^(min n.toNat kd.bits))=r)
    (k:Lst C ops Q rest ((d,.int kd r)::fr) hp):Lst C ops Q (⟨some d,.binOp .shr t x y t',ty,pos,after,none⟩::rest) fr hp:=by
  refine qI _ hd (fun a w ha=>zCg (ha.eval hx) (ha.eval hy)) (fun a w ha=>⟨w,?_,ha⟩) k;simp[execOp,ha.eval hx,ha.eval hy,eqGuard,binOp,Op.shift,Int.not_lt.2 h0,hr]
theorem zSf {op : BinOp} {t : TypeId} {u u' : Value} [htb : TB u u'] (hd : Nat.blt d C.N = true) (hx : ev fr x = some u) (hy : ev fr y = some u')
    (hr:∀w:World,(do eqGuard op t x y u u';binOp op t u u':Sem Value).run C.P w=.ok v w)
    (k:Lst C ops Q rest ((d,v)::fr) hp):Lst C ops Q (⟨some d,.binOp op t x y t',ty,pos,after,none⟩::rest) fr hp:=by
  refine qI _ hd (fun a w ha=>kU _ (by rw[ha.eval hx,ha.eval hy];exact htb.tame ..)) (fun a w ha=>⟨w,?_,ha⟩) k;have:=hr w;simp only[execOp,ha.eval hx,ha.eval hy,Sem.run_bind] at this ⊢;rw[this];rfl
theorem zCn {t : TypeId} {kd : IntKind} {m : Int} {ds : TypeDesc} (hd : Nat.blt d C.N = true) (hx : ev fr x = some (.int ke m)) (hs : C.P.underlying s = some ds) (ht : C.P.underlying t = some (.int kd))
    (hr:kd.wrap m=r) (k:Lst C ops Q rest ((d,.int kd r)::fr) hp):Lst C ops Q (⟨some d,.convert s t x,ty,pos,after,none⟩::rest) fr hp:=by
  refine qI _ hd (fun a w ha=>zKw (ha.eval hx) hs ht) (fun a w ha=>⟨w,?_,ha⟩) k;simp only[execOp,ha.eval hx,convert,Sem.run_bind,run_underlying hs,run_underlying ht,Result.andThen_ok,Conv.intToInt,Sem.run_pure,hr]

theorem zC4 {t : TypeId} {n m : Nat} {kd : IntKind} {i : Int} (hd : Nat.blt d C.N = true) (hx : ev fr x = some (.pointer (some ⟨b, o, none⟩))) (hy : ev fr y = some (.int kd i))
    (ht:C.P.underlying t=some (.array len e)) (he:TI C.P e z n m) (hi:i=(j:Int)) (hj:j<len)
    (k:Lst C ops Q rest ((d,.pointer (some ⟨b,o+j*n,none⟩))::fr) hp):Lst C ops Q (⟨some d,.indexAddr t x y,ty,pos,after,none⟩::rest) fr hp:=by
  obtain⟨i',hi',_,hs,_⟩:=he;subst hi;refine qI _ hd (fun _ _ _=>zDb ..) (fun a w ha=>⟨w,?_,ha⟩) k;simp[execOp,ha.eval hx,ha.eval hy,Instr.indexAt,asIntOf,run_underlying ht,Instr.sureAddr,hj,sizeOf,typeInfo,hi',hs,xW]
theorem zQa {t : TypeId} {n m : Nat} {kd : IntKind} {i : Int} (hd : Nat.blt d C.N = true) (hx : ev fr x = some (.slice (some p) len cap)) (hy : ev fr y = some (.int kd i))
    (ht:C.P.underlying t=some (.slice e)) (he:TI C.P e z n m) (hi:i=(j:Int)) (hj:j<len)
    (k:Lst C ops Q rest ((d,.pointer (some (p.add (j*n))))::fr) hp):Lst C ops Q (⟨some d,.indexAddr t x y,ty,pos,after,none⟩::rest) fr hp:=by
  obtain⟨i',hi',_,hs,_⟩:=he;subst hi;refine qI _ hd (fun _ _ _=>zDb ..) (fun a w ha=>⟨w,?_,ha⟩) k;simp[execOp,ha.eval hx,ha.eval hy,Instr.indexAt,asIntOf,run_underlying ht,hj,sizeOf,typeInfo,hi',hs]

theorem zEr {bi : Builtin} (hd : Nat.blt d C.N = true) (hx : args.toList.map (ev fr) = vs.map some)
    (ht:∀cs,Tame C.P (builtin bi ts ty cs vs.toArray)) (hr:∀(cs:Array Bool) (w:World),(builtin bi ts ty cs vs.toArray).run C.P w=.ok (.value v) w)
    (k:Lst C ops Q rest ((d,v)::fr) hp):Lst C ops Q (⟨some d,.call {callee:=.builtin bi,args:=args,argTypes:=ts},ty,pos,after,none⟩::rest) fr hp:=by
  refine qI _ hd (fun a w ha=>yL fun cs=>by rw[wI ha hx];exact ht cs) (fun a w ha=>⟨w,?_,ha⟩) k;have:=wI ha hx;simp only[execOp,resolve,this,Sem.run_bind,Sem.run_pure,Result.andThen_ok,invoke];exact hr _ w
theorem zGq {P : Program} {t ty : TypeId} {p : Option Addr} {n c : Nat} (ht : P.underlying t = some (.slice e)) (cs : Array Bool) (w : World) :
    (builtin .len #[t] ty cs #[Value.slice p n c]).run P w=.ok (.value (.int .i64 n)) w:=by
  simp[builtin,Builtin.len_,run_underlying ht,goInt]
theorem jR {t : TypeId} {p : Option Addr} {n c : Nat} (hd : Nat.blt d C.N = true) (hx : ev fr x = some (.slice p n c)) (ht : C.P.underlying t = some (.slice e))
    (k:Lst C ops Q rest ((d,.int .i64 (n:Int))::fr) hp):Lst C ops Q (⟨some d,.call {callee:=.builtin .len,args:=#[x],argTypes:=#[t]},ty,pos,after,none⟩::rest) fr hp :=
  zEr (vs:=[.slice p n c]) hd (by simp[hx]) (fun _=>zJm) (zGq ht) k
theorem zH1 {kd : IntKind} {m n : Int} (hd : Nat.blt d C.N = true) (hx : ev fr x = some (.int kd m)) (hy : ev fr y = some (.int kd n))
    (k:Lst C ops Q rest ((d,.int kd (if n<m then n else m))::fr) hp):Lst C ops Q (⟨some d,.call {callee:=.builtin .min,args:=#[x,y],argTypes:=ts},ty,pos,after,none⟩::rest) fr hp :=
  zEr (vs:=[.int kd m,.int kd n]) hd (by simp[hx,hy]) (fun _=>zZ5) (fun cs w=>by simp[builtin,Builtin.min_,Builtin.min2]) k
theorem zSy {kd : IntKind} {m n : Int} (hd : Nat.blt d C.N = true) (hx : ev fr x = some (.int kd m)) (hy : ev fr y = some (.int kd n))
    (k:Lst C ops Q rest ((d,.int kd (if m<n then n else m))::fr) hp):Lst C ops Q (⟨some d,.call {callee:=.builtin .max,args:=#[x,y],argTypes:=ts},ty,pos,after,none⟩::rest) fr hp :=
  zEr (vs:=[.int kd m,.int kd n]) hd (by simp[hx,hy]) (fun _=>zZ8) (fun cs w=>by simp[builtin,Builtin.max_,Builtin.max2]) k

theorem zVk {t : TypeId} {vs : LV} (hd : Nat.blt d C.N = true)
    (hx:parts.toList.map (fun q=>(q.1,ev fr q.2))=vs.map (fun q=>(q.1,some q.2)))
    (hr:∀w:World,(Instr.build t vs.toArray).run C.P w=.ok (.agg l.toArray) w)
    (k:Lst C ops Q rest ((d,.agg l.toArray)::fr) hp):Lst C ops Q (⟨some d,.build t parts,ty,pos,after,none⟩::rest) fr hp:=by
  refine qI _ hd (fun _ _ _=>zKe ..) (fun a w ha=>⟨w,?_,ha⟩) k
  have h:parts.map (fun (i,x)=>(i,a.eval x))=vs.toArray:=by
    have:∀(l:List (Nat×Operand)) (vs:LV),l.map (fun q=>(q.1,ev fr q.2))=vs.map (fun q=>(q.1,some q.2))->l.map (fun (q:Nat×Operand)=>(q.1,a.eval q.2))=vs:=by
      intro l
      induction l with
      | nil=>intro vs h;cases vs with
        | nil=>rfl
        | cons=>simp at h
      | cons x l ih =>
        intro vs h
        cases vs with
        | nil=>simp at h
        | cons v vs =>
          simp only[List.map_cons,List.cons.injEq,Prod.mk.injEq] at h;rw[List.map_cons,ha.eval h.1.2,ih vs h.2,h.1.1]
    obtain⟨l⟩:=parts;simp only[List.map_toArray];rw[show (fun (x:Nat×Operand)=>match x with|(i,x)=>(i,a.eval x))=(fun (q:Nat×Operand)=>(q.1,a.eval q.2)) from rfl,this l vs hx]
  simp only[execOp,h,Sem.run_bind,hr w,Result.andThen_ok,Sem.run_pure]
theorem zCc {t : TypeId} {vs : LV} (hd : Nat.blt d C.N = true)
    (hx:parts.toList.map (fun q=>(q.1,ev fr q.2))=vs.map (fun q=>(q.1,some q.2)))
    (hr:∀w:World,(Instr.buildSlice t len vs.toArray).run C.P w=.ok (.slice (some ⟨w.heap.size,0,none⟩) len len) (w.alloc (.cells l.toArray e)))
    (k:∀b,Lst C ops Q rest ((d,.slice (some ⟨b,0,none⟩) len len)::fr) (.blk b (.cells l.toArray e (0,0))::hp)):Lst C ops Q (⟨some d,.buildSlice t len parts,ty,pos,after,none⟩::rest) fr hp:=by
  refine xV J fun a w ha=>?_
  have h:parts.map (fun (i,x)=>(i,a.eval x))=vs.toArray:=by
    have:∀(l:List (Nat×Operand)) (vs:LV),l.map (fun q=>(q.1,ev fr q.2))=vs.map (fun q=>(q.1,some q.2))->l.map (fun (q:Nat×Operand)=>(q.1,a.eval q.2))=vs:=by
      intro l
      induction l with
      | nil=>intro vs h;cases vs with
        | nil=>rfl
        | cons=>simp at h
      | cons x l ih =>
        intro vs h
        cases vs with
        | nil=>simp at h
        | cons v vs =>
          simp only[List.map_cons,List.cons.injEq,Prod.mk.injEq] at h;rw[List.map_cons,ha.eval h.1.2,ih vs h.2,h.1.1]
    obtain⟨l⟩:=parts;simp only[List.map_toArray];rw[show (fun (x:Nat×Operand)=>match x with|(i,x)=>(i,a.eval x))=(fun (q:Nat×Operand)=>(q.1,a.eval q.2)) from rfl,this l vs hx]
  refine⟨zKo ..,?_⟩
  have hrun:(execOp a.eval ⟨some d,.buildSlice t len parts,ty,pos,after,none⟩).run C.P w=.ok (.value (.slice (some ⟨w.heap.size,0,none⟩) len len)) (w.alloc (.cells l.toArray e)):=by
    simp only[execOp,h,Sem.run_bind,hr w,Result.andThen_ok,Sem.run_pure]
  rw[hrun];exact k w.heap.size _ _ ((ha.alloc (.cells l.toArray e)).put (kK hd) _)

theorem zEo {t : TypeId} (hd : Nat.blt d C.N = true)
    (k:∀b,Lst C ops Q rest ((d,.map (some b))::fr) (.blk b (.map #[] 0)::hp)):Lst C ops Q (⟨some d,.makeMap t none,ty,pos,after,none⟩::rest) fr hp:=by
  refine xV J fun a w ha=>?_;refine⟨zQq _,?_⟩;have hr:(execOp a.eval ⟨some d,.makeMap t none,ty,pos,after,none⟩).run C.P w=.ok (.value (.map (some w.heap.size))) (w.alloc (.map #[] 0)):=rfl;rw[hr];exact k w.heap.size _ _ ((ha.alloc (.map #[] 0)).put (kK hd) _)

theorem zG {x y:Code} (h:Cod C x (Exit.then (wp C.P y Q) Q) fr hp):Cod C (x.seq y) Q fr hp:=fun a w ha=>jDl (h a w ha)
theorem zD {y:Code} (h:Cod C y Q fr hp):Ex C (Exit.then (wp C.P y Q) Q) .normal fr hp:=h
theorem zN (h:Ex C Q (.exit i) fr hp):Ex C (Exit.then K Q) (.exit i) fr hp:=h
theorem zU (h:Ex C Q .ret fr hp):Ex C (Exit.then K Q) .ret fr hp:=h
theorem yS (h:Ex C Q (.panic ch) fr hp):Ex C (Exit.then K Q) (.panic ch) fr hp:=h
theorem zJ (h:Ex C Q .normal fr hp):Ex C (Exit.inBlock i Q) .normal fr hp:=h
theorem jW (h:Ex C Q .ret fr hp):Ex C (Exit.inBlock i Q) .ret fr hp:=h
theorem zE4 (h:Ex C Q (.panic ch) fr hp):Ex C (Exit.inBlock i Q) (.panic ch) fr hp:=h
theorem zY (h:Ex C Q .normal fr hp):Ex C (Exit.inBlock i Q) (.exit i) fr hp:=fun a w ha=>by
  show (if i=i then Q .normal a w else Q (.exit i) a w);rw[if_pos J];exact h a w ha
theorem wE (hij:Nat.beq j i=false) (h:Ex C Q (.exit j) fr hp):Ex C (Exit.inBlock i Q) (.exit j) fr hp:=fun a w ha=>by
  show (if j=i then Q .normal a w else Q (.exit j) a w);rw[if_neg (fun e=>by subst e;simp at hij)];exact h a w ha
theorem zL {id:Nat} {l:List Oper} (h:Lst C l.toArray Q l fr hp):Cod C (.region id l.toArray false) Q fr hp:=fun a w ha=>zNp (h a w ha)
theorem zO (h:Ex C Q .normal fr hp):Cod C .skip Q fr hp:=fun a w ha=>jC0 (h a w ha)
theorem zVm {l:Nat} (h:Ex C Q .normal fr hp):Cod C (.label l) Q fr hp:=fun a w ha=>zXg (h a w ha)
theorem jV (h:Ex C Q (.exit i) fr hp):Cod C (.exit i) Q fr hp:=fun a w ha=>jCg (h a w ha)
theorem zV (h:Ex C Q .ret fr hp):Cod C .ret Q fr hp:=fun a w ha=>jEf (h a w ha)
theorem zQ {c:Code} (h:Cod C c (Exit.inBlock i Q) fr hp):Cod C (.block i c) Q fr hp:=fun a w ha=>zZ7 (h a w ha)
theorem qE {x y:Code} (hc:ev fr c=some (.bool true)) (h:Cod C x Q fr hp):Cod C (.cond c x y) Q fr hp:=fun a w ha=>zPz (ha.eval hc) (h a w ha)
theorem kL {x y:Code} (hc:ev fr c=some (.bool false)) (h:Cod C y Q fr hp):Cod C (.cond c x y) Q fr hp:=fun a w ha=>zNo (ha.eval hc) (h a w ha)
theorem kH {x y:Code} {b:Bool} (hc:ev fr c=some (.bool b)) (h:b=true->Cod C x Q fr hp) (h':b=false->Cod C y Q fr hp):Cod C (.cond c x y) Q fr hp:=by
  cases b with
  | true=>exact qE hc (h rfl)
  | false=>exact kL hc (h' rfl)
theorem zK {x y:Code} {p:Prop} [Decidable p] (hc:ev fr c=some (.bool (decide p))) (h:p->Cod C x Q fr hp) (h':¬p->Cod C y Q fr hp):Cod C (.cond c x y) Q fr hp:=by
  by_cases hp':p
  · rw[decide_eq_true hp'] at hc;exact qE hc (h hp')
  · rw[decide_eq_false hp'] at hc;exact kL hc (h' hp')
def Rnd {G:Type} (C:Ctx) (p:G->Prop) (μ:G->Nat) (f:G->List (Nat×Value)) (h:G->List Res) (g:G) (a:Act) (w:World):Prop :=
  ∃g',p g'∧μ g'<μ g∧At C (f g') (h g') a w
theorem qT {c : Code} (p : G -> Prop) (μ : G -> Nat) (f : G -> List (Nat × Value)) (h : G -> List Res) (g0 : G) (h0 : p g0) (hs : Sub (f g0) fr) (hh : (h g0).Sublist hp)
    (round:∀g,p g->Cod C c (Exit.then (Rnd C p μ f h g) Q) (f g) (h g)):Cod C (.loop c) Q fr hp:=by
  intro a w ha;refine zGl (fun n a w=>∃g,p g∧μ g=n∧At C (f g) (h g) a w) (μ g0) ⟨g0,h0,rfl,(ha.drop_slots hs).drop_res hh⟩ ?_;rintro n a w ⟨g,hg,rfl,hat⟩;refine zCe (round g hg a w hat) ?_;intro e a' w' he
  cases e with
  | normal =>
    obtain⟨g',h1,h2,h3⟩:=he
    exact⟨μ g',h2,g',h1,rfl,h3⟩
  | _=>exact he
theorem kV {p : G -> Prop} {μ : G -> Nat} {g : G} {f : G -> List (Nat × Value)} {h : G -> List Res} (g' : G) (h0 : p g') (hm : μ g' < μ g) (hs : Sub (f g') fr) (hh : (h g').Sublist hp) :
    Ex C (Exit.then (Rnd C p μ f h g) Q) .normal fr hp :=
  fun _ _ ha=>⟨g',h0,hm,(ha.drop_slots hs).drop_res hh⟩
theorem zXd {c:Code} (hs:Sub fr' fr) (hh:hp'.Sublist hp) (h:Cod C c Q fr' hp'):Cod C c Q fr hp:=fun a w ha=>h a w ((ha.drop_slots hs).drop_res hh)

def Enters (P:Program) (f:FuncId):Prop:=(∀(args:Array Value) (w:World),(callFunc f args).run P w=.ok (.enter f args) w)∧∀args,Tame P (callFunc f args)
theorem zDc {P:Program} {cap args args':Array Value} (h:Enters P f) (e:args++cap=args'):Invokes P (.func f) cap args f args':=by
  subst e;exact⟨h.2 _,fun w=>h.1 _ w⟩
theorem jD {P : Program} (hf : P.funcs[f]? = some fn) (hb : fn.body.isSome = true) (hn : (fn.name == "runtime.NumGoroutine") = false) : Enters P f := by
  refine⟨?_,zNr hf hb hn⟩;intro args w;have hb':fn.body.isNone=false:=by cases h:fn.body<;>simp_all
  have hp:(program:Sem Program).run P w=.ok P w:=rfl;simp only[callFunc,Sem.run_bind,hp,Result.andThen_ok,hf,hn,hb',Bool.false_eq_true,if_false]
  rfl
def Grew (w w':World) (rs:List Res):Prop:=Below w.heap.size w w'∧(∀r,r∈rs->r.ok w.heap.size w')∧(rs.filterMap Res.id).Nodup
theorem At.more (ha:At C fr hp a w) {w':World} {rs:List Res} (h:Grew w w' rs):At C fr (rs++hp) a w':=ha.grew h.1 h.2.1 h.2.2
theorem xT {cap : List Value} {p : X -> Prop} {val : X -> Value} {rs : X -> List Res} (hd : Nat.blt d C.N = true)
    (hx:ev fr x=some (.func (.func f) first.toArray cap.toArray)) (hargs:args.toList.map (ev fr)=vs.map some) (hf:Enters C.P f)
    (hc:∀a w,At C fr hp a w->Calls C.P f (first++vs++cap).toArray w fun e w'=>∃x,p x∧e=.returned (val x)∧At C fr (rs x) a w')
    (k:∀x,p x->Lst C ops Q rest ((d,val x)::fr) (rs x)):Lst C ops Q (⟨some d,.call {callee:=.value x,args:=args,argTypes:=ts},ty,pos,after,none⟩::rest) fr hp:=by
  refine xV J fun a w ha=>?_;refine⟨zFw (ha.eval hx) hf.2,?_⟩
  have hr:(execOp a.eval ⟨some d,.call {callee:=.value x,args:=args,argTypes:=ts},ty,pos,after,none⟩).run C.P w=.ok (.enter f (first++vs++cap).toArray) w:=by
    simp only[execOp,resolve,wI ha hargs,ha.eval hx,Deferred.ofValue,Sem.run_bind,Sem.run_pure,Result.andThen_ok,invoke,List.append_toArray];exact hf.1 _ w
  rw[hr];show Calls C.P f _ w _;refine (hc a w ha).mono ?_;rintro e w' ⟨x,h1,rfl,h2⟩;exact k x h1 _ _ (h2.put (kK hd) _)

theorem kJ {p : X -> Prop} {val : X -> Value} {rs : X -> List Res} (hd : Nat.blt d C.N = true)
    (hargs:args.toList.map (ev fr)=vs.map some) (hf:Enters C.P f)
    (hc:∀a w,At C fr hp a w->Calls C.P f vs.toArray w fun e w'=>∃x,p x∧e=.returned (val x)∧Grew w w' (rs x))
    (k:∀x,p x->Lst C ops Q rest ((d,val x)::fr) (rs x++hp)):Lst C ops Q (⟨some d,.call {callee:=.value (.func f),args:=args,argTypes:=ts},ty,pos,after,none⟩::rest) fr hp:=by
  refine xT (first:=[]) (cap:=[]) (p:=p) (val:=val) (rs:=fun x=>rs x++hp) hd J hargs hf (fun a w ha=>?_) k;simp only[List.nil_append,List.append_nil];refine (hc a w ha).mono ?_;rintro e w' ⟨x,h1,h2,h3⟩;exact⟨x,h1,h2,ha.more h3⟩
theorem jE (hd : Nat.blt d C.N = true)
    (hargs:args.toList.map (ev fr)=vs.map some) (hf:Enters C.P f)
    (hc:∀a w,At C fr hp a w->Calls C.P f vs.toArray w fun e w'=>e=.returned v∧Grew w w' [])
    (k:Lst C ops Q rest ((d,v)::fr) hp):Lst C ops Q (⟨some d,.call {callee:=.value (.func f),args:=args,argTypes:=ts},ty,pos,after,none⟩::rest) fr hp :=
  kJ (X:=Unit) (p:=fun _=>True) (val:=fun _=>v) (rs:=fun _=>[]) hd hargs hf
    (fun a w ha=>(hc a w ha).mono fun _ _ ⟨h1,h2⟩=>⟨(),trivial,h1,h2⟩) (fun _ _=>k)

def idx:Nat->List Value->List (Nat×Value)
  | _,[]=>[]
  | n,v::vs=>(n,v)::idx (n+1) vs
theorem zB8 (vs:List Value):∀(n t:Nat) (v:Value),look (idx n vs) t=some v->∃j,t=n+j∧vs[j]?=some v:=by
  induction vs with
  | nil=>intro n t v h;cases h
  | cons u vs ih =>
    intro n t v h;show _;unfold idx at h;rw[zBj] at h
    by_cases e:n=t
    · rw[if_pos e] at h;exact⟨0,by omega,by simpa using h⟩
    · rw[if_neg e] at h;obtain⟨j,h1,h2⟩:=ih (n+1) t v h;exact⟨j+1,by omega,by simpa using h2⟩
theorem enter {P : Program} {c : Code} {w : World} (fr : LV)
    (hf:P.funcs[f]?=some fn) (hb:fn.body=some c) (hN:fn.ntmps=N) (hle:Nat.ble vs.length N=true) (hfr:idx 0 vs=fr)
    (h:Cod ⟨P,w.heap.size,w,N,[]⟩ c (bodyPost P fn R) fr []):Calls P f vs.toArray w R:=by
  refine zIz hf hb (h _ _ ⟨?_,rfl,?_,Below.refl _ _,Nat.le_refl _,(fun r hr=>by cases hr),List.nodup_nil⟩)
  · have:vs.length<=N:=by simpa[Nat.ble_eq] using hle
    simp[hN];omega
  · intro t v ht;rw[<-hfr] at ht;obtain⟨j,rfl,hj⟩:=zB8 vs 0 t v ht
    have hjl:j<vs.length:=by
      rcases Nat.lt_or_ge j vs.length with h1|h1
      · exact h1
      · rw[List.getElem?_eq_none h1] at hj;cases hj
    simp only[Nat.zero_add,Array.getD_eq_getD_getElem?];rw[Array.getElem?_append_left (by simpa using hjl)];simp[hj]
theorem zX (hds : C.ds = []) (hr : ∀ a w, At C fr hp a w -> ResV C.P fn a.tmps v w)
    (k:∀a w,At C fr hp a w->R (.returned v) w):Ex C (bodyPost C.P fn R) .ret fr hp :=
  fun a w ha=>⟨ha.defs.trans hds,v,hr a w ha,k a w ha⟩
theorem jC8 (hds : C.ds = []) (hr : ∀ a w, At C fr hp a w -> ResV C.P fn a.tmps v w)
    (k:∀a w,At C fr hp a w->R (.returned v) w):Ex C (bodyPost C.P fn R) .normal fr hp :=
  fun a w ha=>⟨ha.defs.trans hds,v,hr a w ha,k a w ha⟩
theorem jAi {t:Nat} (h:fn.results=#[.tmp t]) (hv:look fr t=some v) (ha:At C fr hp a w):ResV C.P fn a.tmps (v) w:=by
  refine⟨wH ..,fun v₁ hrely=>?_⟩;have ha:=ha.rely hrely;have:=ha.slots t v hv;simp only[Array.getD_eq_getD_getElem?] at this;simp[results,h,this]
theorem xN {t:Nat} (h:fn.results=#[.tmp t,.tmp u]) (hv:look fr t=some v) (hu:look fr u=some v') (ha:At C fr hp a w):ResV C.P fn a.tmps ((.tuple #[v,v'])) w:=by
  refine⟨wH ..,fun v₁ hrely=>?_⟩;have ha:=ha.rely hrely;have h1:=ha.slots t v hv;have h2:=ha.slots u v' hu;simp only[Array.getD_eq_getD_getElem?] at h1 h2;simp[results,h,h1,h2]
theorem zJb (h:fn.results=#[]) (_ha:At C fr hp a w):ResV C.P fn a.tmps ((.tuple #[])) w:=by
  refine⟨wH ..,fun v₁ hrely=>?_⟩;have ha:=_ha.rely hrely;simp[results,h]
theorem At.grown {P:Program} {w0:World} {ds:List Deferred} {rs:List Res} (ha:At ⟨P,w0.heap.size,w0,N,ds⟩ fr hp a w) (hs:rs.Sublist hp):Grew w0 w rs :=
  ⟨ha.below,fun r hr=>ha.own r (hs.subset hr),ha.apart.sublist (hs.filterMap _)⟩

theorem zEl (ha:At C fr hp a w) {j t:Nat} {b:Bool} (hj:(ops[j]?).bind (·.dst)=some t) (hv:look fr t=some (.bool b)):yielded ops a.tmps j=some b:=by
  have h:=ha.slots t _ hv;unfold yielded;rw[hj];simp only[Option.bind_some];rw[Array.getD_eq_getD_getElem?] at h
  cases hq:a.tmps[t]? with
  | none=>rw[hq] at h;simp[undef] at h
  | some v=>rw[hq] at h;simp only[Option.getD_some] at h;subst h;rfl
theorem zM {dst : Option Tmp} {t : Nat} {b : Bool} (hj : (ops[j]?).bind (·.dst) = some t) (hv : look fr t = some (.bool b))
    (k:Lst C ops Q (⟨dst,op,ty,pos,after,none⟩::rest) fr hp):Lst C ops Q (⟨dst,op,ty,pos,after,some (j,b)⟩::rest) fr hp:=by
  intro a w ha;have h:=k a w ha;simp only[wpList] at h ⊢
  have e:Region.wanted ⟨dst,op,ty,pos,after,some (j,b)⟩ (yielded ops a.tmps)=true:=by
    simp[Region.wanted,zEl ha hj hv]
  have e':Region.wanted ⟨dst,op,ty,pos,after,none⟩ (yielded ops a.tmps)=true:=rfl;rw[if_pos e'] at h;rw[if_pos e];exact h.same J J J
theorem zR {t d : Nat} {b : Bool} (hd : Nat.blt d C.N = true) (hj : (ops[j]?).bind (·.dst) = some t) (hv : look fr t = some (.bool (!b)))
    (k:Lst C ops Q rest ((d,undef)::fr) hp):Lst C ops Q (⟨some d,op,ty,pos,after,some (j,b)⟩::rest) fr hp:=by
  intro a w ha;simp only[wpList]
  have e:Region.wanted ⟨some d,op,ty,pos,after,some (j,b)⟩ (yielded ops a.tmps)=false:=by
    cases b<;>simp[Region.wanted,zEl ha hj hv]
  rw[if_neg (by rw[e];simp)];exact k _ _ (ha.put (kK hd) _)
theorem xU {l : List Oper} {t : Nat} {p : Prop} [Decidable p] (hv : look fr t = some (.bool (decide p))) (h : p -> Lst C ops Q l ((t, .bool true) :: fr) hp) (h' : ¬p -> Lst C ops Q l ((t, .bool false) :: fr) hp) :
    Lst C ops Q l fr hp:=by
  intro a w ha
  have same:∀b,look fr t=some (.bool b)->At C ((t,.bool b)::fr) hp a w:=fun b hb=>ha.drop_slots_of fun s v hs=>by
    rw[zBj] at hs
    by_cases e:t=s
    · subst e;rw[if_pos J] at hs;rw[hb,hs]
    · rw[if_neg e] at hs;exact hs
  by_cases hp':p
  · exact h hp' a w (same true (by rw[hv,decide_eq_true hp']))
  · exact h' hp' a w (same false (by rw[hv,decide_eq_false hp']))
theorem vE {l : List Oper} {t : Nat} {b : Bool} (hv : look fr t = some (.bool b)) (h : b = true -> Lst C ops Q l ((t, .bool true) :: fr) hp) (h' : b = false -> Lst C ops Q l ((t, .bool false) :: fr) hp) :
    Lst C ops Q l fr hp:=by
  refine xU (p:=b=true) (t:=t) (by rw[hv];cases b<;>rfl) h (fun hn=>h' (by cases b<;>simp_all))
theorem jB9 {l:List Oper} (n:Nat) (fr':LV) (hp':List Res) (h:Lst C ops (Exit.then (At C fr' hp') Q) (l.take n) fr hp) (h':Lst C ops Q (l.drop n) fr' hp'):Lst C ops Q l fr hp:=by
  intro a w ha;rw[<-List.take_append_drop n l];exact zGh (M:=fun _ _=>True) (Q':=Exit.then (At C fr' hp') Q) (Q:=Q) (fun _ _ _ h=>h) (fun a w h=>h' a w h) _ a w (h a w ha)
theorem qN (hs:Sub fr' fr) (hh:hp'.Sublist hp):Ex C (Exit.then (At C fr' hp') Q) .normal fr hp:=fun _ _ ha=>(ha.drop_slots hs).drop_res hh
theorem vU {l:List Oper} (n d:Nat) (v:Value) (h:Lst C ops (Exit.then (At C ((d,v)::fr) hp) Q) (l.take n) fr hp) (h':Lst C ops Q (l.drop n) ((d,v)::fr) hp):Lst C ops Q l fr hp :=
  jB9 n _ _ h h'

theorem At.add_nil (ha:At C fr hp a w) (e size:Nat):At C fr (.row e size none 0 0 []::hp) a w:=by
  refine⟨ha.size,ha.defs,ha.slots,ha.below,ha.base,?_,?_⟩
  · intro r hr
    rcases List.mem_cons.1 hr with h|h
    · subst h;exact World.ownsRow_nil w C.B e size
    · exact ha.own r h
  · rw[List.filterMap_cons_none J];exact ha.apart
theorem wK {c:Code} (e size:Nat) (h:Cod C c Q fr (.row e size none 0 0 []::hp)):Cod C c Q fr hp:=fun a w ha=>h a w (ha.add_nil e size)
theorem zC6 {w:World} {e n:Nat} (h:w.ownsRow B e size v n xs):∃A c,v=.slice A n c:=by
  rcases h.2 with ⟨rfl,rfl⟩|⟨g,cap,cur,rfl,_⟩
  · exact⟨_,_,rfl⟩
  · exact⟨_,_,rfl⟩
theorem zDs {P : Program} {w : World} {t ty : TypeId} {i : TypeInfo} (ht : P.underlying t = some (.slice e)) (hi : P.info? e = some i) (hz : i.zero = some z) {B n : Nat} {v : Value} {xs : List Value}
    (hown:w.ownsRow B e i.size v n xs) {a:Addr} {m c:Nat} {news:List Value} (hl:news.length=m*i.size) (hnews:∀j u,news[j]?=some u->w.cell? (a.add j)=some u) (h1:∀u∈news,u.oneCell'=true)
    (h63:n+m<=maxLen) (hbytes:(n+m)*i.bytes<=140737488355328) {v':Value} {w':World} (hr:(Builtin.append_ #[t,t] ty #[v,.slice (some a) m c]).run P w=.ok v' w') :
    ∀k,v'.ownBlock=some k->v.ownBlock=some k∨w.heap.size<=k:=by
  have hsmall:n+m<=9223372036854775807:=by simp only[maxLen] at h63;omega
  intro k hk
  rcases hown.2 with ⟨rfl,rfl⟩|⟨g,cap,cur,rfl,hbg,hg,hnc,hcm,hcs,htake⟩
  · by_cases hm:m=0
    · subst hm;have hn:news=[]:=List.eq_nil_of_length_eq_zero (by simpa using hl);subst hn
      have hr0:(Builtin.append_ #[t,t] ty #[.slice none 0 0,.slice (some a) 0 c]).run P w=.ok (.slice none 0 0) w:=by
        simp[Builtin.append_,run_underlying ht,sizeOf,typeInfo,hi,Builtin.lenOf,Builtin.firstCells,loadCells,loadCellsFrom]
      rw[hr0] at hr
      cases hr
      cases hk
    · have hr0:=run_append_nil (P:=P) w t ty e i z ht hi hz a m c news hl hnews (by omega) (by omega) (by simp only[Nat.zero_add] at hbytes;omega);rw[hr0] at hr
      cases hr
      right;have:some w.heap.size=some k:=hk
      cases this
      exact Nat.le_refl _
  · by_cases hroom:n+m<=cap
    · have hfit:n*i.size+news.length<=cur.size:=by rw[hl,hcs,<-Nat.add_mul];exact Nat.mul_le_mul_right _ hroom
      have hr0:=run_append_room (P:=P) w t ty e i ht hi g n cap cur hg a m c news hl hnews h1 hroom hfit;rw[hr0] at hr
      cases hr
      exact .inl hk
    · have holds:∀j u,xs[j]?=some u->w.cell? ((⟨g,0,none⟩:Addr).add j)=some u:=hown.cells (g:=g) J;have hr0:=run_append_grow (P:=P) w t ty e i z ht hi hz ⟨g,0,none⟩ n cap xs hown.1 holds a m c news hl hnews (by omega) (by omega) (growslice_fits (by omega) hbytes);rw[hr0] at hr
      cases hr
      right;have:some w.heap.size=some k:=hk
      cases this
      exact Nat.le_refl _
theorem kI {t : TypeId} {n c m cb ct : Nat} {news : List Value} {hp' : Option Addr -> Nat -> List Res} (hd : Nat.blt d C.N = true)
    (hx:ev fr x=some (.slice A n c)) (hy:ev fr y=some (.slice (some ⟨b,0,none⟩) m cb)) (ht:C.P.underlying t=some (.slice e)) (hi:TI C.P e z size bytes) (hzs:z.cells.size=size) (hs0:Nat.blt 0 size=true)
    [hb:InB b (.cells news.toArray ct (0,0)) hp] (hl:news.length=m*size) [ho:Ones news] [hr:InR A e size n c xs hp] [hu:∀A' c',UpR A e size n c xs (.row e size A' (n+m) c' (xs++news)) hp (hp' A' c')]
    (h63:n+m<=maxLen) (hbytes:(n+m)*bytes<=140737488355328)
    (k:∀A' c',Lst C ops Q rest ((d,.slice A' (n+m) c')::fr) (hp' A' c')) :
    Lst C ops Q (⟨some d,.call {callee:=.builtin .append,args:=#[x,y],argTypes:=#[t,t]},ty,pos,after,none⟩::rest) fr hp:=by
  refine xV J fun a w ha=>?_;obtain⟨i,hi1,hi2,hi3,hi4⟩:=hi;have hown:=ha.own _ hr.mem;have hblk:=ha.mem_blk hb.mem;subst hi3;subst hi4
  have hnews:∀j u,news[j]?=some u->w.cell? ((⟨b,0,none⟩:Addr).add j)=some u:=by
    intro j u hu';rw[xW,Nat.zero_add];exact qY hblk hu'
  obtain⟨v',w',hrun,hown',hg,_⟩:=run_append_own (P:=C.P) w C.B t ty e i z i.size i.bytes ht hi1 hi2 J J hzs (kK hs0) _ n xs hown ⟨b,0,none⟩ m cb news hl hnews ho.one h63 hbytes ha.base;have hplace:=zDs ht hi1 hi2 hown hl hnews ho.one h63 hbytes hrun;obtain⟨A',c',rfl⟩:=zC6 hown';refine⟨yL fun cs=>by simp only[List.map_toArray,List.map_cons,List.map_nil,ha.eval hx,ha.eval hy];exact zCq ht,?_⟩
  have hr':(execOp a.eval ⟨some d,.call {callee:=.builtin .append,args:=#[x,y],argTypes:=#[t,t]},ty,pos,after,none⟩).run C.P w=.ok (.value (.slice A' (n+m) c')) w':=by
    simp only[execOp,resolve,invoke,builtin,Sem.run_bind,Sem.run_pure,Result.andThen_ok,List.map_toArray,List.map_cons,List.map_nil,ha.eval hx,ha.eval hy,hrun]
  rw[hr'];exact k A' c' _ _ ((ha.turn (hu A' c').upd hg hown' hplace).put (kK hd) _)

theorem jO {t : TypeId} {n m : Nat} {kd : IntKind} {i : Int} (hd : Nat.blt d C.N = true) (hx : ev fr x = some (.slice (some ⟨b, o, none⟩) len cap)) (hy : ev fr y = some (.int kd i))
    (ht:C.P.underlying t=some (.slice e)) (he:TI C.P e z n m) (hi:i=(j:Int)) (hj:j<len)
    (k:Lst C ops Q rest ((d,.pointer (some ⟨b,o+j*n,none⟩))::fr) hp):Lst C ops Q (⟨some d,.indexAddr t x y,ty,pos,after,none⟩::rest) fr hp :=
  zQa hd hx hy ht he hi hj (by rw[xW];exact k)
theorem vN {w:World} {e n c:Nat} (h:w.ownsRow B e size (.slice A n c) n xs) (hn:0<n):∃g,A=some ⟨g,0,none⟩:=by
  rcases h.2 with ⟨h1,h2⟩|⟨g,cap,cur,hv,_⟩
  · omega
  · injection hv with h1 _ _;exact⟨g,h1⟩
theorem jQ (ha:At C fr hp a w) {A:Option Addr} {g e size n c o:Nat} {xs:List Value} {v:Value} (hr:Res.row e size A n c xs∈hp) (hA:A=some ⟨g,0,none⟩) (hv:xs[o]?=some v):w.cell? ⟨g,o,none⟩=some v:=by
  subst hA;have h:=World.ownsRow.cells (ha.own _ hr) (g:=g) J o v hv;rw[xW,Nat.zero_add] at h;exact h
def RdL {α:Type} (cells:α->List Value) (size:Nat) (w:World) (A:Option Addr) (l:List α):Prop :=
  0<l.length->∃b o,A=some ⟨b,o,none⟩∧b<w.heap.size∧∀k x,l[k]?=some x->∀j u,(cells x)[j]?=some u->w.cell? ⟨b,o+k*size+j,none⟩=some u
theorem RdL.later {cells:α->List Value} {w:World} {l:List α} (h:RdL cells size w A l) (hb:Below w.heap.size w w'):RdL cells size w' A l:=fun hl=>by
  obtain⟨b,o,h1,h2,h3⟩:=h hl;refine⟨b,o,h1,Nat.lt_of_lt_of_le h2 hb.size,fun k x hk j u hu=>?_⟩;rw[<-h3 k x hk j u hu];exact hb.cell (p:=⟨b,o+k*size+j,none⟩) h2
theorem zEp {cells:α->List Value} (hs:∀x,(cells x).length=size):∀(l:List α) (k:Nat) (x:α),l[k]?=some x->∀j u,(cells x)[j]?=some u->(l.flatMap cells)[k*size+j]?=some u:=by
  intro l
  induction l with
  | nil=>intro k x h;simp at h
  | cons y l ih =>
    intro k x h j u hu
    have hj:j<size:=by
      rw[<-hs x]
      rcases Nat.lt_or_ge j (cells x).length with h1|h1
      · exact h1
      · rw[List.getElem?_eq_none h1] at hu;cases hu
    rw[List.flatMap_cons]
    cases k with
    | zero =>
      simp at h;subst h;rw[Nat.zero_mul,Nat.zero_add,List.getElem?_append_left (by rw[hs];exact hj)]
      exact hu
    | succ k =>
      rw[List.getElem?_cons_succ] at h;have:=ih k x h j u hu;rw[List.getElem?_append_right (by rw[hs,Nat.succ_mul];omega),hs,Nat.succ_mul];rw[show k*size+size+j-size=k*size+j from by omega];exact this
theorem kX (ha:At C fr hp a w) {α:Type} {cells:α->List Value} {size e c:Nat} (hs:∀x,(cells x).length=size) {A:Option Addr} {n:Nat} {l:List α} (hr:Res.row e size A n c (l.flatMap cells)∈hp) (hn:n=l.length):RdL cells size w A l:=by
  intro hl;obtain⟨g,hg⟩:=vN (ha.own _ hr) (by omega)
  refine⟨g,0,hg,?_,fun k x hk j u hu=>?_⟩
  · exact (Res.lt (ha.own _ hr) g (by rw[hg];rfl)).2
  · rw[Nat.zero_add];exact jQ ha hr hg (zEp hs l k x hk j u hu)

theorem zMb (l : List Value) : ∀ (cs : Array Value) (off j : Nat), off + j + l.length <= cs.size ->
    ((l.zipIdx j).foldl (fun cs (q:Value×Nat)=>cs.setIfInBounds (off+q.2) q.1) cs).toList=cs.toList.take (off+j)++l++cs.toList.drop (off+j+l.length):=by
  induction l with
  | nil=>intro cs off j _;simp
  | cons v l ih =>
    intro cs off j h;simp at h;rw[List.zipIdx_cons,List.foldl_cons,ih _ _ _ (by simp;omega)];have e:=list_seg_step cs.toList (off+j) v l (by simp;omega);simpa[Array.toList_setIfInBounds,Nat.add_assoc,Nat.add_comm 1] using e
def ordered (size:Nat):Nat->List (Nat×Value)->List Value->Prop
  | _,[],l=>l=[]
  | i,(j,v)::vs,l=>j=i∧∃l1 l2,l=l1++l2∧v.cells=l1.toArray∧l1.length=size∧ordered size (i+1) vs l2
theorem zPc : ∀ (vs : LV) (i : Nat) (cs : Array Value) (l : List Value), ordered size i vs l -> cs.size = (i + vs.length) * size ->
    Instr.fill (fun i=>some (i*size,size)) cs vs=some (cs.toList.take (i*size)++l).toArray:=by
  intro vs
  induction vs with
  | nil =>
    intro i cs l h hs
    cases h
    simp only[List.length_nil,Nat.add_zero] at hs;simp only[Instr.fill,List.append_nil]
    rw[List.take_of_length_le (by simp;omega),Array.toArray_toList]
  | cons q vs ih =>
    obtain⟨j,v⟩:=q;intro i cs l h hs;obtain⟨rfl,l1,l2,rfl,hv,h1,h2⟩:=h;have hsz:cs.size=j*size+size+vs.length*size:=by rw[hs,List.length_cons,Nat.add_mul,Nat.succ_mul];omega
    simp only[Instr.fill,hv];rw[if_neg (by simp[h1];omega)];have hfold:=zMb l1 cs (j*size) 0 (by simp;omega);simp only[Nat.add_zero] at hfold
    have hz:l1.toArray.zipIdx.foldl (fun cs (q:Value×Nat)=>cs.setIfInBounds (j*size+q.2) q.1) cs=(cs.toList.take (j*size)++l1++cs.toList.drop (j*size+l1.length)).toArray:=by
      apply Array.ext'
      rw[<-Array.foldl_toList];simpa using hfold
    rw[show (fun (cs:Array Value) (x:Value×Nat)=>match x with|(c,j_1)=>cs.setIfInBounds (j*size+j_1) c)=(fun (cs:Array Value) (q:Value×Nat)=>cs.setIfInBounds (j*size+q.2) q.1) from rfl,hz];rw[ih (j+1) _ l2 h2 (by simp[h1];rw[Nat.add_mul (j+1),Nat.succ_mul];omega)]
    congr 1
    have e1:(j+1)*size=(cs.toList.take (j*size)++l1).length:=by rw[List.length_append,List.length_take,h1,Nat.succ_mul];simp;omega
    rw[e1];show ((List.take (cs.toList.take (j*size)++l1).length (cs.toList.take (j*size)++l1++cs.toList.drop (j*size+l1.length)))++l2).toArray=_;rw[List.take_left,List.append_assoc]
theorem zE5 {P : Program} {t : TypeId} {vs : LV} (ht : P.underlying t = some (.slice e)) (hi : TI P e z size bytes) (h0 : Nat.blt 0 (vs.length * size) = true) (hb : Nat.ble (vs.length * size) 16777216 = true)
    (ho:ordered size 0 vs l) (w:World) :
    (Instr.buildSlice t vs.length vs.toArray).run P w=.ok (.slice (some ⟨w.heap.size,0,none⟩) vs.length vs.length) (w.alloc (.cells l.toArray e)):=by
  obtain⟨i,hi1,hi2,hi3,_⟩:=hi
  subst hi3
  have hf:∀zero:Array Value,Instr.fill (fun j=>some (j*i.size,i.size)) ((Array.range (vs.length*i.size)).map (zero[·%zero.size]!)) vs=some l.toArray:=by
    intro zero
    rw[zPc vs 0 _ l ho (by simp)]
    simp
  have h0':¬(vs.length*i.size=0):=by have:=kK h0;omega
  have hb' : ¬ (vs.length * i.size > 2 ^ 24) := by have : vs.length * i.size <= 16777216 := by simpa [Nat.ble_eq] using hb
                                                   omega
  have hz:(zeroValue e).run P w=.ok z w:=by simp[zeroValue,typeInfo,hi1,hi2]
  have hs:(sizeOf e).run P w=.ok i.size w:=by simp[sizeOf,typeInfo,hi1]
  simp only[Instr.buildSlice,Sem.run_bind,run_underlying ht,Result.andThen_ok,hs,hb',h0',if_false,hz,Sem.run_pure,hf,newRow]
  rfl
theorem zHb {P : Program} {t : TypeId} (ht : P.underlying t = some (.slice e)) (hi : TI P e z size bytes) (w : World) :
    (Instr.buildSlice t 0 ([]:List (Nat×Value)).toArray).run P w=.ok (.slice (some ⟨w.heap.size,0,none⟩) 0 0) (w.alloc (.cells ([]:List Value).toArray e)):=by
  obtain⟨i,hi1,hi2,hi3,_⟩:=hi;have hs:(sizeOf e).run P w=.ok i.size w:=by simp[sizeOf,typeInfo,hi1]
  simp only[Instr.buildSlice,Sem.run_bind,run_underlying ht,Result.andThen_ok,hs]
  have e0:∀f:Nat->Value,Array.map f (Array.range 0)=#[]:=fun f=>by
    apply Array.ext'
    simp
  simp[Instr.fill,newRow,e0]
class Lit (size:Nat) (i:Nat) (vs:LV) (l:outParam (List Value)):Prop where
  ord:ordered size i vs l
instance Lit.nil (size i:Nat):Lit size i [] []:=⟨rfl⟩
instance Lit.one (i:Nat) (v:Value) (vs:LV) (l:List Value) [h:Cells v [v]] [h':Lit 1 (i+1) vs l]:Lit 1 i ((i,v)::vs) (v::l) :=
  ⟨rfl,[v],l,rfl,h.eq,rfl,h'.ord⟩
theorem Lit.agg {l1:List Value} {vs:LV} (h:l1.length=size) (h':ordered size (i+1) vs l):ordered size i ((i,.agg l1.toArray)::vs) (l1++l) :=
  ⟨rfl,l1,l,rfl,rfl,h,h'⟩
theorem kB {t : TypeId} {vs : LV} (hd : Nat.blt d C.N = true)
    (hx:parts.toList.map (fun q=>(q.1,ev fr q.2))=vs.map (fun q=>(q.1,some q.2))) (ht:C.P.underlying t=some (.slice e)) (hi:TI C.P e z 1 bytes) (hl:vs.length=len) (h0:Nat.blt 0 (vs.length*1)=true) (hb:Nat.ble (vs.length*1) 16777216=true) [ho:Lit 1 0 vs l]
    (k:∀b,Lst C ops Q rest ((d,.slice (some ⟨b,0,none⟩) len len)::fr) (.blk b (.cells l.toArray e (0,0))::hp)):Lst C ops Q (⟨some d,.buildSlice t len parts,ty,pos,after,none⟩::rest) fr hp:=by
  subst hl;exact zCc hd hx (zE5 ht hi h0 hb ho.ord) k
theorem yV {t : TypeId} {vs : LV} (l : List Value) {z : Value} {bytes len size : Nat} (hd : Nat.blt d C.N = true)
    (hx:parts.toList.map (fun q=>(q.1,ev fr q.2))=vs.map (fun q=>(q.1,some q.2))) (ht:C.P.underlying t=some (.slice e)) (hi:TI C.P e z size bytes) (hl:vs.length=len) (h0:Nat.blt 0 (vs.length*size)=true) (hb:Nat.ble (vs.length*size) 16777216=true) (ho:ordered size 0 vs l)
    (k:∀b,Lst C ops Q rest ((d,.slice (some ⟨b,0,none⟩) len len)::fr) (.blk b (.cells l.toArray e (0,0))::hp)):Lst C ops Q (⟨some d,.buildSlice t len parts,ty,pos,after,none⟩::rest) fr hp:=by
  subst hl;exact zCc hd hx (zE5 ht hi h0 hb ho) k
theorem zDz {t : TypeId} (hd : Nat.blt d C.N = true) (ht : C.P.underlying t = some (.slice e)) (hi : TI C.P e z size bytes)
    (k:∀b,Lst C ops Q rest ((d,.slice (some ⟨b,0,none⟩) 0 0)::fr) (.blk b (.cells ([]:List Value).toArray e (0,0))::hp)):Lst C ops Q (⟨some d,.buildSlice t 0 #[],ty,pos,after,none⟩::rest) fr hp :=
  zCc (vs:=[]) hd J (zHb ht hi) k

theorem zHm {dst : Option Tmp} {t : TypeId} (hx : ev fr x = some (.iface t v)) (k : Ex C Q (.panic [{ v := .iface t v, recovered := false }]) fr hp) :
    Lst C ops Q (⟨dst,.panic x,ty,pos,after,none⟩::rest) fr hp:=by
  refine xV J fun a w ha=>?_;refine⟨zPv (ha.eval hx),?_⟩
  have hr:(execOp a.eval ⟨dst,.panic x,ty,pos,after,none⟩).run C.P w=.halt (.panic (.iface t v)) w:=by
    simp[execOp,ha.eval hx,Instr.panic,goPanic,Sem.run,Result.andThen]
  rw[hr];exact k a w ha
theorem vG {t : TypeId} {dt : TypeDesc} (hd : Nat.blt d C.N = true) (hx : ev fr x = some v) (ht : C.P.underlying t = some dt) (hn : (match dt with | .interface _ => false | _ => true) = true)
    (k:Lst C ops Q rest ((d,.iface t v)::fr) hp):Lst C ops Q (⟨some d,.makeInterface t x,ty,pos,after,none⟩::rest) fr hp:=by
  refine qI _ hd (fun _ _ _=>zHs ..) (fun a w ha=>⟨w,?_,ha⟩) k;simp only[execOp,ha.eval hx,Instr.makeInterface,Sem.run_bind,run_underlying ht,Result.andThen_ok]
  cases dt<;>first|rfl|(simp at hn)
theorem zJ7 {dst : Option Tmp} {cap : List Value} 
    (hx:ev fr x=some (.func (.func f) first.toArray cap.toArray)) (hargs:args.toList.map (ev fr)=vs.map some) (hf:Enters C.P f)
    (hc:∀a w,At C fr hp a w->Calls C.P f (first++vs++cap).toArray w fun e w'=>e=.panicked ch∧At C fr hp' a w')
    (k:Ex C Q (.panic ch) fr hp'):Lst C ops Q (⟨dst,.call {callee:=.value x,args:=args,argTypes:=ts},ty,pos,after,none⟩::rest) fr hp:=by
  refine xV J fun a w ha=>?_;refine⟨zFw (ha.eval hx) hf.2,?_⟩
  have hr:(execOp a.eval ⟨dst,.call {callee:=.value x,args:=args,argTypes:=ts},ty,pos,after,none⟩).run C.P w=.ok (.enter f (first++vs++cap).toArray) w:=by
    simp only[execOp,resolve,wI ha hargs,ha.eval hx,Deferred.ofValue,Sem.run_bind,Sem.run_pure,Result.andThen_ok,invoke,List.append_toArray];exact hf.1 _ w
  rw[hr];show Calls C.P f _ w _;refine (hc a w ha).mono ?_;rintro e w' ⟨rfl,h2⟩;exact k _ _ h2
theorem zNn {dst : Option Tmp} 
    (hargs:args.toList.map (ev fr)=vs.map some) (hf:Enters C.P f)
    (hc:∀a w,At C fr hp a w->Calls C.P f vs.toArray w fun e w'=>e=.panicked ch∧Grew w w' [])
    (k:Ex C Q (.panic ch) fr hp):Lst C ops Q (⟨dst,.call {callee:=.value (.func f),args:=args,argTypes:=ts},ty,pos,after,none⟩::rest) fr hp:=by
  refine zJ7 (first:=[]) (cap:=[]) J hargs hf (fun a w ha=>?_) k;simp only[List.nil_append,List.append_nil];refine (hc a w ha).mono ?_;rintro e w' ⟨h1,h2⟩;exact⟨h1,ha.more h2⟩
theorem At.deferred (ha:At C fr hp a w) (df:Deferred):At {C with ds:=df::C.ds} fr hp {a with defers:=df::a.defers} w :=
  ⟨ha.size,by show df::a.defers=df::C.ds;rw[ha.defs],ha.slots,ha.below,ha.base,ha.own,ha.apart⟩
theorem zMk {fn : Fn} {cap : List Value} (hx : ev fr x = some (.func fn first.toArray cap.toArray)) (hargs : args.toList.map (ev fr) = vs.map some)
    (k:Lst {C with ds:={target:=.fn fn cap.toArray,args:=(first++vs).toArray}::C.ds} ops Q rest fr hp):Lst C ops Q (⟨none,.defer {callee:=.value x,args:=args,argTypes:=ts},ty,pos,after,none⟩::rest) fr hp:=by
  refine xV J fun a w ha=>?_;refine⟨zPr (ha.eval hx),?_⟩
  have hr:(execOp a.eval ⟨none,.defer {callee:=.value x,args:=args,argTypes:=ts},ty,pos,after,none⟩).run C.P w=.ok (.defer {target:=.fn fn cap.toArray,args:=(first++vs).toArray}) w:=by
    simp only[execOp,resolve,wI ha hargs,ha.eval hx,Deferred.ofValue,Sem.run_bind,Sem.run_pure,Result.andThen_ok,List.append_toArray]
  rw[hr];exact k _ _ (ha.deferred _)

theorem zO4 {P : Program} {c : Code} {w : World} (fr : LV)
    (hf:P.funcs[f]?=some fn) (hb:fn.body=some c) (hN:fn.ntmps=N) (hle:Nat.ble vs.length N=true) (hfr:idx 0 vs=fr)
    (h:Cod ⟨P,w.heap.size,w,N,[]⟩ c (bodyPostD P fn R) fr []):Calls P f vs.toArray w R:=by
  refine zC3 hf hb (h _ _ ⟨?_,rfl,?_,Below.refl _ _,Nat.le_refl _,(fun r hr=>by cases hr),List.nodup_nil⟩)
  · have:vs.length<=N:=by simpa[Nat.ble_eq] using hle
    simp[hN];omega
  · intro t v ht;rw[<-hfr] at ht;obtain⟨j,rfl,hj⟩:=zB8 vs 0 t v ht
    have hjl:j<vs.length:=by
      rcases Nat.lt_or_ge j vs.length with h1|h1
      · exact h1
      · rw[List.getElem?_eq_none h1] at hj;cases hj
    simp only[Nat.zero_add,Array.getD_eq_getD_getElem?];rw[Array.getElem?_append_left (by simpa using hjl)];simp[hj]
theorem zF3 {P:Program} (p:Addr) (w:World):(asAddr (.pointer (some p))).run P w=.ok p w:=rfl
theorem zB3 (ha : At C fr hp a w) {ty ct : TypeId} {b n m : Nat} {z : Value} {l : List Value} (ht : aggB C.P ty = true) (hi : TI C.P ty z n m) [hm : InB b (.cells l.toArray ct (0, 0)) hp] (hl : l.length = n) :
    (loadVar ty ⟨b,0,none⟩).run C.P w=.ok (.agg l.toArray) w:=by
  obtain⟨i,hi,_,hs,_⟩:=hi;have h1:=run_loadCells_list (P:=C.P) w ⟨b,0,none⟩ l (fun j u hu=>by rw[xW,Nat.zero_add];exact qY (ha.mem_blk hm.mem) hu);rw[hl] at h1;simp[loadVar,zAb ht (zLq ht),sizeOf,typeInfo,hi,hs,h1]
theorem xC {n m : Nat} {ty : TypeId} (h : fn.results = #[.cell u ty]) (hu : look fr u = some (.pointer (some ⟨b, 0, none⟩))) (ht : aggB C.P ty = true) (hi : TI C.P ty z n m)
    [hm:InB b (.cells l.toArray ct (0,0)) hp] (hl:l.length=n) (ha:At C fr hp a w):ResV C.P fn a.tmps ((.agg l.toArray)) w:=by
  refine⟨wH ..,fun v₁ hrely=>?_⟩;have ha:=ha.rely hrely;have h2:=ha.slots u _ hu;have hl':=zB3 ha ht hi hl (ct:=ct) (b:=b);simp only[results,h,Array.getD_eq_getD_getElem?] at h2 ⊢;simp[h2,zF3,hl']
theorem zBe {t n m : Nat} {ty : TypeId} (h : fn.results = #[.cell u ty, .tmp t]) (hu : look fr u = some (.pointer (some ⟨b, 0, none⟩))) (hv : look fr t = some v) (ht : aggB C.P ty = true) (hi : TI C.P ty z n m)
    [hm:InB b (.cells l.toArray ct (0,0)) hp] (hl:l.length=n) (ha:At C fr hp a w):ResV C.P fn a.tmps ((.tuple #[.agg l.toArray,v])) w:=by
  refine⟨wH ..,fun v₁ hrely=>?_⟩;have ha:=ha.rely hrely;have h2:=ha.slots u _ hu;have h1:=ha.slots t _ hv;have hl':=zB3 ha ht hi hl (ct:=ct) (b:=b);simp only[results,h,Array.getD_eq_getD_getElem?] at h1 h2 ⊢;simp[h1,h2,zF3,hl']
theorem xB {t s:Nat} {v'':Value} (h:fn.results=#[.tmp t,.tmp u,.tmp s]) (hv:look fr t=some v) (hu:look fr u=some v') (hs:look fr s=some v'') (ha:At C fr hp a w):ResV C.P fn a.tmps ((.tuple #[v,v',v''])) w:=by
  refine⟨wH ..,fun v₁ hrely=>?_⟩;have ha:=ha.rely hrely;have h1:=ha.slots t v hv;have h2:=ha.slots u v' hu;have h3:=ha.slots s v'' hs;simp only[Array.getD_eq_getD_getElem?] at h1 h2 h3;simp[results,h,h1,h2,h3]
theorem kZ (ha:At C fr hp a w) {α:Type} {cells:α->List Value} {size ct b:Nat} (hs:∀x,(cells x).length=size) {l:List α} {cs:List Value} [hm:InB b (.cells cs.toArray ct (0,0)) hp] (hcs:cs=l.flatMap cells):RdL cells size w (some ⟨b,0,none⟩) l:=by
  intro _;subst hcs;refine⟨b,0,rfl,(Res.lt (ha.own _ hm.mem) b J).2,fun k x hk j u hu=>?_⟩;rw[Nat.zero_add];exact qY (ha.mem_blk hm.mem) (zEp hs l k x hk j u hu)

def Yld (C:Ctx) (o:Oper) (fr:LV) (hp:List Res) (v:Value):Prop:=o.guard=none∧∀a w,At C fr hp a w->Tame C.P (execOp a.eval o)∧(execOp a.eval o).run C.P w=.ok (.value v) w
section
variable {dst:Option Tmp}
theorem kF (hx:ev fr x=some v):Yld C ⟨dst,.move x,ty,pos,after,none⟩ fr hp v:=⟨rfl,fun a w ha=>⟨zMz _,by simp[execOp,ha.eval hx]⟩⟩
theorem jP (hx:ev fr x=some v):Yld C ⟨dst,.assign x,ty,pos,after,none⟩ fr hp v:=⟨rfl,fun a w ha=>⟨zIr _,by simp[execOp,ha.eval hx]⟩⟩
theorem xQ (hc:ev fr c=some (.bool true)) (hx:ev fr x=some v):Yld C ⟨dst,.pick c x y,ty,pos,after,none⟩ fr hp v:=⟨rfl,fun a w ha=>⟨zD5 ..,by simp[execOp,ha.eval hc,ha.eval hx,asBool]⟩⟩
theorem qH (hc:ev fr c=some (.bool false)) (hy:ev fr y=some v):Yld C ⟨dst,.pick c x y,ty,pos,after,none⟩ fr hp v:=⟨rfl,fun a w ha=>⟨zD5 ..,by simp[execOp,ha.eval hc,ha.eval hy,asBool]⟩⟩
theorem zCa {b:Bool} {t:TypeId} (hx:ev fr x=some (.bool b)):Yld C ⟨dst,.unOp .not t x,ty,pos,after,none⟩ fr hp (.bool (!b)):=⟨rfl,fun a w ha=>⟨zM1 ..,by simp[execOp,ha.eval hx,Op.unary]⟩⟩
theorem jN (hx:ev fr x=some (.tuple vs.toArray)) (hv:vs[i]?=some v):Yld C ⟨dst,.extract x i,ty,pos,after,none⟩ fr hp v:=⟨rfl,fun a w ha=>⟨zG2 ..,by simp[execOp,ha.eval hx,Instr.extract,hv]⟩⟩
theorem qD (hx:ev fr x=some (.pointer (some p))):Yld C ⟨dst,.nilCheck x,ty,pos,after,none⟩ fr hp (.pointer (some p)):=⟨rfl,fun a w ha=>⟨zGt (ha.eval hx),by simp[execOp,ha.eval hx]⟩⟩
theorem zQi {fn:Fn} {first:Array Operand} (hf:first.toList.map (ev fr)=fs.map some) (hc:captured.toList.map (ev fr)=cs.map some):Yld C ⟨dst,.makeFunc fn first captured,ty,pos,after,none⟩ fr hp (.func fn fs.toArray cs.toArray) :=
  ⟨rfl,fun a w ha=>⟨zGr ..,by simp only[execOp,wI ha hf,wI ha hc,Instr.makeFunc,Sem.run_bind,Sem.run_pure,Result.andThen_ok]⟩⟩
theorem xG {f : Nat} {n m : Nat} (hx : ev fr x = some (.pointer (some ⟨b, o, none⟩)))
    (hf:FI C.P s f ft off) (hi:TI C.P ft z (n+1) m):Yld C ⟨dst,.fieldAddr s x f,ty,pos,after,none⟩ fr hp (.pointer (some ⟨b,o+off,none⟩)):=by
  obtain⟨fs,fd,h1,h2,h3,h4⟩:=hf;obtain⟨i,hi,_,hs,_⟩:=hi;subst h3;subst h4;exact⟨rfl,fun a w ha=>⟨zKp (ha.eval hx) h1 h2 hi hs,by simp[execOp,ha.eval hx,Instr.fieldAt,run_underlying h1,h2,Instr.sureAddr,fieldPlace,sizeOf,typeInfo,hi,hs,xW]⟩⟩
theorem zP {f : Nat} {n m : Nat} (hx : ev fr x = some (.pointer (some ⟨b, 0, none⟩)))
    (hf:FI C.P s f ft off) (hi:TI C.P ft z (n+1) m):Yld C ⟨dst,.fieldAddr s x f,ty,pos,after,none⟩ fr hp (.pointer (some ⟨b,off,none⟩)):=by
  have:=xG (C:=C) (hp:=hp) (dst:=dst) (ty:=ty) (pos:=pos) (after:=after) hx hf hi
  rwa[Nat.zero_add] at this
theorem jC {t:TypeId} (hx:ev fr x=some (.pointer (some p))) (ht:One C.P t) (hc:∀a w,At C fr hp a w->w.cell? p=some v):Yld C ⟨dst,.load t x,ty,pos,after,none⟩ fr hp v :=
  ⟨rfl,fun a w ha=>⟨zCt ..,by simp[execOp,ha.eval hx,Instr.loadAt,Instr.sureAddr,loadVar,zAb ht.1 ht.2,hc a w ha]⟩⟩
theorem jJ {t:TypeId} (hx:ev fr x=some (.pointer (some ⟨b,o,none⟩))) (ht:One C.P t) [hm:InB b (.cells cs.toArray ct (0,0)) hp] [hv:Get cs o v]:Yld C ⟨dst,.load t x,ty,pos,after,none⟩ fr hp v :=
  jC hx ht (fun _ _ ha=>qY (ha.mem_blk hm.mem) hv.eq)
theorem qW {t : TypeId} {n m : Nat} (hx : ev fr x = some (.pointer (some ⟨b, o, none⟩))) (ht : aggB C.P t = true)
    (hi:TI C.P t z n m) (hl:l.length=n) (hc:∀a w,At C fr hp a w->∀j u,l[j]?=some u->w.cell? ⟨b,o+j,none⟩=some u):Yld C ⟨dst,.load t x,ty,pos,after,none⟩ fr hp (.agg l.toArray):=by
  obtain⟨i,hi,_,hs,_⟩:=hi;refine⟨rfl,fun a w ha=>⟨zCt ..,?_⟩⟩;have h1:=run_loadCells_list (P:=C.P) w ⟨b,o,none⟩ l (fun j u hu=>by rw[xW];exact hc a w ha j u hu);rw[hl] at h1;simp[execOp,ha.eval hx,Instr.loadAt,Instr.sureAddr,loadVar,zAb ht (zLq ht),sizeOf,typeInfo,hi,hs,h1]
theorem kR {t : TypeId} {n m : Nat} (hx : ev fr x = some (.pointer (some ⟨b, o, none⟩))) (ht : aggB C.P t = true) (hi : TI C.P t z n m)
    [hm:InB b (.cells cs.toArray ct (0,0)) hp] [hv:Ext cs o n l]:Yld C ⟨dst,.load t x,ty,pos,after,none⟩ fr hp (.agg l.toArray):=by
  have hlen:=hv.len;have heq:=hv.eq
  refine qW hx ht hi ?_ (fun _ _ ha j u hu=>qY (ha.mem_blk hm.mem) ?_)
  · rw[heq,List.length_take,List.length_drop];omega
  · rw[heq,List.getElem?_take] at hu
    split at hu
    · rw[List.getElem?_drop] at hu;exact hu
    · cases hu
theorem zGj {t : TypeId} {n m : Nat} {kd : IntKind} {i : Int} (hx : ev fr x = some (.pointer (some ⟨b, o, none⟩))) (hy : ev fr y = some (.int kd i))
    (ht:C.P.underlying t=some (.array len e)) (he:TI C.P e z n m) (hi:i=(j:Int)) (hj:j<len):Yld C ⟨dst,.indexAddr t x y,ty,pos,after,none⟩ fr hp (.pointer (some ⟨b,o+j*n,none⟩)):=by
  obtain⟨i',hi',_,hs,_⟩:=he;subst hi;exact⟨rfl,fun a w ha=>⟨zDb ..,by simp[execOp,ha.eval hx,ha.eval hy,Instr.indexAt,asIntOf,run_underlying ht,Instr.sureAddr,hj,sizeOf,typeInfo,hi',hs,xW]⟩⟩
theorem jG {t : TypeId} {n m : Nat} {kd : IntKind} {i : Int} (hx : ev fr x = some (.slice (some ⟨b, o, none⟩) len cap)) (hy : ev fr y = some (.int kd i))
    (ht:C.P.underlying t=some (.slice e)) (he:TI C.P e z n m) (hi:i=(j:Int)) (hj:j<len):Yld C ⟨dst,.indexAddr t x y,ty,pos,after,none⟩ fr hp (.pointer (some ⟨b,o+j*n,none⟩)):=by
  obtain⟨i',hi',_,hs,_⟩:=he;subst hi;exact⟨rfl,fun a w ha=>⟨zDb ..,by simp[execOp,ha.eval hx,ha.eval hy,Instr.indexAt,asIntOf,run_underlying ht,hj,sizeOf,typeInfo,hi',hs,xW]⟩⟩
theorem kW {op : BinOp} {t : TypeId} {kd : IntKind} {m n : Int} (hx : ev fr x = some (.int kd m)) (hy : ev fr y = some (.int kd n))
    (hr:∀w:World,(binOp op t (.int kd m) (.int kd n)).run C.P w=.ok v w):Yld C ⟨dst,.binOp op t x y t',ty,pos,after,none⟩ fr hp v:=by
  refine⟨rfl,fun a w ha=>⟨zCg (ha.eval hx) (ha.eval hy),?_⟩⟩
  have hg:∀w:World,(eqGuard op t x y (.int kd m) (.int kd n)).run C.P w=.ok () w:=by
    intro w;unfold eqGuard
    cases op<;>simp
  simp[execOp,ha.eval hx,ha.eval hy,hg,hr]
theorem vQ {t : TypeId} {p : Option Addr} {n c : Nat} (hx : ev fr x = some (.slice p n c)) (ht : C.P.underlying t = some (.slice e)) :
    Yld C ⟨dst,.call {callee:=.builtin .len,args:=#[x],argTypes:=#[t]},ty,pos,after,none⟩ fr hp (.int .i64 (n:Int)):=by
  refine⟨rfl,fun a w ha=>⟨yL fun _=>zJm,?_⟩⟩;have:=zGq (P:=C.P) (ty:=ty) (p:=p) (n:=n) (c:=c) ht;simp only[execOp,resolve,ha.eval hx,Sem.run_bind,Sem.run_pure,Result.andThen_ok,invoke,List.map_toArray,List.map_cons,List.map_nil];exact this _ w
theorem jBp {o:Oper} (hdst:o.dst=some d) (hd:Nat.blt d C.N=true) (y:Yld C o fr hp v) (k:Lst C ops Q rest ((d,v)::fr) hp):Lst C ops Q (o::rest) fr hp:=by
  obtain⟨dst,op,ty,pos,after,guard⟩:=o;have hg:guard=none:=y.1;subst hg;have hdst':dst=some d:=hdst;subst hdst';exact qI v hd (fun a w ha=>(y.2 a w ha).1) (fun a w ha=>⟨w,(y.2 a w ha).2,ha⟩) k
end

def Mem (C:Ctx) (hp:List Res) (w:World):Prop:=Below C.B C.w0 w∧C.B<=w.heap.size∧(∀r,r∈hp->r.ok C.B w)∧(hp.filterMap Res.id).Nodup
theorem At.toMem (ha:At C fr hp a w) {hpS:List Res} (hs:hpS.Sublist hp):Mem C hpS w:=⟨ha.below,ha.base,fun r hr=>ha.own r (hs.subset hr),ha.apart.sublist (hs.filterMap _)⟩
theorem At.ofMem (ha:At C fr hp a w) {hpS:List Res} {w':World} (h:Mem C hpS w'):At C fr hpS a w':=⟨ha.size,ha.defs,ha.slots,h.1,h.2.1,h.2.2.1,h.2.2.2⟩
def OnlyN (Q:QT):Exit->Act->World->Prop
  | .normal,a,w=>Q .normal a w
  | _,_,_=>False
theorem Mem.rely {hp:List Res} (w w':World) (h:Mem C hp w) (hr:Rl w w'):Mem C hp w' :=
  ⟨h.1.trans (hr.mono h.2.1),Nat.le_trans h.2.1 hr.size,fun r hr'=>Res.keep (h.2.2.1 r hr') (fun k hk=>hr.block k (Res.lt (h.2.2.1 r hr') k hk).2),h.2.2.2⟩
def Any (C:Ctx) (ops:Array Oper) (Q:QT) (hpS:List Res) (fuel:Nat) (listed:Array Bool) (fr:LV) (hp:List Res):Prop :=
  ∀a w,At C fr hp a w->wpAnyH C.P .any ops (Lax (OnlyN Q)) (Mem C hpS) fuel listed a w
theorem At.drew (ha:At C fr hp a w):At C fr hp a {w with drawn:=w.drawn+1} :=
  ⟨ha.size,ha.defs,ha.slots,⟨ha.below.os,ha.below.tape,ha.below.output,ha.below.size,ha.below.block⟩,ha.base,fun r hr=>Res.keep (w:=w) (ha.own r hr) (fun _ _=>rfl),ha.apart⟩
variable {hpS:List Res} {fuel:Nat} {listed listed':Array Bool}
theorem zMh {id : Nat} {l : List Oper} (hm : C.P.follows .mixedOrders = true) (n : Nat) (hn : l.length = n) (lst : List Bool) (hl : Array.replicate n false = lst.toArray) (_hs : hpS.Sublist hp) (h : Any C l.toArray Q hpS n lst.toArray fr hp) :
    Cod C (.region id l.toArray true) Q fr hp:=by
  intro a w ha
  refine zCe (Q:=OnlyN Q) (zP8 (zB5 (S:=Mem C hpS) hm ?_)) ?_
  · have h1:=h a _ ha;rw[<-hl] at h1;simpa[hn] using h1
  · intro e a' w' he
    cases e with
    | normal=>exact he
    | _=>exact he.elim
theorem zZu {rs:List Nat} (hr:Region.ready .any ops listed=rs) (h0:rs=[]) (h:Ex C Q .normal fr hp):Any C ops Q hpS fuel listed fr hp :=
  fun a w ha=>zIy (hr.trans h0) (Lax.of (show OnlyN Q .normal a w from h a w ha)) fuel
theorem zAo {o : Oper} (i : Nat) (hi : ops[i]? = some o) (hdst : o.dst = some d) (hd : Nat.blt d C.N = true) (hns : Region.noSelect ops = true) (hf : Region.free .any ops listed i = true) (hr : (Region.ready .any ops listed).contains i = true)
    (hs:hpS.Sublist hp) (y:Yld C o fr hpS v) (hl:listed.setIfInBounds i true=listed') (k:Any C ops Q hpS fuel listed' ((d,v)::fr) hp):Any C ops Q hpS (fuel+1) listed fr hp:=by
  intro a w ha
  refine zA9 Mem.rely (fun _ _ _ h hr=>h.rely hr) hi hns hf hr (fun c a w h=>h.elim fun _ h=>h.1.elim) (.inl ⟨?_,(y.2 a w (ha.ofMem (ha.toMem hs))).1,fun w' hw'=>(y.2 a w' (ha.ofMem hw')).2⟩) (ha.toMem hs) ?_
  · unfold Region.wanted;rw[y.1]
  · rw[hl,hdst];exact k _ _ (ha.put (kK hd) v)
theorem zI2 {dst : Option Tmp} {t : Nat} {b : Bool} (i : Nat) (hi : ops[i]? = some ⟨dst, op, ty, pos, after, some (j, b)⟩) (hj : (ops[j]?).bind (·.dst) = some t) (hv : look fr t = some (.bool b)) (hdst : dst = some d) (hd : Nat.blt d C.N = true) (hns : Region.noSelect ops = true)
    (hf:Region.free .any ops listed i=true) (hr:(Region.ready .any ops listed).contains i=true) (hs:hpS.Sublist hp) (y:Yld C ⟨dst,op,ty,pos,after,none⟩ fr hpS v) (hl:listed.setIfInBounds i true=listed') (k:Any C ops Q hpS fuel listed' ((d,v)::fr) hp):Any C ops Q hpS (fuel+1) listed fr hp:=by
  intro a w ha
  refine zA9 Mem.rely (fun _ _ _ h hr=>h.rely hr) hi hns hf hr (fun c a w h=>h.elim fun _ h=>h.1.elim) (.inl ⟨?_,(y.2 a w (ha.ofMem (ha.toMem hs))).1,fun w' hw'=>(y.2 a w' (ha.ofMem hw')).2⟩) (ha.toMem hs) ?_
  · simp[Region.wanted,zEl ha hj hv]
  · rw[hl];show wpAnyH _ _ _ _ _ _ _ (a.put dst v) w;rw[hdst];exact k _ _ (ha.put (kK hd) v)
theorem zPf {dst : Option Tmp} {t : Nat} {b : Bool} (i : Nat) (hi : ops[i]? = some ⟨dst, op, ty, pos, after, some (j, b)⟩) (hj : (ops[j]?).bind (·.dst) = some t) (hv : look fr t = some (.bool (!b))) (hdst : dst = some d) (hd : Nat.blt d C.N = true) (hns : Region.noSelect ops = true)
    (hf:Region.free .any ops listed i=true) (hr:(Region.ready .any ops listed).contains i=true) (hs:hpS.Sublist hp) (hl:listed.setIfInBounds i true=listed') (k:Any C ops Q hpS fuel listed' ((d,undef)::fr) hp):Any C ops Q hpS (fuel+1) listed fr hp:=by
  intro a w ha
  refine zA9 (v:=undef) Mem.rely (fun _ _ _ h hr=>h.rely hr) hi hns hf hr (fun c a w h=>h.elim fun _ h=>h.1.elim) (.inr ⟨?_,rfl⟩) (ha.toMem hs) ?_
  · cases b<;>simp[Region.wanted,zEl ha hj hv]
  · rw[hl];show wpAnyH _ _ _ _ _ _ _ (a.put dst undef) w;rw[hdst];exact k _ _ (ha.put (kK hd) undef)
def Nxt (C:Ctx) (ops:Array Oper) (Q:QT) (hpS:List Res) (fuel:Nat) (listed:Array Bool) (a:Act) (w:World):Prop :=
  Mem C hpS w∧wpAnyH C.P .any ops (Lax (OnlyN Q)) (Mem C hpS) fuel listed a w
theorem wP {o:Oper} (hi:ops[i]?=some o) {K:Act->World->Prop} (h:Lst C ops (Exit.then K (Lax (OnlyN Q))) [o] fr hp) (ha:At C fr hp a w):wpOp C.P ops (Lax (OnlyN Q)) i K a w:=by
  have h:=h a w ha;unfold wpOp;simp only[hi];simp only[wpList] at h
  split at h
  · rename_i hw;rw[if_pos hw];exact h.mono (fun _ _ x=>x) (fun _ _ _ x=>x)
  · rename_i hw;rw[if_neg hw];exact h
theorem jA8 {o:Oper} (i:Nat) (hr:Region.ready .any ops listed=[i]) (hi:ops[i]?=some o) (hl:listed.setIfInBounds i true=listed') (h:Lst C ops (Exit.then (Nxt C ops Q hpS fuel listed') (Lax (OnlyN Q))) [o] fr hp):Any C ops Q hpS (fuel+1) listed fr hp:=by
  intro a w ha;refine zBz hr (by simp) ?_;intro k hk;simp at hk;subst hk;rw[hl];exact wP hi h ha
theorem qG {o : Oper} (i j : Nat) (hr : Region.ready .any ops listed = [i, j]) (hi : ops[i]? = some o) (hj : ops[j]? = some o') (hl : listed.setIfInBounds i true = l1) (hl' : listed.setIfInBounds j true = l2)
    (h:Lst C ops (Exit.then (Nxt C ops Q hpS fuel l1) (Lax (OnlyN Q))) [o] fr hp) (h':Lst C ops (Exit.then (Nxt C ops Q hpS fuel l2) (Lax (OnlyN Q))) [o'] fr hp):Any C ops Q hpS (fuel+1) listed fr hp:=by
  intro a w ha;refine zBz hr (by simp) ?_;intro k hk;simp at hk
  rcases hk with rfl|rfl
  · rw[hl];exact wP hi h ha
  · rw[hl'];exact wP hj h' ha
theorem zV8 {o o'' : Oper} {l3 : Array Bool} (i j m : Nat) (hr : Region.ready .any ops listed = [i, j, m]) (hi : ops[i]? = some o) (hj : ops[j]? = some o') (hm : ops[m]? = some o'') (hl : listed.setIfInBounds i true = l1) (hl' : listed.setIfInBounds j true = l2) (hl'' : listed.setIfInBounds m true = l3)
    (h:Lst C ops (Exit.then (Nxt C ops Q hpS fuel l1) (Lax (OnlyN Q))) [o] fr hp) (h':Lst C ops (Exit.then (Nxt C ops Q hpS fuel l2) (Lax (OnlyN Q))) [o'] fr hp) (h'':Lst C ops (Exit.then (Nxt C ops Q hpS fuel l3) (Lax (OnlyN Q))) [o''] fr hp):Any C ops Q hpS (fuel+1) listed fr hp:=by
  intro a w ha;refine zBz hr (by simp) ?_;intro k hk;simp at hk
  rcases hk with rfl|rfl|rfl
  · rw[hl];exact wP hi h ha
  · rw[hl'];exact wP hj h' ha
  · rw[hl''];exact wP hm h'' ha
theorem zPq (hs:hpS.Sublist hp) (h:Any C ops Q hpS fuel listed fr hp):Ex C (Exit.then (Nxt C ops Q hpS fuel listed) (Lax (OnlyN Q))) .normal fr hp :=
  fun a w ha=>⟨ha.toMem hs,h a w ha⟩
theorem zFh {t:Nat} {b:Bool} (hv:look fr t=some (.bool b)) (h:b=true->Any C ops Q hpS fuel listed ((t,.bool true)::fr) hp) (h':b=false->Any C ops Q hpS fuel listed ((t,.bool false)::fr) hp):Any C ops Q hpS fuel listed fr hp:=by
  intro a w ha
  have same:At C ((t,.bool b)::fr) hp a w:=ha.drop_slots_of fun s v hs=>by
    rw[zBj] at hs
    by_cases e:t=s
    · subst e;rw[if_pos J] at hs;rw[hv,hs]
    · rw[if_neg e] at hs;exact hs
  cases b with
  | true=>exact h rfl a w same
  | false=>exact h' rfl a w same
theorem zGw {t:Nat} {p:Prop} [Decidable p] (hv:look fr t=some (.bool (decide p))) (h:p->Any C ops Q hpS fuel listed ((t,.bool true)::fr) hp) (h':¬p->Any C ops Q hpS fuel listed ((t,.bool false)::fr) hp):Any C ops Q hpS fuel listed fr hp :=
  zFh hv (fun e=>h (of_decide_eq_true e)) (fun e=>h' (of_decide_eq_false e))
end
end
section
variable [I:Sys]
variable {G:Type} {a0:Act} {c:Code} {fr0:LV} {l:List Res}
section
variable {C:Ctx} {fr:LV} {hp hp':List Res} {a:Act} {w:World} {ops:Array Oper} {Q:QT} {rest:List Oper}
 {d:Nat} {ty:TypeId} {pos:String} {after:Array Edge}
theorem zVb (h:Cod C c (Exit.noGoto Q) fr hp):Cod C (.scope c) Q fr hp:=fun a w ha=>zIl (h a w ha)
theorem zKl (h:Ex C Q .normal fr hp):Ex C (Exit.noGoto Q) .normal fr hp:=h
def Gho {G:Type} (C:Ctx) (p:G->Prop) (f:G->List (Nat×Value)) (h:G->List Res) (a:Act) (w:World):Prop:=∃g,p g∧At C (f g) (h g) a w
inductive Rem (r:Res):List Res->List Res->Prop
 | here (l:List Res):Rem r (r::l) l
 | there (x:Res) {l l':List Res} (h:Rem r l l'):Rem r (x::l) (x::l')
theorem Rem.perm {r:Res} {l':List Res} (h:Rem r l l'):l.Perm (r::l'):=by
 induction h with
 | here l=>exact .refl _
 | there x _ ih=>exact (ih.cons x).trans (.swap r x _)
inductive Pck:List Res->List Res->Prop
 | nil (l:List Res):Pck [] l
 | refl (l:List Res):Pck l l
 | cons {r:Res} {t l l':List Res} (h:Rem r l l') (h':Pck t l'):Pck (r::t) l
 | perm {t l l':List Res} (h:l.Perm l') (h':Pck t l'):Pck t l
 | skip {t l:List Res} (x:Res) (h:Pck t l):Pck t (x::l)
theorem Pck.sub {t:List Res} (h:Pck t l):∃l',l.Perm l'∧t.Sublist l':=by
 induction h with
 | nil l=>exact⟨l,.refl _,List.nil_sublist _⟩
 | refl l=>exact⟨l,.refl _,List.Sublist.refl _⟩
 | @cons r t l l' h _ ih =>
  obtain⟨l2,h1,h2⟩:=ih
  exact⟨r::l2,h.perm.trans (h1.cons r),h2.cons_cons r⟩
 | perm h _ ih =>
  obtain⟨l2,h1,h2⟩:=ih
  exact⟨l2,h.trans h1,h2⟩
 | skip x _ ih =>
  obtain⟨l2,h1,h2⟩:=ih;exact⟨x::l2,h1.cons x,h2.cons x⟩
theorem At.permed (ha:At C fr hp a w) (h:hp.Perm hp'):At C fr hp' a w :=
 ⟨ha.size,ha.defs,ha.slots,ha.below,ha.base,fun r hr=>ha.own r (h.mem_iff.2 hr),(h.filterMap _).nodup_iff.1 ha.apart⟩
theorem At.pck (ha:At C fr hp a w) (h:Pck hp' hp):At C fr hp' a w:=by
 obtain⟨l,h1,h2⟩:=h.sub;exact (ha.permed h1).drop_res h2
theorem qF (p:G->Prop) (f:G->List (Nat×Value)) (h:G->List Res) (h1:Cod C c (Exit.then (Gho C p f h) Q) fr hp) (h2:∀g,p g->Ex C Q .normal (f g) (h g)):Cod C c Q fr hp:=by
 intro a w ha;refine zCe (h1 a w ha) ?_;intro e a' w' he
 cases e with
 | normal=>obtain⟨g,hg,ha'⟩:=he;exact h2 g hg _ _ ha'
 | _=>exact he
theorem jK {p:G->Prop} {f:G->List (Nat×Value)} {h:G->List Res} (g:G) (hg:p g) (hs:Sub (f g) fr) (hh:Pck (h g) hp):Ex C (Exit.then (Gho C p f h) Q) .normal fr hp :=
 fun _ _ ha=>⟨g,hg,(ha.drop_slots hs).pck hh⟩
theorem kS {p:G->Prop} {μ:G->Nat} {g:G} {f:G->List (Nat×Value)} {h:G->List Res} (g':G) (h0:p g') (hm:μ g'<μ g) (hs:Sub (f g') fr) (hh:Pck (h g') hp) :
  Ex C (Exit.then (Rnd C p μ f h g) Q) .normal fr hp:=fun _ _ ha=>⟨g',h0,hm,(ha.drop_slots hs).pck hh⟩
theorem qU (p:G->Prop) (μ:G->Nat) (f:G->List (Nat×Value)) (h:G->List Res) (g0:G) (h0:p g0) (hs:Sub (f g0) fr) (hh:Pck (h g0) hp)
  (round:∀g,p g->Cod C c (Exit.then (Rnd C p μ f h g) Q) (f g) (h g)):Cod C (.loop c) Q fr hp:=fun a w ha =>
 qT p μ f h g0 h0 hs (List.Sublist.refl _) round a w (ha.pck hh)
theorem yW {f:FuncId} {fn:Func} {vs:List Value} {R:Ending->World->Prop} {N:Nat} (fr:LV) (ha:At C fr0 hp a0 w)
  (hf:C.P.funcs[f]?=some fn) (hb:fn.body=some c) (hN:fn.ntmps=N) (hle:Nat.ble vs.length N=true) (hfr:idx 0 vs=fr)
  (h:Cod ⟨C.P,C.B,C.w0,N,[]⟩ c (bodyPost C.P fn R) fr hp):Calls C.P f vs.toArray w R:=by
 refine zIz hf hb (h _ _ ⟨?_,rfl,?_,ha.below,ha.base,ha.own,ha.apart⟩)
 ·have:vs.length<=N:=by simpa[Nat.ble_eq] using hle
  simp[hN];omega
 ·intro t v ht;rw[<-hfr] at ht;obtain⟨j,rfl,hj⟩:=zB8 vs 0 t v ht
  have hjl:j<vs.length:=by
   rcases Nat.lt_or_ge j vs.length with h1|h1
   ·exact h1
   ·rw[List.getElem?_eq_none h1] at hj;cases hj
  simp only[Nat.zero_add,Array.getD_eq_getD_getElem?];rw[Array.getElem?_append_left (by simpa using hjl)];simp[hj]
theorem At.back {N':Nat} {ds':List Deferred} {hp0:List Res} {w0:World} (h0:At C fr0 hp0 a0 w0) (h:At ⟨C.P,C.B,C.w0,N',ds'⟩ fr hp a w):At C fr0 hp a0 w :=
 ⟨h0.size,h0.defs,h0.slots,h.below,h.base,h.own,h.apart⟩

theorem zNy {x y:Operand} {t e:TypeId} {len h:Nat} {p:Addr} {kd:IntKind} {size bytes:Nat} {z:Value} (hd:Nat.blt d C.N=true) (hx:ev fr x=some (.pointer (some p))) (hy:ev fr y=some (.int kd (h:Int)))
  (ht:C.P.underlying t=some (.array len e)) (hi:TI C.P e z size bytes) (hh:h<=len) (k:Lst C ops Q rest ((d,.slice (some p) h len)::fr) hp):Lst C ops Q (⟨some d,.slice t x none (some y) none,ty,pos,after,none⟩::rest) fr hp:=by
 obtain⟨i,hi1,_⟩:=hi;have h2:((h:Int)<=(len:Int)):=by omega
 have hp0:p.add 0=p:=by unfold Addr.add;split<;>simp_all
 exact qI _ hd (fun _ _ _=>zF7 ..) (fun a w ha=>⟨w,by
  have hs:(sizeOf e).run C.P w=.ok i.size w:=by simp[sizeOf,typeInfo,hi1]
  simp only[execOp,Option.map,ha.eval hx,ha.eval hy,Instr.sliceAt,run_underlying ht,Sem.run_bind,Result.andThen_ok,Instr.sliceBounds,Instr.sliceBound,asIntOf,Sem.run_pure,Instr.sureAddr]
  simp[h2,hs,hp0],ha⟩) k
end
end
section
variable [I:Sys]
variable {c y:Code} {id:Nat} {l:List Oper} {ts:Array TypeId} {xs:Array Operand}
def CodS (C:Ctx) (c:Code) (Q:Exit->Act->List Frame->World->Prop) (fr:LV) (hp:List Res) (cs:List Frame):Prop:=∀a w,At C fr hp a w->wpS C.P c Q a cs w
section
variable {C:Ctx} {fr:LV} {hp hp':List Res} {a:Act} {w:World} {Q:Exit->Act->List Frame->World->Prop} {cs cs':List Frame} {d:Nat} {ty:TypeId} {pos:String} {after:Array Edge}
theorem zOk {x:Code} (h:CodS C x (Exit.thenS (wpS C.P y Q) Q) fr hp cs):CodS C (x.seq y) Q fr hp cs:=fun a w ha=>jAp (h a w ha)
theorem zPt (h:Cod C c (fun e a w=>Q e a cs w) fr hp):CodS C c Q fr hp cs:=fun a w ha=>zVq (h a w ha)
theorem zQb (h:CodS C y Q fr hp cs):Ex C (fun e a w=>Exit.thenS (wpS C.P y Q) Q e a cs w) .normal fr hp:=h
theorem zXf {x:Value} (hd:recoverD cs=some (x,cs')) (hn:Nat.blt d C.N=true)
  (h:Lst C (⟨some d,.call {callee:=.builtin .recover,args:=xs,argTypes:=ts},ty,pos,after,none⟩::l).toArray (fun e a w=>Q e a cs' w) l ((d,x)::fr) hp) :
  CodS C (.region id (⟨some d,.call {callee:=.builtin .recover,args:=xs,argTypes:=ts},ty,pos,after,none⟩::l).toArray false) Q fr hp cs:=fun a w ha =>
 zE0 J zHt zIq fun v₁ h1=>by rw[hd];exact h _ _ ((ha.rely h1).put (kK hn) x)
theorem zUs (hd:recoverD cs=none) (hn:Nat.blt d C.N=true)
  (h:Lst C (⟨some d,.call {callee:=.builtin .recover,args:=xs,argTypes:=ts},ty,pos,after,none⟩::l).toArray (fun e a w=>Q e a cs w) l ((d,.nilIface)::fr) hp) :
  CodS C (.region id (⟨some d,.call {callee:=.builtin .recover,args:=xs,argTypes:=ts},ty,pos,after,none⟩::l).toArray false) Q fr hp cs:=fun a w ha =>
 zE0 J zHt zIq fun v₁ h1=>by rw[hd];exact h _ _ ((ha.rely h1).put (kK hn) _)
theorem zDf {x:Operand} {s t:TypeId} {ok:Bool} {v r:Value} {ops:Array Oper} {Q:QT} {rest:List Oper} (hd:Nat.blt d C.N=true) (hx:ev fr x=some v) (hr:∀w,(Instr.typeAssert v s t ok).run C.P w=.ok r w)
  (k:Lst C ops Q rest ((d,r)::fr) hp):Lst C ops Q (⟨some d,.typeAssert x s t ok,ty,pos,after,none⟩::rest) fr hp :=
 qI _ hd (fun _ _ _=>zKk ..) (fun a w ha=>⟨w,by simp[execOp,ha.eval hx,hr w],ha⟩) k
theorem enterS {f:FuncId} {fn:Func} {vs:List Value} {fr0:LV} {a0:Act} {u:FrameMode} {R:Ending->FrameMode->World->Prop} {N:Nat} (fr:LV) (ha:At C fr0 hp a0 w)
  (hf:C.P.funcs[f]?=some fn) (hb:fn.body=some c) (hN:fn.ntmps=N) (hle:Nat.ble vs.length N=true) (hfr:idx 0 vs=fr)
  (h:∀c₀ cs,c₀.mode=u->CodS ⟨C.P,C.B,C.w0,N,[]⟩ c (bodyPostS C.P fn c₀ cs R) fr hp (c₀::cs)):CallsD C.P f vs.toArray u w R:=by
 refine zNf hf hb fun c₀ cs hu=>h c₀ cs hu _ _ ⟨?_,rfl,?_,ha.below,ha.base,ha.own,ha.apart⟩
 ·have:vs.length<=N:=by simpa[Nat.ble_eq] using hle
  simp[hN];omega
 ·intro t v ht;rw[<-hfr] at ht;obtain⟨j,rfl,hj⟩:=zB8 vs 0 t v ht
  have hjl:j<vs.length:=by
   rcases Nat.lt_or_ge j vs.length with h1|h1
   ·exact h1
   ·rw[List.getElem?_eq_none h1] at hj;cases hj
  simp only[Nat.zero_add,Array.getD_eq_getD_getElem?];rw[Array.getElem?_append_left (by simpa using hjl)];simp[hj]
theorem At.bare0 (P:Program) (w:World):At ⟨P,w.heap.size,w,0,[]⟩ [] [] {tmps:=#[],defers:=[]} w :=
 ⟨rfl,rfl,(fun _ _ h=>by cases h),Below.refl _ _,Nat.le_refl _,(fun _ h=>by cases h),List.nodup_nil⟩
end
end
section
open Go.Conc
variable {o:Obj}
structure Gst where
 c:Nat
 sl:List Nat
 pend:List (List UInt8)
def enc1 (l:List UInt8):Nat×ByteArray:=(0,⟨l.toArray⟩)
def encN (n:Nat):Nat×ByteArray:=(n,⟨#[]⟩)
def Gst.enc (x:Gst):Array (Nat×ByteArray):=(encN x.c::encN x.sl.length::(x.sl.map encN++x.pend.map enc1)).toArray
theorem zZa {l m:Nat} (h:encN l=encN m):l=m:=by
 unfold encN at h;simpa using h
theorem zSl {α β:Type} {f:α->β} (hf:∀a b,f a=f b->a=b):∀{l m:List α},l.map f=m.map f->l=m
 | [],[],_=>rfl
 | [],_::_,h=>by simp at h
 | _::_,[],h=>by simp at h
 | a::l,b::m,h=>by
  simp only[List.map_cons,List.cons.injEq] at h;rw[hf _ _ h.1,zSl hf h.2]
def Obj.chill:Obj->Obj
 | .cells c t _=>.cells c t (0,c.size)
 | o=>o
def Obj.thaw:Obj->Obj
 | .cells c t _=>.cells c t (0,0)
 | o=>o
def blank:Obj:=.cells #[] 0 (0,0)
def chill (sl:List Nat) (v:World):World:={v with heap:=v.heap.mapIdx fun b o=>if b∈sl then Obj.chill o else o}
def thaw (sl:List Nat) (v:World):World:={v with heap:=v.heap.mapIdx fun b o=>if b∈sl then Obj.thaw o else o}
def onlyV (sl:List Nat) (v:World):World:={v with heap:=v.heap.mapIdx fun b o=>if b∈sl then Obj.chill o else blank}
def saying (v:World) (o:Array (Nat×ByteArray)):World:={v with output:=o}
theorem vD (sl:List Nat) (v:World) (b:Nat):(chill sl v).heap[b]?=(v.heap[b]?).map fun o=>if b∈sl then Obj.chill o else o:=by simp[chill]
theorem zAm (sl:List Nat) (v:World) (b:Nat):(thaw sl v).heap[b]?=(v.heap[b]?).map fun o=>if b∈sl then Obj.thaw o else o:=by simp[thaw]
theorem vY (sl:List Nat) (v:World) (b:Nat):(onlyV sl v).heap[b]?=(v.heap[b]?).map fun o=>if b∈sl then Obj.chill o else blank:=by simp[onlyV]
theorem zIu (h:notView o):notView (Obj.chill o):=by cases o<;>first|exact h|trivial
theorem zUl (h:notView o):notView (Obj.thaw o):=by cases o<;>first|exact h|trivial
def Givable (sl:List Nat) (v:World):Prop:=∀b∈sl,∃c t fz,v.heap[b]?=some (.cells c t fz)∧(fz=(0,0)∨fz=(0,c.size))∧0<c.size

section
variable {F S:Nat->Prop} {w v:World} {sl:List Nat}
theorem zC8 (h:Hid F S w v) (hg:Givable sl v):∀b∈sl,¬F b∧∃c t fz,v.heap[b]?=some (.cells c t fz)∧(fz=(0,0)∨fz=(0,c.size))∧0<c.size:=by
 intro b hb;obtain⟨c,t,fz,h1,h2,h3⟩:=hg b hb;refine⟨fun hf=>?_,c,t,fz,h1,h2,h3⟩;obtain⟨t',fz',h4⟩:=h.away b hf;rw[h1] at h4
 cases h4
 simp at h3
theorem Hid.chill (h:Hid F S w v) (hg:Givable sl v):Hid F (fun b=>S b∨b∈sl) w (chill sl v):=by
 have hs:=zC8 h hg
 refine⟨h.tape,h.drawn,h.os,by simp[Go.Proofs.YteppiphdbondeaaGreat.N.chill,h.size],h.fitF,fun b hb=>?_,fun b hb=>?_,fun b hb hf=>?_,fun b hf hns=>?_,fun b o ho=>?_⟩
 ·rcases hb with hb|hb
  ·exact h.fitS b hb
  ·obtain⟨_,c,t,fz,h1,_⟩:=hs b hb;rw[<-h.size];exact (Array.getElem?_eq_some_iff.1 h1).1
 ·obtain⟨t,fz,h1⟩:=h.away b hb;have hn:b∉sl:=fun hm=>(hs b hm).1 hb;exact⟨t,fz,by rw[vD,h1];simp[hn]⟩
 ·by_cases hS:S b
  ·obtain⟨c,t,fz,h1,h2⟩:=h.still b hS hf;exact⟨c,t,fz,h1,by rw[vD,h2];by_cases hm:b∈sl<;>simp[hm,Obj.chill]⟩
  ·have hm:b∈sl:=hb.resolve_left hS;obtain⟨_,c,t,fz,h1,_⟩:=hs b hm;exact⟨c,t,fz,by rw[<-h.same b hf hS];exact h1,by rw[vD,h1];simp[hm,Obj.chill]⟩
 ·rw[vD,h.same b hf (fun x=>hns (.inl x))]
  cases w.heap[b]? with
  | none=>rfl
  | some o=>simp[show b∉sl from fun x=>hns (.inr x)]
 ·rw[vD] at ho
  cases hb:v.heap[b]? with
  | none=>rw[hb] at ho;cases ho
  | some o' =>
   rw[hb] at ho;have:=h.plain b o' hb;simp only[Option.map_some,Option.some.injEq] at ho;subst ho
   split
   ·exact zIu this
   ·exact this
theorem Hid.only (h:Hid F S w v) (hg:Givable sl v):Hid (fun b=>b<w.heap.size∧b∉sl) (fun b=>b∈sl) w (onlyV sl v):=by
 have hs:=zC8 h hg
 have hlt:∀b∈sl,b<w.heap.size:=fun b hb=>by
  obtain⟨_,c,t,fz,h1,_⟩:=hs b hb;rw[<-h.size];exact (Array.getElem?_eq_some_iff.1 h1).1
 refine⟨h.tape,h.drawn,h.os,by simp[onlyV,h.size],fun b hb=>hb.1,hlt,fun b hb=>?_,fun b hb _=>?_,fun b hf hns=>?_,fun b o ho=>?_⟩
 ·refine⟨0,(0,0),?_⟩;rw[vY,Array.getElem?_eq_getElem (by rw[h.size];exact hb.1)];simp[hb.2,blank]
 ·obtain⟨hF,c,t,fz,h1,_⟩:=hs b hb
  by_cases hS:S b
  ·obtain⟨c',t',fz',h2,h3⟩:=h.still b hS hF;exact⟨c',t',fz',h2,by rw[vY,h3];simp[hb,Obj.chill]⟩
  ·exact⟨c,t,fz,by rw[<-h.same b hF hS];exact h1,by rw[vY,h1];simp[hb,Obj.chill]⟩
 ·have hge:w.heap.size<=b:=by
   rcases Nat.lt_or_ge b w.heap.size with hl|hl
   ·exact absurd ⟨hl,hns⟩ hf
   ·exact hl
  rw[vY,Array.getElem?_eq_none (by rw[h.size];exact hge),Array.getElem?_eq_none hge]
  rfl
 ·rw[vY] at ho
  cases hb:v.heap[b]? with
  | none=>rw[hb] at ho;cases ho
  | some o' =>
   rw[hb] at ho;simp only[Option.map_some,Option.some.injEq] at ho;subst ho
   split
   ·exact zIu (h.plain b o' hb)
   ·trivial
theorem Hid.thaw (h:Hid F (fun b=>b∈sl) w v) (hr:∀b∈sl,¬F b∧∃c t,w.heap[b]?=some (.cells c t (0,0))):Hid F (fun _=>False) w (thaw sl v):=by
 refine⟨h.tape,h.drawn,h.os,by simp[Go.Proofs.YteppiphdbondeaaGreat.N.thaw,h.size],h.fitF,fun b hb=>hb.elim,fun b hb=>?_,fun b hb=>hb.elim,fun b hf _=>?_,fun b o ho=>?_⟩
 ·obtain⟨t,fz,h1⟩:=h.away b hb;have hn:b∉sl:=fun hm=>(hr b hm).1 hb;exact⟨t,fz,by rw[zAm,h1];simp[hn]⟩
 ·by_cases hm:b∈sl
  ·obtain⟨c,t,fz,h1,h2⟩:=h.still b hm hf;obtain⟨_,c',t',h3⟩:=hr b hm;rw[h3] at h1
   cases h1
   rw[zAm,h2,h3];simp[hm,Obj.thaw]
  ·rw[zAm,h.same b hf hm]
   cases w.heap[b]? with
   | none=>rfl
   | some o=>simp[hm]
 ·rw[zAm] at ho
  cases hb:v.heap[b]? with
  | none=>rw[hb] at ho;cases ho
  | some o' =>
   rw[hb] at ho;simp only[Option.map_some,Option.some.injEq] at ho;subst ho
   split
   ·exact zUl (h.plain b o' hb)
   ·exact h.plain b o' hb
theorem Hid.saying (h:Hid F S w v) (o:Array (Nat×ByteArray)):Hid F S w (Go.Proofs.YteppiphdbondeaaGreat.N.saying v o):=⟨h.tape,h.drawn,h.os,h.size,h.fitF,h.fitS,h.away,h.still,h.same,h.plain⟩
end
end
section
open Go.Conc
structure Prot where
 msg:UInt8->Value
 z:Value
 zr:Value
 done:UInt8
 low:Nat
def hideB (c:Nat) (v:World):World:={v with heap:=v.heap.mapIdx fun b o=>if b=c then blank else o}
theorem zAy (c:Nat) (v:World) (b:Nat):(hideB c v).heap[b]?=(v.heap[b]?).map fun o=>if b=c then blank else o:=by simp[hideB]
theorem Hid.hideB {F S:Nat->Prop} {w v:World} (h:Hid F S w v) {c:Nat} (hc:c<w.heap.size) (hS:¬S c):Hid (fun b=>F b∨b=c) S w (hideB c v):=by
 refine⟨h.tape,h.drawn,h.os,by simp[Go.Proofs.YteppiphdbondeaaGreat.N.hideB,h.size],fun b hb=>?_,h.fitS,fun b hb=>?_,fun b hb hf=>?_,fun b hf hns=>?_,fun b o ho=>?_⟩
 ·rcases hb with hb|rfl
  ·exact h.fitF b hb
  ·exact hc
 ·rw[zAy]
  by_cases e:b=c
  ·subst e;rw[Array.getElem?_eq_getElem (by rw[h.size];exact hc)];exact⟨0,(0,0),by simp[blank]⟩
  ·obtain⟨t,fz,h1⟩:=h.away b (hb.resolve_right e);exact⟨t,fz,by rw[h1];simp[e]⟩
 ·obtain⟨c',t,fz,h1,h2⟩:=h.still b hb (fun x=>hf (.inl x));exact⟨c',t,fz,h1,by rw[zAy,h2];simp[show b≠c from fun e=>hf (.inr e)]⟩
 ·rw[zAy,h.same b (fun x=>hf (.inl x)) hns]
  cases w.heap[b]? with
  | none=>rfl
  | some o=>simp[show b≠c from fun e=>hf (.inr e)]
 ·rw[zAy] at ho
  cases hb:v.heap[b]? with
  | none=>rw[hb] at ho;cases ho
  | some o' =>
   rw[hb] at ho;simp only[Option.map_some,Option.some.injEq] at ho;subst ho
   split
   ·trivial
   ·exact h.plain b o' hb

inductive Tr:Type
 | leaf
 | node (f:World×Goroutine×World->Tr)
def Tr.Lt (s:Tr):Tr->Prop
 | .leaf=>False
 | .node f=>∃i,s=f i
theorem Tr.acc:∀t:Tr,Acc Tr.Lt t
 | .leaf=>⟨_,fun _ h=>h.elim⟩
 | .node f=>⟨_,fun s h=>by obtain⟨i,rfl⟩:=h;exact Tr.acc (f i)⟩
inductive GsT (P:Program) (I:Sys) (Stop:Goroutine->World->Prop):Tr->Goroutine->World->Prop
 | stop {t:Tr} {g:Goroutine} {v:World} (h:∀v₁,Rl v v₁->Stop g v₁):GsT P I Stop t g v
 | step {f:World×Goroutine×World->Tr} {g:Goroutine} {v:World} (hr:g.status=.running) (nx:World->Goroutine×World×Array Event)
   (h:∀v₁,Rl v v₁->Stp P I.main g v₁ (nx v₁).1 (nx v₁).2.1 (nx v₁).2.2) (k:∀v₁,Rl v v₁->GsT P I Stop (f (v₁,(nx v₁).1,(nx v₁).2.1)) (nx v₁).1 (nx v₁).2.1):GsT P I Stop (.node f) g v
 | sync {f:World×Goroutine×World->Tr} {g:Goroutine} {v:World} (nx:World->Goroutine->World->Prop)
   (h:∀v₁,Rl v v₁->I.sy g v₁ (nx v₁)) (k:∀v₁,Rl v v₁->∀g' v',nx v₁ g' v'->GsT P I Stop (f (v₁,g',v')) g' v'):GsT P I Stop (.node f) g v
section
variable {P:Program} {I:Sys} {Stop:Goroutine->World->Prop} {g:Goroutine} {v v':World}
theorem zSu (h : @Gs P I Stop g v):∃t,GsT P I Stop t g v:=by
 classical
 induction h with
 | stop h=>exact⟨.leaf,.stop h⟩
 | step hr nx h _ ih =>
  refine⟨.node fun i=>if hv:Rl _ i.1 then (ih i.1 hv).choose else .leaf,.step hr nx h fun v₁ h1=>?_⟩;have:=(ih v₁ h1).choose_spec
  simpa[h1] using this
 | sync nx h _ ih =>
  refine⟨.node fun i=>if hv:Rl _ i.1∧nx i.1 i.2.1 i.2.2 then (ih i.1 hv.1 i.2.1 i.2.2 hv.2).choose else .leaf,.sync nx h fun v₁ h1 g' v' hn=>?_⟩;have:=(ih v₁ h1 g' v' hn).choose_spec;simpa[h1,hn] using this
theorem GsT.rely {t:Tr} (h:GsT P I Stop t g v) (hr:Rl v v'):GsT P I Stop t g v':=by
 cases h with
 | stop h=>exact .stop fun v₁ h1=>h v₁ (hr.trans h1)
 | step hs nx h k=>exact .step hs nx (fun v₁ h1=>h v₁ (hr.trans h1)) (fun v₁ h1=>k v₁ (hr.trans h1))
 | sync nx h k=>exact .sync nx (fun v₁ h1=>h v₁ (hr.trans h1)) (fun v₁ h1=>k v₁ (hr.trans h1))
end

inductive Mt:Type
 | live (t:Tr) (running:Bool)
 | quits (n:Nat)
variable {b:Nat}
def blkOf:Loc->Option Nat
 | .cell a=>some a.block
 | .obj r=>some r
 | _=>none
def Apt (Liv:Nat->Prop) (F S:Nat->Nat->Prop) (B:Nat):Prop:=∀g g',Liv g->Liv g'->g≠g'->∀b,b<B->¬F g b->¬S g b->F g' b
theorem zHf {B:Nat} {op:MemOp} {a:Touch} (hl:op.act.low B) (hxa:op.act.touch?=some a) (hb:blkOf a.loc=some b):b<B:=by
 obtain⟨_,_,_,act⟩:=op
 cases act with
 | access e =>
  simp only[MemAct.touch?,Option.some.injEq] at hxa;subst hxa;obtain⟨loc,_,_⟩:=e
  cases loc<;>first|(cases hb;exact hl)|cases hb
 | mark m =>
  cases m with
  | read a'=>simp only[MemAct.touch?,Option.some.injEq] at hxa;subst hxa;cases hb;exact hl
  | write a'=>simp only[MemAct.touch?,Option.some.injEq] at hxa;subst hxa;cases hb;exact hl
  | _=>cases hxa
 | _=>cases hxa
section
variable {Liv:Nat->Prop} {F S F' S':Nat->Nat->Prop} {B B':Nat} {t u:Trace}
theorem zHd {l:Loc} (h:blkOf l=some b):l.isMemory=true:=by cases l<;>first|rfl|cases h
def TchOk (F S:Nat->Prop) (a:Touch):Prop:=∀b,blkOf a.loc=some b->¬F b∧(a.write=true->¬S b)
end
end
section
open Go.Conc
variable {B b g:Nat} {fn:FuncId} {pos:String} {v w₁:World}
def grown (v w₁:World):World:={v with heap:=v.heap++Array.replicate (w₁.heap.size-v.heap.size) blank,drawn:=w₁.drawn}
theorem wW (h:b<v.heap.size):(grown v w₁).heap[b]?=v.heap[b]?:=by simp[grown,Array.getElem?_append,h]
theorem zFg (h:v.heap.size<=b) (h1:b<w₁.heap.size):(grown v w₁).heap[b]?=some blank:=by
 have e:¬b<v.heap.size:=by omega
 simp only[grown,Array.getElem?_append,e,if_false];rw[Array.getElem?_replicate];rw[if_pos (by omega)]
theorem Rl.grown:Rl v (grown v w₁):=⟨rfl,rfl,rfl,by simp[Go.Proofs.YteppiphdbondeaaGreat.N.grown],fun _ hk=>wW hk⟩
def more (F:Nat->Prop) (w w₁:World) (b:Nat):Prop:=F b∨(w.heap.size<=b∧b<w₁.heap.size)
theorem Hid.others {F S:Nat->Prop} {w:World} (h:Hid F S w v) (hos:w₁.os=w.os) (ht:w₁.tape=w.tape) (hs:w.heap.size<=w₁.heap.size) (hb:∀b,b<w.heap.size->¬F b->w₁.heap[b]?=w.heap[b]?) :
  Hid (more F w w₁) S w₁ (grown v w₁):=by
 refine⟨h.tape.trans ht.symm,rfl,h.os.trans hos.symm,?_,fun b hb=>?_,fun b hb=>Nat.lt_of_lt_of_le (h.fitS b hb) hs,fun b hF=>?_,fun b hS hF=>?_,fun b hF hS=>?_,fun b o ho=>?_⟩
 ·simp[grown,h.size];omega
 ·exact hb.elim (fun x=>Nat.lt_of_lt_of_le (h.fitF b x) hs) (·.2)
 ·rcases hF with hF|hF
  ·rw[wW (by rw[h.size];exact h.fitF b hF)];exact h.away b hF
  ·exact⟨0,(0,0),by rw[zFg (by rw[h.size];exact hF.1) hF.2];rfl⟩
 ·have hlt:=h.fitS b hS;obtain⟨c,t,fz,h1,h2⟩:=h.still b hS (fun x=>hF (.inl x));exact⟨c,t,fz,by rw[hb b hlt (fun x=>hF (.inl x))];exact h1,by rw[wW (by rw[h.size];exact hlt)];exact h2⟩
 ·rcases Nat.lt_or_ge b w.heap.size with hlt|hge
  ·rw[wW (by rw[h.size];exact hlt),h.same b (fun x=>hF (.inl x)) hS,hb b hlt (fun x=>hF (.inl x))]
  ·have h1:w₁.heap.size<=b:=by
    rcases Nat.lt_or_ge b w₁.heap.size with x|x
    ·exact absurd (.inr ⟨hge,x⟩) hF
    ·exact x
   rw[Array.getElem?_eq_none h1,Array.getElem?_eq_none];simp[grown,h.size];omega
 ·rcases Nat.lt_or_ge b v.heap.size with hlt|hge
  ·rw[wW hlt] at ho;exact h.plain b o ho
  ·rcases Nat.lt_or_ge b w₁.heap.size with x|x
   ·rw[zFg hge x] at ho
    cases ho
    trivial
   ·rw[Array.getElem?_eq_none (by simp[grown];omega)] at ho
    cases ho
theorem Hid.beside {F S Fi Si:Nat->Prop} {w:World} (h:Hid F S w v) (hk:Kept Fi Si w w₁) (ha:∀b,b<w.heap.size->¬Fi b->¬Si b->F b):Hid (more F w w₁) S w₁ (grown v w₁) :=
 h.others hk.os hk.tape hk.size fun b hb hF=>hk.block b hb (by
  by_cases h1:Fi b
  ·exact .inl h1
  ·by_cases h2:Si b
   ·exact .inr h2
   ·exact absurd (ha b hb h1 h2) hF)
theorem Hid.drew {F S:Nat->Prop} {w:World} (h:Hid F S w v) (d:Nat):Hid F S (w.at d) (v.at d) :=
 ⟨h.tape,rfl,h.os,h.size,h.fitF,h.fitS,h.away,h.still,h.same,h.plain⟩
theorem Rl.drew (v:World) (d:Nat):Rl v (v.at d):=⟨rfl,rfl,rfl,Nat.le_refl _,fun _ _=>rfl⟩
theorem Hid.chan {F S:Nat->Prop} {w:World} (h:Hid F S w v) {c:Nat} (hc:F c) (cap:Nat) (buf:Array Value) (cl:Bool) (s r:Nat) (tm:Bool):Hid F S (w.setChan c cap buf cl s r tm) v:=by
 have hb:∀b,¬F b->(w.setChan c cap buf cl s r tm).heap[b]?=w.heap[b]?:=fun b hF=>by
  have e:c≠b:=fun e=>by subst e;exact hF hc
  show (w.heap.setIfInBounds c (Obj.chan cap buf cl s r tm))[b]?=_;rw[Array.getElem?_setIfInBounds_ne e]
 refine⟨h.tape,h.drawn,h.os,by simp[World.setChan,h.size],fun b hb=>by simpa[World.setChan] using h.fitF b hb,fun b hb=>by simpa[World.setChan] using h.fitS b hb,h.away,fun b hS hF=>?_,fun b hF hS=>?_,h.plain⟩
 ·obtain⟨c',t,fz,h1,h2⟩:=h.still b hS hF;exact⟨c',t,fz,by rw[hb b hF];exact h1,h2⟩
 ·rw[hb b hF];exact h.same b hF hS

def Fair (F S:Nat->Prop) (B:Nat) (op:MemOp):Prop :=
 (∀a,op.act.touch?=some a->TchOk F S a∧(a.loc.isMemory=true->∃b,blkOf a.loc=some b))∧op.act.low B∧∀g d,deafStep g d op=d
theorem zW8 {F S:Nat->Prop} {e:Event} (h:EvOk F S B e):Fair F S B {g,fn,pos,act:=.ofEvent e}:=by
 obtain⟨loc,wr,sy⟩:=e
 cases loc with
 | cell a =>
  have e1:MemAct.ofEvent ⟨.cell a,wr,sy⟩=.access ⟨.cell a,wr,sy⟩:=by cases wr<;>cases sy<;>rfl
  refine⟨fun x hx=>?_,by rw[e1];exact h.2.2,fun _ _=>by rw[e1];rfl⟩;rw[e1] at hx;simp only[MemAct.touch?,Option.some.injEq] at hx;subst hx
  exact⟨fun b hb=>by cases hb;exact⟨h.1,h.2.1⟩,fun _=>⟨_,rfl⟩⟩
 | obj r =>
  by_cases hc:wr=true∧sy=true
  ·obtain⟨rfl,rfl⟩:=hc;exact⟨fun x hx=>(by cases hx),h.2.2,fun _ _=>rfl⟩
  ·have e1:MemAct.ofEvent ⟨.obj r,wr,sy⟩=.access ⟨.obj r,wr,sy⟩:=by
    cases wr<;>cases sy<;>first|rfl|exact absurd ⟨rfl,rfl⟩ hc
   refine⟨fun x hx=>?_,by rw[e1];exact h.2.2,fun _ _=>by rw[e1];rfl⟩;rw[e1] at hx;simp only[MemAct.touch?,Option.some.injEq] at hx;subst hx
   exact⟨fun b hb=>by cases hb;exact⟨h.1,fun _=>h.2.1⟩,fun _=>⟨_,rfl⟩⟩
 | mark m =>
  have h':softMark m:=h;have e1:MemAct.ofEvent ⟨.mark m,wr,sy⟩=.mark m:=by cases wr<;>cases sy<;>rfl
  rw[e1]
  cases m with
  | noRoom=>exact⟨fun x hx=>(by cases hx),trivial,fun _ _=>rfl⟩
  | extern f=>exact⟨fun x hx=>(by cases hx),trivial,fun _ _=>rfl⟩
  | _=>exact h'.elim
 | output=>exact h.elim
 | goroutines=>exact h.elim
theorem zQk {F S:Nat->Prop} {es:Array Event} (h:∀e∈es,EvOk F S B e):∀op∈MemOp.ofEvents g fn pos es,op.g=g∧Fair F S B op:=by
 intro op hop;obtain⟨e,he,rfl⟩:=Go.Conc.mem_ofEvents hop;exact⟨rfl,zW8 (h e he)⟩
structure Bas (W:World) (H:Nat->Prop) (L:Nat->Prop) (F:Nat->Nat->Prop) (w:World):Prop where
 os:w.os=W.os
 tape:w.tape=W.tape
 output:w.output=W.output
 size:W.heap.size<=w.heap.size
 held:∀b,H b->b<W.heap.size∧w.heap[b]?=W.heap[b]?∧∀i,L i->F i b
 new:∀b,b<W.heap.size->F 0 b->H b
section
variable {W w w':World} {H L L':Nat->Prop} {F:Nat->Nat->Prop} {S:Nat->Nat->Prop}
theorem Bas.step {i:Nat} (h:Bas W H L F w) (hi:L i) (hk:Kept (F i) (S i) w w'):Bas W H L (fun j b=>if j=i then F i b else more (F j) w w' b) w':=by
 refine⟨hk.os.trans h.os,hk.tape.trans h.tape,hk.output.trans h.output,Nat.le_trans h.size hk.size,fun b hb=>?_,fun b hb hF=>?_⟩
 ·obtain⟨h1,h2,h3⟩:=h.held b hb;refine⟨h1,(hk.block b (Nat.lt_of_lt_of_le h1 h.size) (.inl (h3 i hi))).trans h2,fun j hj=>?_⟩
  by_cases e:j=i
  ·subst e;simpa using h3 j hj
  ·simp only[e,if_false];exact .inl (h3 j hj)
 ·by_cases e:0=i
  ·subst e;exact h.new b hb (by simpa using hF)
  ·simp only[e,if_false] at hF
   rcases hF with x|x
   ·exact h.new b hb x
   ·have:=h.size;omega
theorem Bas.drew (h:Bas W H L F w) (d:Nat):Bas W H L F (w.at d):=⟨h.os,h.tape,h.output,h.size,h.held,h.new⟩
theorem Bas.chan (h:Bas W H L F w) {c:Nat} (hc:W.heap.size<=c) (cap:Nat) (buf:Array Value) (cl:Bool) (s r:Nat) (tm:Bool):Bas W H L F (w.setChan c cap buf cl s r tm):=by
 refine⟨h.os,h.tape,h.output,?_,fun b hb=>⟨(h.held b hb).1,?_,(h.held b hb).2.2⟩,h.new⟩
 ·have:=h.size;simpa[World.setChan] using this
 ·have h1:=(h.held b hb).1;rw[<-(h.held b hb).2.1];show (w.heap.setIfInBounds c (Obj.chan cap buf cl s r tm))[b]?=_;rw[Array.getElem?_setIfInBounds_ne (by omega)]
end
end
section
open Go.Conc
variable {Dn' Liv':Nat->Prop} {i:Nat}
inductive Car:Type
 | rel (a:Addr)
 | cls (c:Nat)
def Car.at:Car->MemAct->Prop
 | .rel a,m=>m=.mark (.releaseMerge a)
 | .cls c,m=>m=.close c
def Counts (Sh:Nat->Prop) (t:Trace) (i:Nat) (a:Touch):Prop:=a.kind≠.atomic∨t.heard i∨∀b,blkOf a.loc=some b->¬Sh b
def Has (t:Trace) (c:Car) (i:Nat):Prop:=∃p z,t[p]?=some z∧c.at z.act∧t.heard p∧HappensBefore t i p
theorem Has.app {t:Trace} {c:Car} (u:Trace) (h:Has t c i):Has (t++u) c i :=
 let ⟨p,z,h1,h2,h3,h4⟩:=h
 ⟨p,z,by rw[getElem?_append_old (lt_size_of_getElem? h1)];exact h1,h2,(heard_old (lt_size_of_getElem? h1)).2 h3,hb_app u h4⟩
structure Px (Liv:Nat->Prop) (D:Nat->Nat) (Dn:Nat->Prop) (Sh:Nat->Prop) (Ow:Nat) (Ca:Car->Prop) (F S:Nat->Nat->Prop) (B:Nat) (t:Trace):Prop where
 clean:∀said,¬Race said t
 perm:∀g,Liv g->∀i a b,touchAt t i=some a->blkOf a.loc=some b->¬F g b->¬S g b->Knows t g i
 wrote:∀g,Liv g->∀i a b,touchAt t i=some a->a.write=true->blkOf a.loc=some b->¬F g b->Knows t g i
 shr:∀g,Liv g->∀i a b,touchAt t i=some a->blkOf a.loc=some b->Sh b->a.kind=.plain->Knows t g i
 said:∀i a b,touchAt t i=some a->blkOf a.loc=some b->Sh b->a.kind=.said->Knows t Ow i
 known:∀i a,touchAt t i=some a->a.loc.isMemory=true->Counts Sh t i a->(∃g,Liv g∧¬Dn g∧Knows t g i)∨∃c,Ca c∧Has t c i
 hears:∀g,Liv g->Deaf t g=D g
 norel:∀op∈t,∀a,op.act≠.mark (.release a)
 seen:∀op∈t,op.act.low B
section
variable {Liv:Nat->Prop} {D:Nat->Nat} {Dn Sh:Nat->Prop} {Ow:Nat} {Ca:Car->Prop} {F S F' S':Nat->Nat->Prop} {B B':Nat} {t u:Trace}
theorem Px.mono (h:Px Liv D Dn Sh Ow Ca F S B t) (hF:∀g b,Liv g->F g b->F' g b) (hS:∀g b,Liv g->¬F' g b->S g b->S' g b) (hB:B<=B'):Px Liv D Dn Sh Ow Ca F' S' B' t :=
 ⟨h.clean,fun g hg i a b h1 h2 h3 h4=>h.perm g hg i a b h1 h2 (fun x=>h3 (hF g b hg x)) (fun x=>h4 (hS g b hg h3 x)),fun g hg i a b h1 h2 h3 h4=>h.wrote g hg i a b h1 h2 h3 (fun x=>h4 (hF g b hg x)),h.shr,h.said,h.known,h.hears,h.norel,fun op hop=>MemAct.low_mono hB (h.seen op hop)⟩
theorem zU3 (hi:i<t.size) (h:(t++u).heard i):t.heard i:=(heard_old hi).1 h
theorem Px.known_app {Ca':Car->Prop} (h:Px Liv D Dn Sh Ow Ca F S B t) (hk:∀i,(∃g,Liv g∧¬Dn g∧Knows t g i)∨(∃c,Ca c∧Has t c i)->(∃g,Liv' g∧¬Dn' g∧Knows (t++u) g i)∨∃c,Ca' c∧Has (t++u) c i)
  (hn:∀(i:Nat) (x:MemOp) (a:Touch),t.size<=i->(t++u)[i]?=some x->x∈u->x.act.touch?=some a->a.loc.isMemory=true->Counts Sh (t++u) i a->(∃g,Liv' g∧¬Dn' g∧Knows (t++u) g i)∨∃c,Ca' c∧Has (t++u) c i) :
  ∀i a,touchAt (t++u) i=some a->a.loc.isMemory=true->Counts Sh (t++u) i a->(∃g,Liv' g∧¬Dn' g∧Knows (t++u) g i)∨∃c,Ca' c∧Has (t++u) c i:=by
 intro i a hi hm hc;obtain⟨x,hx,hxa⟩:=touch_of hi
 rcases getElem?_append_cases hx with ⟨hlt,hx'⟩|⟨hge,hxu⟩
 ·exact hk i (h.known i a (by rw[touchAt_of hx'];exact hxa) hm (hc.imp id fun z=>z.imp (fun y=>zU3 hlt y) id))
 ·exact hn i x a hge hx hxu hxa hm hc
theorem zAp (h:(∃g,Liv g∧¬Dn g∧Knows t g i)∨∃c,Ca c∧Has t c i):(∃g,Liv g∧¬Dn g∧Knows (t++u) g i)∨∃c,Ca c∧Has (t++u) c i :=
 h.imp (fun⟨g,h1,h2,h3⟩=>⟨g,h1,h2,h3.app u⟩) fun⟨c,h1,h2⟩=>⟨c,h1,h2.app u⟩
theorem Px.own {g:Nat} (h:Px Liv D Dn Sh Ow Ca F S B t) (ha:Apt Liv F S B) (hsh:∀g b,Liv g->Sh b->F g b) (hg:Liv g) (hdn:¬Dn g) (hu:∀op∈u,op.g=g) (ht:∀op∈u,∀a,op.act.touch?=some a->TchOk (F g) (S g) a∧(a.loc.isMemory=true->∃b,blkOf a.loc=some b))
  (hd:∀j,Deaf (t++u) j=Deaf t j) (hl:∀op∈u,op.act.low B) (hn:∀op∈u,∀a,op.act≠.mark (.release a)):Px Liv D Dn Sh Ow Ca F S B (t++u):=by
 have new:∀(i:Nat) (a:Touch) (b:Nat) (x:MemOp),(t++u)[i]?=some x->x∈u->x.act.touch?=some a->blkOf a.loc=some b->Sh b->False:=fun i a b x hx hxu hxa hb hs=>((ht x hxu a hxa).1 b hb).1 (hsh g b hg hs)
 refine⟨fun said=>noRace_append (h.clean said) hu fun i a hi op hop b hb hc=>?_,fun g' hg' i a b hi hb hF hS=>?_,fun g' hg' i a b hi hw hb hF=>?_,fun g' hg' i a b hi hb hs hk=>?_,fun i a b hi hb hs hk=>?_,h.known_app (fun i x=>zAp x) fun i x a _ hx hxu _ _ _=>?_,fun g' hg'=>(hd g').trans (h.hears g' hg'),fun op hop=>?_,seen_app h.seen hl⟩
 ·obtain⟨h1,h2⟩:=ht op hop b hb;obtain⟨hloc,hmem,hwr,_⟩:=hc;obtain⟨bk,hbk⟩:=h2 (hloc▸hmem);obtain⟨hF,hS⟩:=h1 bk hbk
  rcases hwr with x|x
  ·exact h.wrote g hg i a bk hi x (by rw[hloc];exact hbk) hF
  ·exact h.perm g hg i a bk hi (by rw[hloc];exact hbk) hF (hS x)
 ·obtain⟨x,hx,hxa⟩:=touch_of hi
  rcases getElem?_append_cases hx with ⟨_,hx'⟩|⟨_,hxu⟩
  ·exact (h.perm g' hg' i a b (by rw[touchAt_of hx'];exact hxa) hb hF hS).app u
  ·by_cases e:g'=g
   ·subst e;have:=knows_own hx
    rwa[hu x hxu] at this
   ·exact absurd (ha g' g hg' hg e b (zHf (hl x hxu) hxa hb) hF hS) ((ht x hxu a hxa).1 b hb).1
 ·obtain⟨x,hx,hxa⟩:=touch_of hi
  rcases getElem?_append_cases hx with ⟨_,hx'⟩|⟨_,hxu⟩
  ·exact (h.wrote g' hg' i a b (by rw[touchAt_of hx'];exact hxa) hw hb hF).app u
  ·by_cases e:g'=g
   ·subst e;have:=knows_own hx
    rwa[hu x hxu] at this
   ·obtain⟨h1,h2⟩:=(ht x hxu a hxa).1 b hb;exact absurd (ha g g' hg hg' (Ne.symm e) b (zHf (hl x hxu) hxa hb) h1 (h2 hw)) hF
 ·obtain⟨x,hx,hxa⟩:=touch_of hi
  rcases getElem?_append_cases hx with ⟨_,hx'⟩|⟨_,hxu⟩
  ·exact (h.shr g' hg' i a b (by rw[touchAt_of hx'];exact hxa) hb hs hk).app u
  ·exact (new i a b x hx hxu hxa hb hs).elim
 ·obtain⟨x,hx,hxa⟩:=touch_of hi
  rcases getElem?_append_cases hx with ⟨_,hx'⟩|⟨_,hxu⟩
  ·exact (h.said i a b (by rw[touchAt_of hx'];exact hxa) hb hs hk).app u
  ·exact (new i a b x hx hxu hxa hb hs).elim
 ·refine .inl ⟨g,hg,hdn,?_⟩;have:=knows_own hx
  rwa[hu x hxu] at this
 ·rcases Array.mem_append.1 hop with x|x
  ·exact h.norel op x
  ·exact hn op x
theorem Px.mute {D':Nat->Nat} {Ca':Car->Prop} (h:Px Liv D Dn Sh Ow Ca F S B t) (hL:∀g,Liv' g->Liv g) (hD:∀g,Liv' g->Deaf (t++u) g=D' g)
  (hk:∀i,(∃g,Liv g∧¬Dn g∧Knows t g i)∨(∃c,Ca c∧Has t c i)->(∃g,Liv' g∧¬Dn' g∧Knows (t++u) g i)∨∃c,Ca' c∧Has (t++u) c i)
  (hn:∀op∈u,op.act.touch?=none) (hl:∀op∈u,op.act.low B) (hr:∀op∈u,∀a,op.act≠.mark (.release a)):Px Liv' D' Dn' Sh Ow Ca' F S B (t++u):=by
 have old:∀{i:Nat} {a:Touch},touchAt (t++u) i=some a->touchAt t i=some a:=by
  intro i a hi;obtain⟨x,hx,hxa⟩:=touch_of hi
  rcases getElem?_append_cases hx with ⟨_,hx'⟩|⟨_,hxu⟩
  ·rw[touchAt_of hx'];exact hxa
  ·rw[hn x hxu] at hxa;cases hxa
 refine⟨fun said=>noRace_appendMute (h.clean said) hn,fun g hg i a b hi hb hF hS=>(h.perm g (hL g hg) i a b (old hi) hb hF hS).app u,fun g hg i a b hi hw hb hF=>(h.wrote g (hL g hg) i a b (old hi) hw hb hF).app u,fun g hg i a b hi hb hs hk=>(h.shr g (hL g hg) i a b (old hi) hb hs hk).app u,
  fun i a b hi hb hs hk=>(h.said i a b (old hi) hb hs hk).app u,h.known_app hk fun i x a _ _ hxu hxa _ _=>(by rw[hn x hxu] at hxa;cases hxa),hD,fun op hop=>?_,seen_app h.seen hl⟩
 rcases Array.mem_append.1 hop with x|x
 ·exact h.norel op x
 ·exact hr op x
end
end
end Go.Proofs.YteppiphdbondeaaGreat.N
