/- Parts of the walk of the law CharCourses: RowZ3. -/
import Derived.Test.YteppiphdbondeaaGreatSCharCourses11
import Derived.Test.YteppiphdbondeaaGreatSCharCourses07
namespace Go.Proofs.YteppiphdbondeaaGreat.N
set_option linter.unusedSectionVars false
open Go.RowKit
section
open Go.ChangeShapes Go.WideShapes Go.ChangeAt Go.Proofs.YteppiphdbondeaaGreat Go.Proofs.YteppiphdbondeaaGreat.Rows
variable {H:Type} {v:Value}
set_option maxRecDepth 100000 in
theorem co23:Tryz.prog.cellsOf 23=1:=by kernel_rfl
set_option maxRecDepth 100000 in
theorem zU6:Tryz.prog.readableRec 35=true∧35<Tryz.prog.types.size:=⟨by kernel_rfl,of_decide_eq_true (by kernel_rfl)⟩
theorem zOq {enc:TypeId×Value->H} {W:World} {fuel:Nat} {x:DataW H×List MemPlace} (hf:DataW.trod enc Tryz.prog W 0 (fun _=>true) true fuel 35 [v]=some x) (hlt:∀y∈x.2,y.block<W.heap.size) :
  ∃(A:Option Addr) (c:Nat) (l:List MetaZ),v=.slice A l.length c∧RdZ W A l∧(∀y∈l,y.1=Option.none->y.2.2=[]∧y.2.1=0)∧(A=Option.none->l=[]∧c=0):=by
 rcases Go.Deep.open_slice U35 hf with ⟨hcs,hx⟩|⟨a,len,cap,m,n,D,Pl,hcs,_,hl,hm,hmm,hx,hi⟩
 ·obtain rfl:=List.singleton_inj.1 hcs;exact⟨_,_,[],rfl,⟨fun h=>absurd h (by simp),fun y hy=>(List.not_mem_nil hy).elim⟩,fun y hy=>(List.not_mem_nil hy).elim,fun _=>⟨rfl,rfl⟩⟩
 ·obtain rfl:=List.singleton_inj.1 hcs;subst hx;simp only[if_true] at hmm;subst hmm;rw[co23] at hi
  obtain⟨Y,hY⟩:=Go.Deep.choose_lt (α:=MetaZ) (p:=fun i y=>RdL icell 1 W y.1 y.2.2∧(y.1=Option.none->y.2.2=[]∧y.2.1=0)∧W.cell? (a.add i)=some (zmcell y)) (fun i hlt'=>by
   obtain⟨cs',h1,h2⟩:=hi i hlt';obtain⟨_,h4,h3⟩:=World.cells?_some h1;obtain⟨v1,rfl⟩:=List.length_eq_one_iff.1 h4;obtain⟨A,c,l,rfl,r1,r2⟩:=zDt (x:=(D i,Pl i)) h2 (fun y hy=>hlt y (List.mem_append_right _ (List.mem_flatMap.2 ⟨i,List.mem_range.2 hlt',hy⟩)));refine⟨(A,c,l),r1,r2,?_⟩;have:=h3 0 om;rw[Nat.mul_one,Go.Deep.add_add] at this
   exact this)
  have hlen:((List.range len).map Y).length=len:=by simp
  obtain⟨b,off,spot⟩:=a
  refine⟨_,m,(List.range len).map Y,by rw[hlen],⟨fun hpos=>?_,fun y hy=>?_⟩,fun y hy=>?_,fun h=>by cases h⟩
  ·rw[hlen] at hpos;have hspot:spot=Option.none:=by simpa[Addr.add] using World.cell?_spot (hY 0 om).2.2
   subst hspot;refine⟨b,off,rfl,hlt (.cell b off) (List.mem_append_left _ (MemPlace.mem_row.2 ⟨0,by rw[co23];omega,by simp⟩)),fun k x hk j u hu=>?_⟩;rw[List.getElem?_map] at hk;obtain⟨i,h1,rfl⟩:=Option.map_eq_some_iff.1 hk;obtain⟨h2,h3⟩:=List.getElem?_eq_some_iff.1 h1;rw[List.getElem_range] at h3;subst h3;rw[List.length_range] at h2
   cases j with
   | zero =>
    simp at hu;subst hu;have:=(hY k om).2.2;rw[add_plain] at this;rw[Nat.mul_one,Nat.add_zero]
    exact this
   | succ j=>simp at hu
  ·obtain⟨i,h1,rfl⟩:=List.mem_map.1 hy;exact (hY i (by have:=List.mem_range.1 h1;omega)).1
  ·obtain⟨i,h1,rfl⟩:=List.mem_map.1 hy;exact (hY i (by have:=List.mem_range.1 h1;omega)).2.1
set_option maxRecDepth 100000 in
theorem zY1 {enc:TypeId×Value->H} {W:World} {base:Nat} {d:DataW H} {p:List MemPlace} (hok:Value.okWide Tryz.prog W .any base 35 v)
  (h:DataW.Trod enc Tryz.prog W 0 (fun _=>true) true 35 v d p) (hlt:∀y∈p,y.block<W.heap.size):∃(A:Option Addr) (c:Nat) (l:List MetaZ),v=.slice A l.length c∧RdZ W A l∧(∀y∈l,y.1=Option.none->y.2.2=[]∧y.2.1=0)∧(A=Option.none->l=[]∧c=0):=by
 obtain⟨a0,len,cap,rfl⟩:=okWide_slice U35 hok;obtain⟨fuel,hf⟩:=h;exact zOq (x:=(d,p)) hf hlt
theorem zX2 {W:World} {A:Option Addr} {l:List MetaZ} (h:RdZ W A l):RdZ (seenZ W) A l:=⟨zDw h.outer,fun m hm=>zDw (h.inner m hm)⟩
end
end Go.Proofs.YteppiphdbondeaaGreat.N
