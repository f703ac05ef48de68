/-
  Nodes of a graph with a sink are numbered in the order of the words that lead to them, plainly: the sink is number 1.
-/
import Derived.Test.YtdipaikojjjebaaGreatDoorPart22
import Derived.Test.YtdipaikojjjebaaGreatDoorPart16
set_option linter.all false
namespace Go.Am
section
variable {α:Type}[DecidableEq α]
def gY(nd:List α):Option α->Int
 | none=>1
 | some x=>if nd.idxOf x=0 then 0 else ((nd.idxOf x+1:Nat):Int)
structure kC (f:α->Int->Option α) (ls:List Int) (s:α) (nd:List α) (rows:List (List Int)):Prop where
 st:nd[0]?=some s
 nodup:nd.Nodup
 len:rows.length<=nd.length
 row:∀(i:Nat) (r:List Int),rows[i]?=some r->∃q,nd[i]?=some q/\r=ls.map (λl=>gY nd (f q l))/\∀l∈ls,∀x,f q l=some x->x∈nd
 rc:∀Z:List α,s∈Z->(∀q∈Z,∀l∈ls,∀x,f q l=some x->x∈Z)->∀q∈nd,q∈Z
structure kB (f:α->Int->Option α) (ls:List Int) (s:α) (nd:List α) (rows:List (List Int)):Prop where
 st:nd[0]?=some s
 nodup:nd.Nodup
 len:rows.length=nd.length
 row:∀(i:Nat) (q:α),nd[i]?=some q->rows[i]?=some (ls.map λl=>gY nd (f q l))
 cl:∀q∈nd,∀l∈ls,∀x,f q l=some x->x∈nd
end
end Go.Am
namespace Go.Proofs.YtdipaikojjjebaaGreatDoor
open Go Go.Am Go.ChangeShapes Go.WideShapes Go.ChangeAt Go.RowKit
def X0(l:List Value):List Int:=l.map λv=>match v with|.int _ n=>n|_=>0
theorem WJ{P:Program}{W:World}{name:String}{g:Nat}{t e:TypeId}{n:Nat}{zs:List Int}{fuel:Nat}{cs:Array Value}{p:List MemPlace}(hg:P.globalNamed name=some g)(ht:P.underlying t=some (.array n e))(i:P.underlying e=some (.int .u8))(d:P.cellsOf e=1)(b:P.cellsOf t=n)
 (a:W.var? P name=some cs) (j:DataW.trod (λ_=>()) P W 0 (λ_=>true) false fuel t cs.toList=some (Lib.tabData .u8 zs,p)):∃T fr,W.heap[g]?=some (.cells (zs.map λz=>Value.int .u8 z).toArray T fr):=by
 have h:=Lib.cells_of_tab ht i d b j;unfold World.var? at a;rw[hg]at a;simp only[mJ]at a;split at a
 ·rename_i c T fr f
  injection a with a
  subst a;refine⟨T,fr,?_⟩;rw[f,<-h]
 ·cases a
theorem tables {W:World} {rest:List (String×DataW Unit)} (h:laidMet Tryz.prog (("math/bits.deBruijn32tab",Rows.laid_math_bits_deBruijn32tab)::("math/bits.deBruijn64tab",Rows.laid_math_bits_deBruijn64tab)::rest) W):∃tabs:List (Nat×Obj),CG ⟨tabs,none⟩/\∀x∈(⟨tabs,none⟩:BA),below W x.1/\W.heap[x.1]?=some x.2:=by
 obtain⟨ps,⟨I,y,u,K,G,B,j,f,c,l,⟨H,w,t,J,F,A,g,e,b,k,_,_⟩,_⟩,_,_⟩:=h
 have p:Tryz.prog.globalNamed "math/bits.deBruijn32tab" = some 0:=by kernel_rfl
 have o:Tryz.prog.globalNamed "math/bits.deBruijn64tab" = some 1:=by kernel_rfl
 obtain rfl:=Option.some.inj (p.symm.trans j);obtain rfl:=Option.some.inj (o.symm.trans g)
 have s:(Tryz.prog.globals[0]?).map (·.type)=some 245:=by kernel_rfl
 have l1:(Tryz.prog.globals[1]?).map (·.type)=some 246:=by kernel_rfl
 obtain rfl:=Option.some.inj (s.symm.trans f);obtain rfl:=Option.some.inj (l1.symm.trans e);obtain⟨T0,n,r⟩:=WJ (zs:=X0 Cq) p Tryz.underlying245 Tryz.underlying5 (by kernel_rfl) (by kernel_rfl) c l;obtain⟨T1,m,q⟩:=WJ (zs:=X0 Bv) o Tryz.underlying246 Tryz.underlying5 (by kernel_rfl) (by kernel_rfl) b k;refine⟨[(0,.cells ((X0 Cq).map λz=>Value.int .u8 z).toArray T0 n),(1,.cells ((X0 Bv).map λz=>Value.int .u8 z).toArray T1 m)],⟨⟨⟨_,_,_,nH,λi v d=>?_⟩,by decide⟩,⟨⟨_,_,_,lU _ nH,λi v d=>?_⟩,by decide⟩⟩,?_⟩
 ·have:Cq=(X0 Cq).map λz=>Value.int .u8 z:=rfl
  rw[mC,<-this];exact d
 ·have:Bv=(X0 Bv).map λz=>Value.int .u8 z:=rfl
  rw[mC,<-this];exact d
 ·intro x a
  have a:x∈[_,_]:=a;simp only[lJ,oI,or_false]at a
  rcases a with rfl|rfl
  ·exact⟨(lQ.1 r).1,r⟩
  ·exact⟨(lQ.1 q).1,q⟩
end Go.Proofs.YtdipaikojjjebaaGreatDoor
