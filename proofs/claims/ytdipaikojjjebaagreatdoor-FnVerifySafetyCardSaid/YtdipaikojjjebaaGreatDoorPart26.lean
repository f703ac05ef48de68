/-
  The tables that the rows list, as the walks want them.
-/
import Derived.Test.YtdipaikojjjebaaGreatDoorPart24
set_option linter.all false
namespace Go.Proofs.YtdipaikojjjebaaGreatDoor
open Go Go.Am Go.ChangeShapes Go.WideShapes Go.ChangeAt Go.RowKit
def bT(l:List Value):List Int:=l.map fun v=>match v with|.int _ n=>n|_=>0
theorem ZM{P:Program}{W:World}{name:String}{g:Nat}{t e:TypeId}{n:Nat}{zs:List Int}{fuel:Nat}{cs:Array Value}{p:List MemPlace}(hg:P.globalNamed name=some g)(ht:P.underlying t=some (.array n e))(he:P.underlying e=some (.int .u8))(hce:P.cellsOf e=1)(hct:P.cellsOf t=n)
 (hv:W.var? P name=some cs) (hd:DataW.trod (fun _=>()) P W 0 (fun _=>true) false fuel t cs.toList=some (Lib.tabData .u8 zs,p)):∃T fr,W.heap[g]?=some (.cells (zs.map fun z=>Value.int .u8 z).toArray T fr):=by
 have h:=Lib.cells_of_tab ht he hce hct hd
 unfold World.var? at hv
 rw[hg]at hv
 simp only[Option.bind_some]at hv
 split at hv
 ·rename_i c T fr hh
  injection hv with hv
  subst hv
  refine⟨T,fr,?_⟩
  rw[hh,←h]
 ·cases hv
theorem tables {W:World} {rest:List (String×DataW Unit)} (h:laidMet Tryz.prog (("math/bits.deBruijn32tab",Rows.laid_math_bits_deBruijn32tab)::("math/bits.deBruijn64tab",Rows.laid_math_bits_deBruijn64tab)::rest) W):∃tabs:List (Nat×Obj),Dl ⟨tabs,none⟩∧∀x∈(⟨tabs,none⟩:BJ),below W x.1∧W.heap[x.1]?=some x.2:=by
 obtain⟨ps,⟨g0,t0,cs0,f0,p0,q0,hg0,ht0,hv0,hd0,⟨g1,t1,cs1,f1,p1,q1,hg1,ht1,hv1,hd1,_,_⟩,_⟩,_,_⟩:=h
 have k0:Tryz.prog.globalNamed "math/bits.deBruijn32tab" = some 0:=by kernel_rfl
 have k1:Tryz.prog.globalNamed "math/bits.deBruijn64tab" = some 1:=by kernel_rfl
 obtain rfl:=Option.some.inj (k0.symm.trans hg0)
 obtain rfl:=Option.some.inj (k1.symm.trans hg1)
 have l0:(Tryz.prog.globals[0]?).map (·.type)=some 245:=by kernel_rfl
 have l1:(Tryz.prog.globals[1]?).map (·.type)=some 246:=by kernel_rfl
 obtain rfl:=Option.some.inj (l0.symm.trans ht0)
 obtain rfl:=Option.some.inj (l1.symm.trans ht1)
 obtain⟨T0,fr0,h0⟩:=ZM (zs:=bT CN) k0 Tryz.underlying245 Tryz.underlying5 (by kernel_rfl) (by kernel_rfl) hv0 hd0
 obtain⟨T1,fr1,h1⟩:=ZM (zs:=bT BG) k1 Tryz.underlying246 Tryz.underlying5 (by kernel_rfl) (by kernel_rfl) hv1 hd1
 refine⟨[(0,.cells ((bT CN).map fun z=>Value.int .u8 z).toArray T0 fr0),(1,.cells ((bT BG).map fun z=>Value.int .u8 z).toArray T1 fr1)],⟨⟨⟨_,_,_,List.mem_cons_self,fun i v hv=>?_⟩,by decide⟩,⟨⟨_,_,_,List.mem_cons_of_mem _ List.mem_cons_self,fun i v hv=>?_⟩,by decide⟩⟩,?_⟩
 ·have:CN=(bT CN).map fun z=>Value.int .u8 z:=rfl
  rw[List.getElem?_toArray,←this];exact hv
 ·have:BG=(bT BG).map fun z=>Value.int .u8 z:=rfl
  rw[List.getElem?_toArray,←this];exact hv
 ·intro x hx
  have hx:x∈[_,_]:=hx
  simp only[List.mem_cons,List.not_mem_nil,or_false]at hx
  rcases hx with rfl|rfl
  ·exact⟨(Array.getElem?_eq_some_iff.1 h0).1,h0⟩
  ·exact⟨(Array.getElem?_eq_some_iff.1 h1).1,h1⟩
end Go.Proofs.YtdipaikojjjebaaGreatDoor
