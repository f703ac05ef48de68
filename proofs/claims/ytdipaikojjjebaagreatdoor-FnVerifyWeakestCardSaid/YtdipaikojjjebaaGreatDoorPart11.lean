/-
  What all rows share: how the arguments read, what a law that computes true leaves, a world that holds the tables.
-/
import Derived.Test.YtdipaikojjjebaaGreatDoorCards
import Derived.Test.YtdipaikojjjebaaGreatDoorTie
import Derived.Test.YtdipaikojjjebaaGreatDoorPart9
import Derived.Test.YtdipaikojjjebaaGreatDoorPart8
import Derived.WalkKit
set_option linter.all false
namespace Go.Proofs.YtdipaikojjjebaaGreatDoor
open Go Go.Am Go.ChangeShapes Go.WideShapes Go.ChangeAt Go.RowKit
theorem own:ownKnob Tryz.prog.godebug=none:=by kernel_rfl
theorem laidOut:laidOutB Tryz.prog=true:=by kernel_rfl
section
variable {w:World}
end
theorem nE{f:FuncId}{W:World}{TB:BB}{es:List E}{vs:Array Value}(hno:TB.hid=none)(h:Pure Tryz.prog TB f es (eB true))(ht:∀x∈TB,below W x.1∧W.heap[x.1]?=some x.2)(ha:O9 (bh W) es vs) :
 Calls Tryz.prog f vs W fun e W'=>e=.returned (.bool true)∧IX W W':=by
 have hg:Am.Good TB (bh W) [] 0 ⟨fun _=>False,fun _=>False⟩:=⟨fun _ h=>h,EL,ht,rfl,⟨by unfold Am.Uc;rw[hno];exact fun _ h=>h,fun _ h=>h.elim,fun _ h=>h.elim,fun _ _ h=>h⟩⟩
 refine(h.2 (bh W) vs _ hg ha).mono ?_
 rintro e W' ⟨V',v,x,σ',rfl,rfl,hi,hx,rfl⟩
 have hv:v=.bool true:=AD.val hx
 subst hv
 exact⟨rfl,hi.os,hi.output,hi.ext.size,fun b hb=>hi.old b hb fun h=>h.elim (fun ⟨_,_,h,_⟩=>by cases h) fun h=>h⟩
def ZK(l:List Value):Obj→Obj
 | .cells _ t frozen=>.cells l.toArray t frozen
 | o=>o
noncomputable def pG(os:Os):World:=
 {World.holding Tryz.prog os ⟨#[],#[],[]⟩ with heap:=((((World.holding Tryz.prog os ⟨#[],#[],[]⟩).heap.modify 0 (ZK CK)).modify 1 (ZK Bw)).modify 2 (ZK RR)) }
end Go.Proofs.YtdipaikojjjebaaGreatDoor
