/-
  The facts of the row FnAssumptionAt that Lean reckons, each by itself; all together.
-/
import Derived.Test.YtgpbfllcjdfelaaGreatDoorPart11
import Derived.Test.YtgpbfllcjdfelaaGreatDoorPart4
import Derived.Test.YtgpbfllcjdfelaaGreatDoorPart2
import Derived.Test.YtgpbfllcjdfelaaGreatDoorPart3
set_option linter.all false
namespace Go.Proofs.YtgpbfllcjdfelaaGreatDoor.FnAssumptionAt
open Go Go.Am Go.ChangeShapes Go.WideShapes Go.ChangeAt Go.RowKit
theorem pj:((Rows.fnAssumptionAtRow.inPlace == Tryz.prog.inPlace 3))=true:=by kernel_rfl
theorem pk:((Rows.fnAssumptionAtRow.unfollowed == Tryz.prog.unfollowed 3))=true:=by kernel_rfl
theorem po:((Rows.fnAssumptionAtRow.recurses == Tryz.prog.recurses 3))=true:=by kernel_rfl
theorem pv:((Rows.fnAssumptionAtRow.named == Tryz.prog.varsNamed 3))=true:=by kernel_rfl
theorem wf:Rows.fnAssumptionAtRow.wfByText (OpenSpec.ofChange Rows.fnAssumptionAtSpec)=true:=by kernel_rfl
theorem named:Tryz.prog.funcNamed Rows.fnAssumptionAtRow.func=some 3:=by kernel_rfl
theorem inst:Tryz.f3.isInstance Tryz.prog Rows.fnAssumptionAtRow.origin Rows.fnAssumptionAtRow.targs:=of_decide_eq_true (by kernel_rfl)
theorem wrap:Tryz.f3.isWrapper Tryz.prog Rows.fnAssumptionAtRow.wrapper Rows.fnAssumptionAtRow.mainSum:=by unfold Func.isWrapper;rw[if_neg (by decide +kernel)];exact⟨rfl,rfl⟩
end Go.Proofs.YtgpbfllcjdfelaaGreatDoor.FnAssumptionAt
