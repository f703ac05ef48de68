/-
  The facts of the row FnTableStates that Lean reckons, each by itself; all together.
-/
import Derived.Test.YtgpbfllcjdfelaaGreatDoorPart16
import Derived.Test.YtgpbfllcjdfelaaGreatDoorPart5
import Derived.Test.YtgpbfllcjdfelaaGreatDoorPart3
import Derived.Test.YtgpbfllcjdfelaaGreatDoorPart4
set_option linter.all false
namespace Go.Proofs.YtgpbfllcjdfelaaGreatDoor.FnTableStates
open Go Go.Am Go.ChangeShapes Go.WideShapes Go.ChangeAt Go.RowKit
theorem k10:((Rows.fnTableStatesRow.inPlace == Tryz.prog.inPlace 5))=true:=by kernel_rfl
theorem k11:((Rows.fnTableStatesRow.unfollowed == Tryz.prog.unfollowed 5))=true:=by kernel_rfl
theorem k12:((Rows.fnTableStatesRow.recurses == Tryz.prog.recurses 5))=true:=by kernel_rfl
theorem k13:((Rows.fnTableStatesRow.named == Tryz.prog.varsNamed 5))=true:=by kernel_rfl
theorem wf:Rows.fnTableStatesRow.wfByText (OpenSpec.ofChange Rows.fnTableStatesSpec)=true:=by kernel_rfl
theorem named:Tryz.prog.funcNamed Rows.fnTableStatesRow.func=some 5:=by kernel_rfl
theorem inst:Tryz.f5.isInstance Tryz.prog Rows.fnTableStatesRow.origin Rows.fnTableStatesRow.targs:=of_decide_eq_true (by kernel_rfl)
theorem wrap:Tryz.f5.isWrapper Tryz.prog Rows.fnTableStatesRow.wrapper Rows.fnTableStatesRow.mainSum:=by unfold Func.isWrapper;rw [if_neg (by decide +kernel)];exact⟨rfl,rfl⟩
end Go.Proofs.YtgpbfllcjdfelaaGreatDoor.FnTableStates
