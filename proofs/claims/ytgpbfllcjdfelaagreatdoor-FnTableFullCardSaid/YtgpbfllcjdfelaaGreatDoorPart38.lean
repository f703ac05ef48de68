/-
  The facts of the row FnTableFull that Lean reckons, each by itself; all together.
-/
import Derived.Test.YtgpbfllcjdfelaaGreatDoorPart16
import Derived.Test.YtgpbfllcjdfelaaGreatDoorPart5
import Derived.Test.YtgpbfllcjdfelaaGreatDoorPart3
import Derived.Test.YtgpbfllcjdfelaaGreatDoorPart4
set_option linter.all false
namespace Go.Proofs.YtgpbfllcjdfelaaGreatDoor.FnTableFull
open Go Go.Am Go.ChangeShapes Go.WideShapes Go.ChangeAt Go.RowKit
theorem k10:((Rows.fnTableFullRow.inPlace == Tryz.prog.inPlace 4))=true:=by kernel_rfl
theorem k11:((Rows.fnTableFullRow.unfollowed == Tryz.prog.unfollowed 4))=true:=by kernel_rfl
theorem k12:((Rows.fnTableFullRow.recurses == Tryz.prog.recurses 4))=true:=by kernel_rfl
theorem k13:((Rows.fnTableFullRow.named == Tryz.prog.varsNamed 4))=true:=by kernel_rfl
theorem wf:Rows.fnTableFullRow.wfByText (OpenSpec.ofChange Rows.fnTableFullSpec)=true:=by kernel_rfl
theorem named:Tryz.prog.funcNamed Rows.fnTableFullRow.func=some 4:=by kernel_rfl
theorem inst:Tryz.f4.isInstance Tryz.prog Rows.fnTableFullRow.origin Rows.fnTableFullRow.targs:=of_decide_eq_true (by kernel_rfl)
theorem wrap:Tryz.f4.isWrapper Tryz.prog Rows.fnTableFullRow.wrapper Rows.fnTableFullRow.mainSum:=by unfold Func.isWrapper;rw [if_neg (by decide +kernel)];exact⟨rfl,rfl⟩
end Go.Proofs.YtgpbfllcjdfelaaGreatDoor.FnTableFull
