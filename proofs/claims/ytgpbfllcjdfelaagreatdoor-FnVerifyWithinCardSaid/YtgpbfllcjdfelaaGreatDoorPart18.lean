/-
  The facts of the row FnVerifyWithin that Lean reckons, each by itself; all together.
-/
import Derived.Test.YtgpbfllcjdfelaaGreatDoorPart17
import Derived.Test.YtgpbfllcjdfelaaGreatDoorPart4
import Derived.Test.YtgpbfllcjdfelaaGreatDoorPart2
import Derived.Test.YtgpbfllcjdfelaaGreatDoorPart3
set_option linter.all false
namespace Go.Proofs.YtgpbfllcjdfelaaGreatDoor.FnVerifyWithin
open Go Go.Am Go.ChangeShapes Go.WideShapes Go.ChangeAt Go.RowKit
theorem k8:((Rows.fnVerifyWithinRow.inPlace == Tryz.prog.inPlace 8))=true:=by kernel_rfl
theorem k9:((Rows.fnVerifyWithinRow.unfollowed == Tryz.prog.unfollowed 8))=true:=by kernel_rfl
theorem lf:((Rows.fnVerifyWithinRow.recurses == Tryz.prog.recurses 8))=true:=by kernel_rfl
theorem lg:((Rows.fnVerifyWithinRow.named == Tryz.prog.varsNamed 8))=true:=by kernel_rfl
theorem wf:Rows.fnVerifyWithinRow.wfByText (OpenSpec.ofChange Rows.fnVerifyWithinSpec)=true:=by kernel_rfl
theorem named:Tryz.prog.funcNamed Rows.fnVerifyWithinRow.func=some 8:=by kernel_rfl
theorem inst:Tryz.f8.isInstance Tryz.prog Rows.fnVerifyWithinRow.origin Rows.fnVerifyWithinRow.targs:=of_decide_eq_true (by kernel_rfl)
theorem wrap:Tryz.f8.isWrapper Tryz.prog Rows.fnVerifyWithinRow.wrapper Rows.fnVerifyWithinRow.mainSum:=by unfold Func.isWrapper;rw [if_neg (by decide +kernel)];exact⟨rfl,rfl⟩
end Go.Proofs.YtgpbfllcjdfelaaGreatDoor.FnVerifyWithin
