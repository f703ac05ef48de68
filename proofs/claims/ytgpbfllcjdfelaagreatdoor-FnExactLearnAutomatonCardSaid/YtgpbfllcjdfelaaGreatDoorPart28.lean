/-
  The facts of the row FnExactLearnAutomaton that Lean reckons, each by itself; all together.
-/
import Derived.Test.YtgpbfllcjdfelaaGreatDoorPart15
import Derived.Test.YtgpbfllcjdfelaaGreatDoorPart5
import Derived.Test.YtgpbfllcjdfelaaGreatDoorPart3
import Derived.Test.YtgpbfllcjdfelaaGreatDoorPart4
set_option linter.all false
namespace Go.Proofs.YtgpbfllcjdfelaaGreatDoor.FnExactLearnAutomaton
open Go Go.Am Go.ChangeShapes Go.WideShapes Go.ChangeAt Go.RowKit
theorem k10:((Rows.fnExactLearnAutomatonRow.inPlace == Tryz.prog.inPlace 6))=true:=by kernel_rfl
theorem k11:((Rows.fnExactLearnAutomatonRow.unfollowed == Tryz.prog.unfollowed 6))=true:=by kernel_rfl
theorem k12:((Rows.fnExactLearnAutomatonRow.recurses == Tryz.prog.recurses 6))=true:=by kernel_rfl
theorem k13:((Rows.fnExactLearnAutomatonRow.named == Tryz.prog.varsNamed 6))=true:=by kernel_rfl
theorem wf:Rows.fnExactLearnAutomatonRow.wfByText (OpenSpec.ofChange Rows.fnExactLearnAutomatonSpec)=true:=by kernel_rfl
theorem named:Tryz.prog.funcNamed Rows.fnExactLearnAutomatonRow.func=some 6:=by kernel_rfl
theorem inst:Tryz.f6.isInstance Tryz.prog Rows.fnExactLearnAutomatonRow.origin Rows.fnExactLearnAutomatonRow.targs:=of_decide_eq_true (by kernel_rfl)
theorem wrap:Tryz.f6.isWrapper Tryz.prog Rows.fnExactLearnAutomatonRow.wrapper Rows.fnExactLearnAutomatonRow.mainSum:=by unfold Func.isWrapper;rw [if_neg (by decide +kernel)];exact⟨rfl,rfl⟩
end Go.Proofs.YtgpbfllcjdfelaaGreatDoor.FnExactLearnAutomaton
