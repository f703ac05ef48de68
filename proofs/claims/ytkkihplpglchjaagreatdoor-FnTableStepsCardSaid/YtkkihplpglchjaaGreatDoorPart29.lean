/-
  The facts of the row FnTableSteps that Lean reckons, each by itself; all together.
-/
import Derived.Test.YtkkihplpglchjaaGreatDoorPart28
import Derived.Test.YtkkihplpglchjaaGreatDoorPart9
import Derived.Test.YtkkihplpglchjaaGreatDoorPart23
import Derived.Test.YtkkihplpglchjaaGreatDoorPart24
import Derived.Test.YtkkihplpglchjaaGreatDoorPart25
import Derived.Test.YtkkihplpglchjaaGreatDoorPart26
set_option linter.constructorNameAsVariable false
set_option linter.unusedSimpArgs false
set_option linter.unusedVariables false
namespace Go.Proofs.YtkkihplpglchjaaGreatDoor.FnTableSteps
open Go Go.Am Go.ChangeShapes Go.WideShapes Go.ChangeAt Go.RowKit
theorem Z7:((Rows.fnTableStepsRow.inPlace == Tryz.prog.inPlace 9))=true:=by kernel_rfl
theorem Z8:((Rows.fnTableStepsRow.unfollowed == Tryz.prog.unfollowed 9))=true:=by kernel_rfl
theorem Z9:((Rows.fnTableStepsRow.recurses == Tryz.prog.recurses 9))=true:=by kernel_rfl
theorem aa:((Rows.fnTableStepsRow.named == Tryz.prog.varsNamed 9))=true:=by kernel_rfl
theorem wf:Rows.fnTableStepsRow.wfByText (OpenSpec.ofChange Rows.fnTableStepsSpec)=true:=by kernel_rfl
theorem named:Tryz.prog.funcNamed Rows.fnTableStepsRow.func=some 9:=by kernel_rfl
theorem inst:Tryz.f9.isInstance Tryz.prog Rows.fnTableStepsRow.origin Rows.fnTableStepsRow.targs:=of_decide_eq_true (by kernel_rfl)
theorem wrap:Tryz.f9.isWrapper Tryz.prog Rows.fnTableStepsRow.wrapper Rows.fnTableStepsRow.mainSum:=by unfold Func.isWrapper;rw [if_neg (by decide +kernel)];exact ⟨rfl,rfl⟩
end Go.Proofs.YtkkihplpglchjaaGreatDoor.FnTableSteps
