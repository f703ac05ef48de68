/-
  The facts of the row FnLearnStepWrong that Lean reckons, each by itself; all together.
-/
import Derived.Test.YtkkihplpglchjaaGreatDoorPart30
import Derived.Test.YtkkihplpglchjaaGreatDoorPart9
import Derived.Test.YtkkihplpglchjaaGreatDoorPart25
import Derived.Test.YtkkihplpglchjaaGreatDoorPart26
import Derived.Test.YtkkihplpglchjaaGreatDoorPart27
import Derived.Test.YtkkihplpglchjaaGreatDoorPart28
set_option linter.constructorNameAsVariable false
set_option linter.unusedSimpArgs false
set_option linter.unusedVariables false
namespace Go.Proofs.YtkkihplpglchjaaGreatDoor.FnLearnStepWrong
open Go Go.Am Go.ChangeShapes Go.WideShapes Go.ChangeAt Go.RowKit
theorem ei:((Rows.fnLearnStepWrongRow.inPlace == Tryz.prog.inPlace 15))=true:=by kernel_rfl
theorem en:((Rows.fnLearnStepWrongRow.unfollowed == Tryz.prog.unfollowed 15))=true:=by kernel_rfl
theorem eo:((Rows.fnLearnStepWrongRow.recurses == Tryz.prog.recurses 15))=true:=by kernel_rfl
theorem ep:((Rows.fnLearnStepWrongRow.named == Tryz.prog.varsNamed 15))=true:=by kernel_rfl
theorem wf:Rows.fnLearnStepWrongRow.wfByText (OpenSpec.ofChange Rows.fnLearnStepWrongSpec)=true:=by kernel_rfl
theorem named:Tryz.prog.funcNamed Rows.fnLearnStepWrongRow.func=some 15:=by kernel_rfl
theorem inst:Tryz.f15.isInstance Tryz.prog Rows.fnLearnStepWrongRow.origin Rows.fnLearnStepWrongRow.targs:=of_decide_eq_true (by kernel_rfl)
theorem wrap:Tryz.f15.isWrapper Tryz.prog Rows.fnLearnStepWrongRow.wrapper Rows.fnLearnStepWrongRow.mainSum:=by unfold Func.isWrapper;rw [if_neg (by decide +kernel)];exact⟨rfl,rfl⟩
end Go.Proofs.YtkkihplpglchjaaGreatDoor.FnLearnStepWrong
