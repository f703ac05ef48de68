/-
  The facts of the row FnLearnStep that Lean reckons, each by itself; all together.
-/
import Derived.Test.YtkkihplpglchjaaGreatDoorPart30
import Derived.Test.YtkkihplpglchjaaGreatDoorPart9
import Derived.Test.YtkkihplpglchjaaGreatDoorPart25
import Derived.Test.YtkkihplpglchjaaGreatDoorPart26
import Derived.Test.YtkkihplpglchjaaGreatDoorPart27
import Derived.Test.YtkkihplpglchjaaGreatDoorPart28
set_option linter.constructorNameAsVariable false
set_option linter.unusedSimpArgs false
set_option linter.unusedVariables false
namespace Go.Proofs.YtkkihplpglchjaaGreatDoor.FnLearnStep
open Go Go.Am Go.ChangeShapes Go.WideShapes Go.ChangeAt Go.RowKit
theorem ei:((Rows.fnLearnStepRow.inPlace == Tryz.prog.inPlace 14))=true:=by kernel_rfl
theorem en:((Rows.fnLearnStepRow.unfollowed == Tryz.prog.unfollowed 14))=true:=by kernel_rfl
theorem eo:((Rows.fnLearnStepRow.recurses == Tryz.prog.recurses 14))=true:=by kernel_rfl
theorem ep:((Rows.fnLearnStepRow.named == Tryz.prog.varsNamed 14))=true:=by kernel_rfl
theorem wf:Rows.fnLearnStepRow.wfByText (OpenSpec.ofChange Rows.fnLearnStepSpec)=true:=by kernel_rfl
theorem named:Tryz.prog.funcNamed Rows.fnLearnStepRow.func=some 14:=by kernel_rfl
theorem inst:Tryz.f14.isInstance Tryz.prog Rows.fnLearnStepRow.origin Rows.fnLearnStepRow.targs:=of_decide_eq_true (by kernel_rfl)
theorem wrap:Tryz.f14.isWrapper Tryz.prog Rows.fnLearnStepRow.wrapper Rows.fnLearnStepRow.mainSum:=by unfold Func.isWrapper;rw [if_neg (by decide +kernel)];exact⟨rfl,rfl⟩
end Go.Proofs.YtkkihplpglchjaaGreatDoor.FnLearnStep
