/-
  The facts of the row FnSplitFirst that Lean reckons, each by itself; all together.
-/
import Derived.Test.YtkkihplpglchjaaGreatDoorPart29
import Derived.Test.YtkkihplpglchjaaGreatDoorPart9
import Derived.Test.YtkkihplpglchjaaGreatDoorPart25
import Derived.Test.YtkkihplpglchjaaGreatDoorPart26
import Derived.Test.YtkkihplpglchjaaGreatDoorPart27
import Derived.Test.YtkkihplpglchjaaGreatDoorPart28
set_option linter.constructorNameAsVariable false
set_option linter.unusedSimpArgs false
set_option linter.unusedVariables false
namespace Go.Proofs.YtkkihplpglchjaaGreatDoor.FnSplitFirst
open Go Go.Am Go.ChangeShapes Go.WideShapes Go.ChangeAt Go.RowKit
theorem ea:((Rows.fnSplitFirstRow.inPlace == Tryz.prog.inPlace 11))=true:=by kernel_rfl
theorem eb:((Rows.fnSplitFirstRow.unfollowed == Tryz.prog.unfollowed 11))=true:=by kernel_rfl
theorem ed:((Rows.fnSplitFirstRow.recurses == Tryz.prog.recurses 11))=true:=by kernel_rfl
theorem ef:((Rows.fnSplitFirstRow.named == Tryz.prog.varsNamed 11))=true:=by kernel_rfl
theorem wf:Rows.fnSplitFirstRow.wfByText (OpenSpec.ofChange Rows.fnSplitFirstSpec)=true:=by kernel_rfl
theorem named:Tryz.prog.funcNamed Rows.fnSplitFirstRow.func=some 11:=by kernel_rfl
theorem inst:Tryz.f11.isInstance Tryz.prog Rows.fnSplitFirstRow.origin Rows.fnSplitFirstRow.targs:=of_decide_eq_true (by kernel_rfl)
theorem wrap:Tryz.f11.isWrapper Tryz.prog Rows.fnSplitFirstRow.wrapper Rows.fnSplitFirstRow.mainSum:=by unfold Func.isWrapper;rw [if_neg (by decide +kernel)];exact⟨rfl,rfl⟩
end Go.Proofs.YtkkihplpglchjaaGreatDoor.FnSplitFirst
