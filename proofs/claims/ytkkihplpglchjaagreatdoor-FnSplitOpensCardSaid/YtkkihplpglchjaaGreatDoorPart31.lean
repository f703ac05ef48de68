/-
  The facts of the row FnSplitOpens that Lean reckons, each by itself; all together.
-/
import Derived.Test.YtkkihplpglchjaaGreatDoorPart30
import Derived.Test.YtkkihplpglchjaaGreatDoorPart9
import Derived.Test.YtkkihplpglchjaaGreatDoorPart25
import Derived.Test.YtkkihplpglchjaaGreatDoorPart26
import Derived.Test.YtkkihplpglchjaaGreatDoorPart27
import Derived.Test.YtkkihplpglchjaaGreatDoorPart28
set_option linter.constructorNameAsVariable false
set_option linter.unusedSimpArgs false
set_option linter.unusedVariables false
namespace Go.Proofs.YtkkihplpglchjaaGreatDoor.FnSplitOpens
open Go Go.Am Go.ChangeShapes Go.WideShapes Go.ChangeAt Go.RowKit
theorem ei:((Rows.fnSplitOpensRow.inPlace == Tryz.prog.inPlace 13))=true:=by kernel_rfl
theorem en:((Rows.fnSplitOpensRow.unfollowed == Tryz.prog.unfollowed 13))=true:=by kernel_rfl
theorem eo:((Rows.fnSplitOpensRow.recurses == Tryz.prog.recurses 13))=true:=by kernel_rfl
theorem ep:((Rows.fnSplitOpensRow.named == Tryz.prog.varsNamed 13))=true:=by kernel_rfl
theorem wf:Rows.fnSplitOpensRow.wfByText (OpenSpec.ofChange Rows.fnSplitOpensSpec)=true:=by kernel_rfl
theorem named:Tryz.prog.funcNamed Rows.fnSplitOpensRow.func=some 13:=by kernel_rfl
theorem inst:Tryz.f13.isInstance Tryz.prog Rows.fnSplitOpensRow.origin Rows.fnSplitOpensRow.targs:=of_decide_eq_true (by kernel_rfl)
theorem wrap:Tryz.f13.isWrapper Tryz.prog Rows.fnSplitOpensRow.wrapper Rows.fnSplitOpensRow.mainSum:=by unfold Func.isWrapper;rw [if_neg (by decide +kernel)];exact⟨rfl,rfl⟩
end Go.Proofs.YtkkihplpglchjaaGreatDoor.FnSplitOpens
