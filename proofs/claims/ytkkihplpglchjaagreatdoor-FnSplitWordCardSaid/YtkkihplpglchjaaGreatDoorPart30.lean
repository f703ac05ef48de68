/-
  The facts of the row FnSplitWord that Lean reckons, each by itself; all together.
-/
import Derived.Test.YtkkihplpglchjaaGreatDoorPart29
import Derived.Test.YtkkihplpglchjaaGreatDoorPart9
import Derived.Test.YtkkihplpglchjaaGreatDoorPart25
import Derived.Test.YtkkihplpglchjaaGreatDoorPart26
import Derived.Test.YtkkihplpglchjaaGreatDoorPart27
import Derived.Test.YtkkihplpglchjaaGreatDoorPart28
set_option linter.constructorNameAsVariable false
set_option linter.unusedSimpArgs false
set_option linter.unusedVariables false
namespace Go.Proofs.YtkkihplpglchjaaGreatDoor.FnSplitWord
open Go Go.Am Go.ChangeShapes Go.WideShapes Go.ChangeAt Go.RowKit
theorem ea:((Rows.fnSplitWordRow.inPlace == Tryz.prog.inPlace 12))=true:=by kernel_rfl
theorem eb:((Rows.fnSplitWordRow.unfollowed == Tryz.prog.unfollowed 12))=true:=by kernel_rfl
theorem ed:((Rows.fnSplitWordRow.recurses == Tryz.prog.recurses 12))=true:=by kernel_rfl
theorem ef:((Rows.fnSplitWordRow.named == Tryz.prog.varsNamed 12))=true:=by kernel_rfl
theorem wf:Rows.fnSplitWordRow.wfByText (OpenSpec.ofChange Rows.fnSplitWordSpec)=true:=by kernel_rfl
theorem named:Tryz.prog.funcNamed Rows.fnSplitWordRow.func=some 12:=by kernel_rfl
theorem inst:Tryz.f12.isInstance Tryz.prog Rows.fnSplitWordRow.origin Rows.fnSplitWordRow.targs:=of_decide_eq_true (by kernel_rfl)
theorem wrap:Tryz.f12.isWrapper Tryz.prog Rows.fnSplitWordRow.wrapper Rows.fnSplitWordRow.mainSum:=by unfold Func.isWrapper;rw [if_neg (by decide +kernel)];exact⟨rfl,rfl⟩
end Go.Proofs.YtkkihplpglchjaaGreatDoor.FnSplitWord
