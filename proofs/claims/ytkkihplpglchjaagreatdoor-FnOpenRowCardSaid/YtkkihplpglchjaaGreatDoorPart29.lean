/-
  The facts of the row FnOpenRow that Lean reckons, each by itself; all together.
-/
import Derived.Test.YtkkihplpglchjaaGreatDoorPart28
import Derived.Test.YtkkihplpglchjaaGreatDoorPart9
import Derived.Test.YtkkihplpglchjaaGreatDoorPart23
import Derived.Test.YtkkihplpglchjaaGreatDoorPart24
import Derived.Test.YtkkihplpglchjaaGreatDoorPart25
import Derived.Test.YtkkihplpglchjaaGreatDoorPart26
set_option linter.constructorNameAsVariable false
set_option linter.unusedSimpArgs false
set_option linter.unusedVariables false
namespace Go.Proofs.YtkkihplpglchjaaGreatDoor.FnOpenRow
open Go Go.Am Go.ChangeShapes Go.WideShapes Go.ChangeAt Go.RowKit
theorem aY:((Rows.fnOpenRowRow.inPlace == Tryz.prog.inPlace 4))=true:=by kernel_rfl
theorem aZ:((Rows.fnOpenRowRow.unfollowed == Tryz.prog.unfollowed 4))=true:=by kernel_rfl
theorem ba:((Rows.fnOpenRowRow.recurses == Tryz.prog.recurses 4))=true:=by kernel_rfl
theorem bf:((Rows.fnOpenRowRow.named == Tryz.prog.varsNamed 4))=true:=by kernel_rfl
theorem wf:Rows.fnOpenRowRow.wfByText (OpenSpec.ofChange Rows.fnOpenRowSpec)=true:=by kernel_rfl
theorem named:Tryz.prog.funcNamed Rows.fnOpenRowRow.func=some 4:=by kernel_rfl
theorem inst:Tryz.f4.isInstance Tryz.prog Rows.fnOpenRowRow.origin Rows.fnOpenRowRow.targs:=of_decide_eq_true (by kernel_rfl)
theorem wrap:Tryz.f4.isWrapper Tryz.prog Rows.fnOpenRowRow.wrapper Rows.fnOpenRowRow.mainSum:=by unfold Func.isWrapper;rw [if_neg (by decide +kernel)];exact ⟨rfl,rfl⟩
end Go.Proofs.YtkkihplpglchjaaGreatDoor.FnOpenRow
