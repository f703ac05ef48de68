/-
  The facts of the row FnNewTable that Lean reckons, each by itself; all together.
-/
import Derived.Test.YtkkihplpglchjaaGreatDoorPart28
import Derived.Test.YtkkihplpglchjaaGreatDoorPart9
import Derived.Test.YtkkihplpglchjaaGreatDoorPart23
import Derived.Test.YtkkihplpglchjaaGreatDoorPart24
import Derived.Test.YtkkihplpglchjaaGreatDoorPart25
import Derived.Test.YtkkihplpglchjaaGreatDoorPart26
set_option linter.constructorNameAsVariable false
set_option linter.unusedSimpArgs false
set_option linter.unusedVariables false
namespace Go.Proofs.YtkkihplpglchjaaGreatDoor.FnNewTable
open Go Go.Am Go.ChangeShapes Go.WideShapes Go.ChangeAt Go.RowKit
theorem bh:((Rows.fnNewTableRow.inPlace == Tryz.prog.inPlace 5))=true:=by kernel_rfl
theorem bj:((Rows.fnNewTableRow.unfollowed == Tryz.prog.unfollowed 5))=true:=by kernel_rfl
theorem bk:((Rows.fnNewTableRow.recurses == Tryz.prog.recurses 5))=true:=by kernel_rfl
theorem bm:((Rows.fnNewTableRow.named == Tryz.prog.varsNamed 5))=true:=by kernel_rfl
theorem wf:Rows.fnNewTableRow.wfByText (OpenSpec.ofChange Rows.fnNewTableSpec)=true:=by kernel_rfl
theorem named:Tryz.prog.funcNamed Rows.fnNewTableRow.func=some 5:=by kernel_rfl
theorem inst:Tryz.f5.isInstance Tryz.prog Rows.fnNewTableRow.origin Rows.fnNewTableRow.targs:=of_decide_eq_true (by kernel_rfl)
theorem wrap:Tryz.f5.isWrapper Tryz.prog Rows.fnNewTableRow.wrapper Rows.fnNewTableRow.mainSum:=by unfold Func.isWrapper;rw [if_neg (by decide +kernel)];exact ⟨rfl,rfl⟩
end Go.Proofs.YtkkihplpglchjaaGreatDoor.FnNewTable
