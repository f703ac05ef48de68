/-
  The facts of the row FnTableRows that Lean reckons, each by itself; all together.
-/
import Derived.Test.YtkkihplpglchjaaGreatDoorPart28
import Derived.Test.YtkkihplpglchjaaGreatDoorPart9
import Derived.Test.YtkkihplpglchjaaGreatDoorPart23
import Derived.Test.YtkkihplpglchjaaGreatDoorPart24
import Derived.Test.YtkkihplpglchjaaGreatDoorPart25
import Derived.Test.YtkkihplpglchjaaGreatDoorPart26
set_option linter.constructorNameAsVariable false
set_option linter.unusedSimpArgs false
set_option linter.unusedVariables false
namespace Go.Proofs.YtkkihplpglchjaaGreatDoor.FnTableRows
open Go Go.Am Go.ChangeShapes Go.WideShapes Go.ChangeAt Go.RowKit
theorem aY:((Rows.fnTableRowsRow.inPlace == Tryz.prog.inPlace 3))=true:=by kernel_rfl
theorem aZ:((Rows.fnTableRowsRow.unfollowed == Tryz.prog.unfollowed 3))=true:=by kernel_rfl
theorem ba:((Rows.fnTableRowsRow.recurses == Tryz.prog.recurses 3))=true:=by kernel_rfl
theorem bf:((Rows.fnTableRowsRow.named == Tryz.prog.varsNamed 3))=true:=by kernel_rfl
theorem wf:Rows.fnTableRowsRow.wfByText (OpenSpec.ofChange Rows.fnTableRowsSpec)=true:=by kernel_rfl
theorem named:Tryz.prog.funcNamed Rows.fnTableRowsRow.func=some 3:=by kernel_rfl
theorem inst:Tryz.f3.isInstance Tryz.prog Rows.fnTableRowsRow.origin Rows.fnTableRowsRow.targs:=of_decide_eq_true (by kernel_rfl)
theorem wrap:Tryz.f3.isWrapper Tryz.prog Rows.fnTableRowsRow.wrapper Rows.fnTableRowsRow.mainSum:=by unfold Func.isWrapper;rw [if_neg (by decide +kernel)];exact ⟨rfl,rfl⟩
end Go.Proofs.YtkkihplpglchjaaGreatDoor.FnTableRows
