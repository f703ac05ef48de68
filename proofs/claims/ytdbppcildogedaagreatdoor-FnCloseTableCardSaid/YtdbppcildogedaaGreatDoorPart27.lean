/-
  The facts of the row FnCloseTable that Lean reckons, each by itself; all together.
-/
import Derived.Test.YtdbppcildogedaaGreatDoorPart26
import Derived.Test.YtdbppcildogedaaGreatDoorPart9
import Derived.Test.YtdbppcildogedaaGreatDoorPart21
import Derived.Test.YtdbppcildogedaaGreatDoorPart22
import Derived.Test.YtdbppcildogedaaGreatDoorPart23
import Derived.Test.YtdbppcildogedaaGreatDoorPart24
set_option linter.constructorNameAsVariable false
set_option linter.unusedSimpArgs false
set_option linter.unusedVariables false
namespace Go.Proofs.YtdbppcildogedaaGreatDoor.FnCloseTable
open Go Go.Am Go.ChangeShapes Go.WideShapes Go.ChangeAt Go.RowKit
theorem YJ:((Rows.fnCloseTableRow.inPlace == Tryz.prog.inPlace 10))=true:=by kernel_rfl
theorem YK:((Rows.fnCloseTableRow.unfollowed == Tryz.prog.unfollowed 10))=true:=by kernel_rfl
theorem YL:((Rows.fnCloseTableRow.recurses == Tryz.prog.recurses 10))=true:=by kernel_rfl
theorem YM:((Rows.fnCloseTableRow.named == Tryz.prog.varsNamed 10))=true:=by kernel_rfl
theorem wf:Rows.fnCloseTableRow.wfByText (OpenSpec.ofChange Rows.fnCloseTableSpec)=true:=by kernel_rfl
theorem named:Tryz.prog.funcNamed Rows.fnCloseTableRow.func=some 10:=by kernel_rfl
theorem inst:Tryz.f10.isInstance Tryz.prog Rows.fnCloseTableRow.origin Rows.fnCloseTableRow.targs:=of_decide_eq_true (by kernel_rfl)
theorem wrap:Tryz.f10.isWrapper Tryz.prog Rows.fnCloseTableRow.wrapper Rows.fnCloseTableRow.mainSum:=by unfold Func.isWrapper;rw [if_neg (by decide +kernel)];exact ⟨rfl,rfl⟩
end Go.Proofs.YtdbppcildogedaaGreatDoor.FnCloseTable
