/-
  The facts of the row FnExactCloseTable that Lean reckons, each by itself; all together.
-/
import Derived.Test.YtkdilmleinnfiaaGreatDoorPart30
import Derived.Test.YtkdilmleinnfiaaGreatDoorPart9
import Derived.Test.YtkdilmleinnfiaaGreatDoorPart23
import Derived.Test.YtkdilmleinnfiaaGreatDoorPart24
import Derived.Test.YtkdilmleinnfiaaGreatDoorPart25
import Derived.Test.YtkdilmleinnfiaaGreatDoorPart26
set_option linter.constructorNameAsVariable false
set_option linter.unusedSectionVars false
set_option linter.unusedSimpArgs false
set_option linter.unusedVariables false
namespace Go.Proofs.YtkdilmleinnfiaaGreatDoor.FnExactCloseTable
open Go Go.Am Go.ChangeShapes Go.WideShapes Go.ChangeAt Go.RowKit
theorem jI:((Rows.fnExactCloseTableRow.inPlace == Tryz.prog.inPlace 5))=true:=by kernel_rfl
theorem jJ:((Rows.fnExactCloseTableRow.unfollowed == Tryz.prog.unfollowed 5))=true:=by kernel_rfl
theorem jK:((Rows.fnExactCloseTableRow.recurses == Tryz.prog.recurses 5))=true:=by kernel_rfl
theorem jL:((Rows.fnExactCloseTableRow.named == Tryz.prog.varsNamed 5))=true:=by kernel_rfl
theorem wf:Rows.fnExactCloseTableRow.wfByText (OpenSpec.ofChange Rows.fnExactCloseTableSpec)=true:=by kernel_rfl
theorem named:Tryz.prog.funcNamed Rows.fnExactCloseTableRow.func=some 5:=by kernel_rfl
theorem inst:Tryz.f5.isInstance Tryz.prog Rows.fnExactCloseTableRow.origin Rows.fnExactCloseTableRow.targs:=of_decide_eq_true (by kernel_rfl)
theorem wrap:Tryz.f5.isWrapper Tryz.prog Rows.fnExactCloseTableRow.wrapper Rows.fnExactCloseTableRow.mainSum:=by unfold Func.isWrapper;rw [if_neg (by decide +kernel)];exact⟨rfl,rfl⟩
end Go.Proofs.YtkdilmleinnfiaaGreatDoor.FnExactCloseTable
