/-
  The facts of the row FnExactLearnTable that Lean reckons, each by itself; all together.
-/
import Derived.Test.YtkdilmleinnfiaaGreatDoorPart30
import Derived.Test.YtkdilmleinnfiaaGreatDoorPart9
import Derived.Test.YtkdilmleinnfiaaGreatDoorPart23
import Derived.Test.YtkdilmleinnfiaaGreatDoorPart24
import Derived.Test.YtkdilmleinnfiaaGreatDoorPart25
import Derived.Test.YtkdilmleinnfiaaGreatDoorPart26
set_option linter.constructorNameAsVariable false
set_option linter.unusedSectionVars false
set_option linter.unusedSimpArgs false
set_option linter.unusedVariables false
namespace Go.Proofs.YtkdilmleinnfiaaGreatDoor.FnExactLearnTable
open Go Go.Am Go.ChangeShapes Go.WideShapes Go.ChangeAt Go.RowKit
theorem jN:((Rows.fnExactLearnTableRow.inPlace == Tryz.prog.inPlace 11))=true:=by kernel_rfl
theorem jO:((Rows.fnExactLearnTableRow.unfollowed == Tryz.prog.unfollowed 11))=true:=by kernel_rfl
theorem jP:((Rows.fnExactLearnTableRow.recurses == Tryz.prog.recurses 11))=true:=by kernel_rfl
theorem jQ:((Rows.fnExactLearnTableRow.named == Tryz.prog.varsNamed 11))=true:=by kernel_rfl
theorem wf:Rows.fnExactLearnTableRow.wfByText (OpenSpec.ofChange Rows.fnExactLearnTableSpec)=true:=by kernel_rfl
theorem named:Tryz.prog.funcNamed Rows.fnExactLearnTableRow.func=some 11:=by kernel_rfl
theorem inst:Tryz.f11.isInstance Tryz.prog Rows.fnExactLearnTableRow.origin Rows.fnExactLearnTableRow.targs:=of_decide_eq_true (by kernel_rfl)
theorem wrap:Tryz.f11.isWrapper Tryz.prog Rows.fnExactLearnTableRow.wrapper Rows.fnExactLearnTableRow.mainSum:=by unfold Func.isWrapper;rw [if_neg (by decide +kernel)];exact⟨rfl,rfl⟩
end Go.Proofs.YtkdilmleinnfiaaGreatDoor.FnExactLearnTable
