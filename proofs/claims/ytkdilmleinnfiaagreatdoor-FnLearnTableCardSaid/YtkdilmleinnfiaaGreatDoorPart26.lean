/-
  The facts of the row FnLearnTable that Lean reckons, each by itself; all together.
-/
import Derived.Test.YtkdilmleinnfiaaGreatDoorPart9
import Derived.Test.YtkdilmleinnfiaaGreatDoorPart22
import Derived.Test.YtkdilmleinnfiaaGreatDoorPart23
import Derived.Test.YtkdilmleinnfiaaGreatDoorPart24
import Derived.Test.YtkdilmleinnfiaaGreatDoorPart25
set_option linter.constructorNameAsVariable false
set_option linter.unusedSectionVars false
set_option linter.unusedSimpArgs false
set_option linter.unusedVariables false
namespace Go.Proofs.YtkdilmleinnfiaaGreatDoor.FnLearnTable
open Go Go.Am Go.ChangeShapes Go.WideShapes Go.ChangeAt Go.RowKit
theorem db:((Rows.fnLearnTableRow.inPlace == Tryz.prog.inPlace 14))=true:=by kernel_rfl
theorem dc:((Rows.fnLearnTableRow.unfollowed == Tryz.prog.unfollowed 14))=true:=by kernel_rfl
theorem de:((Rows.fnLearnTableRow.recurses == Tryz.prog.recurses 14))=true:=by kernel_rfl
theorem df:((Rows.fnLearnTableRow.named == Tryz.prog.varsNamed 14))=true:=by kernel_rfl
theorem wf:Rows.fnLearnTableRow.wfByText (OpenSpec.ofChange Rows.fnLearnTableSpec)=true:=by kernel_rfl
theorem named:Tryz.prog.funcNamed Rows.fnLearnTableRow.func=some 14:=by kernel_rfl
theorem inst:Tryz.f14.isInstance Tryz.prog Rows.fnLearnTableRow.origin Rows.fnLearnTableRow.targs:=of_decide_eq_true (by kernel_rfl)
theorem wrap:Tryz.f14.isWrapper Tryz.prog Rows.fnLearnTableRow.wrapper Rows.fnLearnTableRow.mainSum:=by unfold Func.isWrapper;rw [if_neg (by decide +kernel)];exact⟨rfl,rfl⟩
end Go.Proofs.YtkdilmleinnfiaaGreatDoor.FnLearnTable
