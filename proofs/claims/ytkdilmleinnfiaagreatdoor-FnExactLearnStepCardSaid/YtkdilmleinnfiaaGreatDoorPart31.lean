/-
  The facts of the row FnExactLearnStep that Lean reckons, each by itself; all together.
-/
import Derived.Test.YtkdilmleinnfiaaGreatDoorPart30
import Derived.Test.YtkdilmleinnfiaaGreatDoorPart9
import Derived.Test.YtkdilmleinnfiaaGreatDoorPart23
import Derived.Test.YtkdilmleinnfiaaGreatDoorPart24
import Derived.Test.YtkdilmleinnfiaaGreatDoorPart25
import Derived.Test.YtkdilmleinnfiaaGreatDoorPart26
set_option linter.constructorNameAsVariable false
set_option linter.unusedSectionVars false
set_option linter.unusedSimpArgs false
set_option linter.unusedVariables false
namespace Go.Proofs.YtkdilmleinnfiaaGreatDoor.FnExactLearnStep
open Go Go.Am Go.ChangeShapes Go.WideShapes Go.ChangeAt Go.RowKit
theorem jK:((Rows.fnExactLearnStepRow.inPlace == Tryz.prog.inPlace 8))=true:=by kernel_rfl
theorem jL:((Rows.fnExactLearnStepRow.unfollowed == Tryz.prog.unfollowed 8))=true:=by kernel_rfl
theorem jM:((Rows.fnExactLearnStepRow.recurses == Tryz.prog.recurses 8))=true:=by kernel_rfl
theorem jN:((Rows.fnExactLearnStepRow.named == Tryz.prog.varsNamed 8))=true:=by kernel_rfl
theorem wf:Rows.fnExactLearnStepRow.wfByText (OpenSpec.ofChange Rows.fnExactLearnStepSpec)=true:=by kernel_rfl
theorem named:Tryz.prog.funcNamed Rows.fnExactLearnStepRow.func=some 8:=by kernel_rfl
theorem inst:Tryz.f8.isInstance Tryz.prog Rows.fnExactLearnStepRow.origin Rows.fnExactLearnStepRow.targs:=of_decide_eq_true (by kernel_rfl)
theorem wrap:Tryz.f8.isWrapper Tryz.prog Rows.fnExactLearnStepRow.wrapper Rows.fnExactLearnStepRow.mainSum:=by unfold Func.isWrapper;rw [if_neg (by decide +kernel)];exact⟨rfl,rfl⟩
end Go.Proofs.YtkdilmleinnfiaaGreatDoor.FnExactLearnStep
