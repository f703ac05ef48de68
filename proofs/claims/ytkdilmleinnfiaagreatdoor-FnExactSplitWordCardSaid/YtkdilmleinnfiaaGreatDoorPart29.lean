/-
  The facts of the row FnExactSplitWord that Lean reckons, each by itself; all together.
-/
import Derived.Test.YtkdilmleinnfiaaGreatDoorPart28
import Derived.Test.YtkdilmleinnfiaaGreatDoorPart9
import Derived.Test.YtkdilmleinnfiaaGreatDoorPart23
import Derived.Test.YtkdilmleinnfiaaGreatDoorPart24
import Derived.Test.YtkdilmleinnfiaaGreatDoorPart25
import Derived.Test.YtkdilmleinnfiaaGreatDoorPart26
set_option linter.constructorNameAsVariable false
set_option linter.unusedSectionVars false
set_option linter.unusedSimpArgs false
set_option linter.unusedVariables false
namespace Go.Proofs.YtkdilmleinnfiaaGreatDoor.FnExactSplitWord
open Go Go.Am Go.ChangeShapes Go.WideShapes Go.ChangeAt Go.RowKit
theorem gU:((Rows.fnExactSplitWordRow.inPlace == Tryz.prog.inPlace 4))=true:=by kernel_rfl
theorem gV:((Rows.fnExactSplitWordRow.unfollowed == Tryz.prog.unfollowed 4))=true:=by kernel_rfl
theorem gX:((Rows.fnExactSplitWordRow.recurses == Tryz.prog.recurses 4))=true:=by kernel_rfl
theorem gY:((Rows.fnExactSplitWordRow.named == Tryz.prog.varsNamed 4))=true:=by kernel_rfl
theorem wf:Rows.fnExactSplitWordRow.wfByText (OpenSpec.ofChange Rows.fnExactSplitWordSpec)=true:=by kernel_rfl
theorem named:Tryz.prog.funcNamed Rows.fnExactSplitWordRow.func=some 4:=by kernel_rfl
theorem inst:Tryz.f4.isInstance Tryz.prog Rows.fnExactSplitWordRow.origin Rows.fnExactSplitWordRow.targs:=of_decide_eq_true (by kernel_rfl)
theorem wrap:Tryz.f4.isWrapper Tryz.prog Rows.fnExactSplitWordRow.wrapper Rows.fnExactSplitWordRow.mainSum:=by unfold Func.isWrapper;rw [if_neg (by decide +kernel)];exact⟨rfl,rfl⟩
end Go.Proofs.YtkdilmleinnfiaaGreatDoor.FnExactSplitWord
