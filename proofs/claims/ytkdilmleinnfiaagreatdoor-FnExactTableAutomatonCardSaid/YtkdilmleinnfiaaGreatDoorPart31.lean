/-
  The facts of the row FnExactTableAutomaton that Lean reckons, each by itself; all together.
-/
import Derived.Test.YtkdilmleinnfiaaGreatDoorPart30
import Derived.Test.YtkdilmleinnfiaaGreatDoorPart9
import Derived.Test.YtkdilmleinnfiaaGreatDoorPart23
import Derived.Test.YtkdilmleinnfiaaGreatDoorPart24
import Derived.Test.YtkdilmleinnfiaaGreatDoorPart25
import Derived.Test.YtkdilmleinnfiaaGreatDoorPart26
set_option linter.constructorNameAsVariable false
set_option linter.unusedSectionVars false
set_option linter.unusedSimpArgs false
set_option linter.unusedVariables false
namespace Go.Proofs.YtkdilmleinnfiaaGreatDoor.FnExactTableAutomaton
open Go Go.Am Go.ChangeShapes Go.WideShapes Go.ChangeAt Go.RowKit
theorem jF:((Rows.fnExactTableAutomatonRow.inPlace == Tryz.prog.inPlace 6))=true:=by kernel_rfl
theorem jG:((Rows.fnExactTableAutomatonRow.unfollowed == Tryz.prog.unfollowed 6))=true:=by kernel_rfl
theorem jH:((Rows.fnExactTableAutomatonRow.recurses == Tryz.prog.recurses 6))=true:=by kernel_rfl
theorem jI:((Rows.fnExactTableAutomatonRow.named == Tryz.prog.varsNamed 6))=true:=by kernel_rfl
theorem wf:Rows.fnExactTableAutomatonRow.wfByText (OpenSpec.ofChange Rows.fnExactTableAutomatonSpec)=true:=by kernel_rfl
theorem named:Tryz.prog.funcNamed Rows.fnExactTableAutomatonRow.func=some 6:=by kernel_rfl
theorem inst:Tryz.f6.isInstance Tryz.prog Rows.fnExactTableAutomatonRow.origin Rows.fnExactTableAutomatonRow.targs:=of_decide_eq_true (by kernel_rfl)
theorem wrap:Tryz.f6.isWrapper Tryz.prog Rows.fnExactTableAutomatonRow.wrapper Rows.fnExactTableAutomatonRow.mainSum:=by unfold Func.isWrapper;rw [if_neg (by decide +kernel)];exact⟨rfl,rfl⟩
end Go.Proofs.YtkdilmleinnfiaaGreatDoor.FnExactTableAutomaton
