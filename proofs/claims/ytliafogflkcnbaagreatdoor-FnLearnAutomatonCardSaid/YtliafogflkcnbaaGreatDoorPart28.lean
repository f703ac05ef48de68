/-
  The facts of the row FnLearnAutomaton that Lean reckons, each by itself; all together.
-/
import Derived.Test.YtliafogflkcnbaaGreatDoorPart27
import Derived.Test.YtliafogflkcnbaaGreatDoorPart9
import Derived.Test.YtliafogflkcnbaaGreatDoorPart22
import Derived.Test.YtliafogflkcnbaaGreatDoorPart23
import Derived.Test.YtliafogflkcnbaaGreatDoorPart24
import Derived.Test.YtliafogflkcnbaaGreatDoorPart25
set_option linter.constructorNameAsVariable false
set_option linter.unusedSectionVars false
set_option linter.unusedSimpArgs false
set_option linter.unusedVariables false
namespace Go.Proofs.YtliafogflkcnbaaGreatDoor.FnLearnAutomaton
open Go Go.Am Go.ChangeShapes Go.WideShapes Go.ChangeAt Go.RowKit
theorem eJ:((Rows.fnLearnAutomatonRow.inPlace == Tryz.prog.inPlace 14))=true:=by kernel_rfl
theorem eK:((Rows.fnLearnAutomatonRow.unfollowed == Tryz.prog.unfollowed 14))=true:=by kernel_rfl
theorem eL:((Rows.fnLearnAutomatonRow.recurses == Tryz.prog.recurses 14))=true:=by kernel_rfl
theorem eM:((Rows.fnLearnAutomatonRow.named == Tryz.prog.varsNamed 14))=true:=by kernel_rfl
theorem wf:Rows.fnLearnAutomatonRow.wfByText (OpenSpec.ofChange Rows.fnLearnAutomatonSpec)=true:=by kernel_rfl
theorem named:Tryz.prog.funcNamed Rows.fnLearnAutomatonRow.func=some 14:=by kernel_rfl
theorem inst:Tryz.f14.isInstance Tryz.prog Rows.fnLearnAutomatonRow.origin Rows.fnLearnAutomatonRow.targs:=of_decide_eq_true (by kernel_rfl)
theorem wrap:Tryz.f14.isWrapper Tryz.prog Rows.fnLearnAutomatonRow.wrapper Rows.fnLearnAutomatonRow.mainSum:=by unfold Func.isWrapper;rw [if_neg (by decide +kernel)];exact⟨rfl,rfl⟩
end Go.Proofs.YtliafogflkcnbaaGreatDoor.FnLearnAutomaton
