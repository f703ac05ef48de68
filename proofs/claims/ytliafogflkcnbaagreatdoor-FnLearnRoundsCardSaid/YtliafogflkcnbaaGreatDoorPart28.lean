/-
  The facts of the row FnLearnRounds that Lean reckons, each by itself; all together.
-/
import Derived.Test.YtliafogflkcnbaaGreatDoorPart27
import Derived.Test.YtliafogflkcnbaaGreatDoorPart9
import Derived.Test.YtliafogflkcnbaaGreatDoorPart22
import Derived.Test.YtliafogflkcnbaaGreatDoorPart23
import Derived.Test.YtliafogflkcnbaaGreatDoorPart24
import Derived.Test.YtliafogflkcnbaaGreatDoorPart25
set_option linter.constructorNameAsVariable false
set_option linter.unusedSectionVars false
set_option linter.unusedSimpArgs false
set_option linter.unusedVariables false
namespace Go.Proofs.YtliafogflkcnbaaGreatDoor.FnLearnRounds
open Go Go.Am Go.ChangeShapes Go.WideShapes Go.ChangeAt Go.RowKit
theorem eK:((Rows.fnLearnRoundsRow.inPlace == Tryz.prog.inPlace 13))=true:=by kernel_rfl
theorem eL:((Rows.fnLearnRoundsRow.unfollowed == Tryz.prog.unfollowed 13))=true:=by kernel_rfl
theorem eM:((Rows.fnLearnRoundsRow.recurses == Tryz.prog.recurses 13))=true:=by kernel_rfl
theorem eO:((Rows.fnLearnRoundsRow.named == Tryz.prog.varsNamed 13))=true:=by kernel_rfl
theorem wf:Rows.fnLearnRoundsRow.wfByText (OpenSpec.ofChange Rows.fnLearnRoundsSpec)=true:=by kernel_rfl
theorem named:Tryz.prog.funcNamed Rows.fnLearnRoundsRow.func=some 13:=by kernel_rfl
theorem inst:Tryz.f13.isInstance Tryz.prog Rows.fnLearnRoundsRow.origin Rows.fnLearnRoundsRow.targs:=of_decide_eq_true (by kernel_rfl)
theorem wrap:Tryz.f13.isWrapper Tryz.prog Rows.fnLearnRoundsRow.wrapper Rows.fnLearnRoundsRow.mainSum:=by unfold Func.isWrapper;rw [if_neg (by decide +kernel)];exact⟨rfl,rfl⟩
end Go.Proofs.YtliafogflkcnbaaGreatDoor.FnLearnRounds
