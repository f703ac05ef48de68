/-
  The facts of the row FnProposedLast that Lean reckons, each by itself; all together.
-/
import Derived.Test.YtainaphkaklkmaaGreatDoorPart8
import Derived.Test.YtainaphkaklkmaaGreatDoorPart23
import Derived.Test.YtainaphkaklkmaaGreatDoorPart24
import Derived.Test.YtainaphkaklkmaaGreatDoorPart25
import Derived.Test.YtainaphkaklkmaaGreatDoorPart26
set_option linter.constructorNameAsVariable false
set_option linter.unusedSimpArgs false
set_option linter.unusedVariables false
namespace Go.Proofs.YtainaphkaklkmaaGreatDoor.FnProposedLast
open Go Go.Am Go.ChangeShapes Go.WideShapes Go.ChangeAt Go.RowKit
theorem k10:((Rows.fnProposedLastRow.inPlace == Tryz.prog.inPlace 9))=true:=by kernel_rfl
theorem k11:((Rows.fnProposedLastRow.unfollowed == Tryz.prog.unfollowed 9))=true:=by kernel_rfl
theorem k12:((Rows.fnProposedLastRow.recurses == Tryz.prog.recurses 9))=true:=by kernel_rfl
theorem k13:((Rows.fnProposedLastRow.named == Tryz.prog.varsNamed 9))=true:=by kernel_rfl
theorem wf:Rows.fnProposedLastRow.wfByText (OpenSpec.ofChange Rows.fnProposedLastSpec)=true:=by kernel_rfl
theorem named:Tryz.prog.funcNamed Rows.fnProposedLastRow.func=some 9:=by kernel_rfl
theorem inst:Tryz.f9.isInstance Tryz.prog Rows.fnProposedLastRow.origin Rows.fnProposedLastRow.targs:=of_decide_eq_true (by kernel_rfl)
theorem wrap:Tryz.f9.isWrapper Tryz.prog Rows.fnProposedLastRow.wrapper Rows.fnProposedLastRow.mainSum:=by unfold Func.isWrapper;rw [if_neg (by decide +kernel)];exact ⟨rfl,rfl⟩
end Go.Proofs.YtainaphkaklkmaaGreatDoor.FnProposedLast
