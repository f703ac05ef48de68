/-
  The facts of the row FnProposedEmpty that Lean reckons, each by itself; all together.
-/
import Derived.Test.YtainaphkaklkmaaGreatDoorPart27
import Derived.Test.YtainaphkaklkmaaGreatDoorPart8
import Derived.Test.YtainaphkaklkmaaGreatDoorPart22
import Derived.Test.YtainaphkaklkmaaGreatDoorPart23
import Derived.Test.YtainaphkaklkmaaGreatDoorPart24
import Derived.Test.YtainaphkaklkmaaGreatDoorPart25
set_option linter.constructorNameAsVariable false
set_option linter.unusedSimpArgs false
set_option linter.unusedVariables false
namespace Go.Proofs.YtainaphkaklkmaaGreatDoor.FnProposedEmpty
open Go Go.Am Go.ChangeShapes Go.WideShapes Go.ChangeAt Go.RowKit
theorem k10:((Rows.fnProposedEmptyRow.inPlace == Tryz.prog.inPlace 7))=true:=by kernel_rfl
theorem k11:((Rows.fnProposedEmptyRow.unfollowed == Tryz.prog.unfollowed 7))=true:=by kernel_rfl
theorem k12:((Rows.fnProposedEmptyRow.recurses == Tryz.prog.recurses 7))=true:=by kernel_rfl
theorem k13:((Rows.fnProposedEmptyRow.named == Tryz.prog.varsNamed 7))=true:=by kernel_rfl
theorem wf:Rows.fnProposedEmptyRow.wfByText (OpenSpec.ofChange Rows.fnProposedEmptySpec)=true:=by kernel_rfl
theorem named:Tryz.prog.funcNamed Rows.fnProposedEmptyRow.func=some 7:=by kernel_rfl
theorem inst:Tryz.f7.isInstance Tryz.prog Rows.fnProposedEmptyRow.origin Rows.fnProposedEmptyRow.targs:=of_decide_eq_true (by kernel_rfl)
theorem wrap:Tryz.f7.isWrapper Tryz.prog Rows.fnProposedEmptyRow.wrapper Rows.fnProposedEmptyRow.mainSum:=by unfold Func.isWrapper;rw [if_neg (by decide +kernel)];exact ⟨rfl,rfl⟩
end Go.Proofs.YtainaphkaklkmaaGreatDoor.FnProposedEmpty
