/-
  The facts of the row FnProposedGrow that Lean reckons, each by itself; all together.
-/
import Derived.Test.YtainaphkaklkmaaGreatDoorPart27
import Derived.Test.YtainaphkaklkmaaGreatDoorPart8
import Derived.Test.YtainaphkaklkmaaGreatDoorPart22
import Derived.Test.YtainaphkaklkmaaGreatDoorPart23
import Derived.Test.YtainaphkaklkmaaGreatDoorPart24
import Derived.Test.YtainaphkaklkmaaGreatDoorPart25
set_option linter.constructorNameAsVariable false
set_option linter.unusedSimpArgs false
set_option linter.unusedVariables false
namespace Go.Proofs.YtainaphkaklkmaaGreatDoor.FnProposedGrow
open Go Go.Am Go.ChangeShapes Go.WideShapes Go.ChangeAt Go.RowKit
theorem k10:((Rows.fnProposedGrowRow.inPlace == Tryz.prog.inPlace 5))=true:=by kernel_rfl
theorem k11:((Rows.fnProposedGrowRow.unfollowed == Tryz.prog.unfollowed 5))=true:=by kernel_rfl
theorem k12:((Rows.fnProposedGrowRow.recurses == Tryz.prog.recurses 5))=true:=by kernel_rfl
theorem k13:((Rows.fnProposedGrowRow.named == Tryz.prog.varsNamed 5))=true:=by kernel_rfl
theorem wf:Rows.fnProposedGrowRow.wfByText (OpenSpec.ofChange Rows.fnProposedGrowSpec)=true:=by kernel_rfl
theorem named:Tryz.prog.funcNamed Rows.fnProposedGrowRow.func=some 5:=by kernel_rfl
theorem inst:Tryz.f5.isInstance Tryz.prog Rows.fnProposedGrowRow.origin Rows.fnProposedGrowRow.targs:=of_decide_eq_true (by kernel_rfl)
theorem wrap:Tryz.f5.isWrapper Tryz.prog Rows.fnProposedGrowRow.wrapper Rows.fnProposedGrowRow.mainSum:=by unfold Func.isWrapper;rw [if_neg (by decide +kernel)];exact ⟨rfl,rfl⟩
end Go.Proofs.YtainaphkaklkmaaGreatDoor.FnProposedGrow
