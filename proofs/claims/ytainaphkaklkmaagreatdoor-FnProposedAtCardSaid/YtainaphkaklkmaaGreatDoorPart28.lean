/-
  The facts of the row FnProposedAt that Lean reckons, each by itself; all together.
-/
import Derived.Test.YtainaphkaklkmaaGreatDoorPart27
import Derived.Test.YtainaphkaklkmaaGreatDoorPart8
import Derived.Test.YtainaphkaklkmaaGreatDoorPart22
import Derived.Test.YtainaphkaklkmaaGreatDoorPart23
import Derived.Test.YtainaphkaklkmaaGreatDoorPart24
import Derived.Test.YtainaphkaklkmaaGreatDoorPart25
set_option linter.constructorNameAsVariable false
set_option linter.unusedSimpArgs false
set_option linter.unusedVariables false
namespace Go.Proofs.YtainaphkaklkmaaGreatDoor.FnProposedAt
open Go Go.Am Go.ChangeShapes Go.WideShapes Go.ChangeAt Go.RowKit
theorem k10:((Rows.fnProposedAtRow.inPlace == Tryz.prog.inPlace 6))=true:=by kernel_rfl
theorem k11:((Rows.fnProposedAtRow.unfollowed == Tryz.prog.unfollowed 6))=true:=by kernel_rfl
theorem k12:((Rows.fnProposedAtRow.recurses == Tryz.prog.recurses 6))=true:=by kernel_rfl
theorem k13:((Rows.fnProposedAtRow.named == Tryz.prog.varsNamed 6))=true:=by kernel_rfl
theorem wf:Rows.fnProposedAtRow.wfByText (OpenSpec.ofChange Rows.fnProposedAtSpec)=true:=by kernel_rfl
theorem named:Tryz.prog.funcNamed Rows.fnProposedAtRow.func=some 6:=by kernel_rfl
theorem inst:Tryz.f6.isInstance Tryz.prog Rows.fnProposedAtRow.origin Rows.fnProposedAtRow.targs:=of_decide_eq_true (by kernel_rfl)
theorem wrap:Tryz.f6.isWrapper Tryz.prog Rows.fnProposedAtRow.wrapper Rows.fnProposedAtRow.mainSum:=by unfold Func.isWrapper;rw [if_neg (by decide +kernel)];exact ⟨rfl,rfl⟩
end Go.Proofs.YtainaphkaklkmaaGreatDoor.FnProposedAt
