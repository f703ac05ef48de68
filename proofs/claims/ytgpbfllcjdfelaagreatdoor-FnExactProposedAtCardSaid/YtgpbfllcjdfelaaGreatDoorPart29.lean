/-
  The facts of the row FnExactProposedAt that Lean reckons, each by itself; all together.
-/
import Derived.Test.YtgpbfllcjdfelaaGreatDoorPart15
import Derived.Test.YtgpbfllcjdfelaaGreatDoorPart5
import Derived.Test.YtgpbfllcjdfelaaGreatDoorPart3
import Derived.Test.YtgpbfllcjdfelaaGreatDoorPart4
set_option linter.all false
namespace Go.Proofs.YtgpbfllcjdfelaaGreatDoor.FnExactProposedAt
open Go Go.Am Go.ChangeShapes Go.WideShapes Go.ChangeAt Go.RowKit
theorem k10:((Rows.fnExactProposedAtRow.inPlace == Tryz.prog.inPlace 7))=true:=by kernel_rfl
theorem k11:((Rows.fnExactProposedAtRow.unfollowed == Tryz.prog.unfollowed 7))=true:=by kernel_rfl
theorem k12:((Rows.fnExactProposedAtRow.recurses == Tryz.prog.recurses 7))=true:=by kernel_rfl
theorem k13:((Rows.fnExactProposedAtRow.named == Tryz.prog.varsNamed 7))=true:=by kernel_rfl
theorem wf:Rows.fnExactProposedAtRow.wfByText (OpenSpec.ofChange Rows.fnExactProposedAtSpec)=true:=by kernel_rfl
theorem named:Tryz.prog.funcNamed Rows.fnExactProposedAtRow.func=some 7:=by kernel_rfl
theorem inst:Tryz.f7.isInstance Tryz.prog Rows.fnExactProposedAtRow.origin Rows.fnExactProposedAtRow.targs:=of_decide_eq_true (by kernel_rfl)
theorem wrap:Tryz.f7.isWrapper Tryz.prog Rows.fnExactProposedAtRow.wrapper Rows.fnExactProposedAtRow.mainSum:=by unfold Func.isWrapper;rw [if_neg (by decide +kernel)];exact⟨rfl,rfl⟩
end Go.Proofs.YtgpbfllcjdfelaaGreatDoor.FnExactProposedAt
