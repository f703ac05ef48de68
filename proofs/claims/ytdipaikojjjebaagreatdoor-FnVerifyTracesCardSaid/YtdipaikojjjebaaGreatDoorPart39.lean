/-
  The facts of the row FnVerifyTraces that Lean reckons, each by itself; all together.
-/
import Derived.Test.YtdipaikojjjebaaGreatDoorPart16
import Derived.Test.YtdipaikojjjebaaGreatDoorPart5
import Derived.Test.YtdipaikojjjebaaGreatDoorPart3
import Derived.Test.YtdipaikojjjebaaGreatDoorPart4
set_option linter.all false
namespace Go.Proofs.YtdipaikojjjebaaGreatDoor.FnVerifyTraces
open Go Go.Am Go.ChangeShapes Go.WideShapes Go.ChangeAt Go.RowKit
theorem k10:((Rows.fnVerifyTracesRow.inPlace == Tryz.prog.inPlace 6))=true:=by kernel_rfl
theorem k11:((Rows.fnVerifyTracesRow.unfollowed == Tryz.prog.unfollowed 6))=true:=by kernel_rfl
theorem k12:((Rows.fnVerifyTracesRow.recurses == Tryz.prog.recurses 6))=true:=by kernel_rfl
theorem k13:((Rows.fnVerifyTracesRow.named == Tryz.prog.varsNamed 6))=true:=by kernel_rfl
theorem wf:Rows.fnVerifyTracesRow.wfByText (OpenSpec.ofChange Rows.fnVerifyTracesSpec)=true:=by kernel_rfl
theorem named:Tryz.prog.funcNamed Rows.fnVerifyTracesRow.func=some 6:=by kernel_rfl
theorem inst:Tryz.f6.isInstance Tryz.prog Rows.fnVerifyTracesRow.origin Rows.fnVerifyTracesRow.targs:=of_decide_eq_true (by kernel_rfl)
theorem wrap:Tryz.f6.isWrapper Tryz.prog Rows.fnVerifyTracesRow.wrapper Rows.fnVerifyTracesRow.mainSum:=by unfold Func.isWrapper;rw[if_neg (by decide +kernel)];exact⟨rfl,rfl⟩
end Go.Proofs.YtdipaikojjjebaaGreatDoor.FnVerifyTraces
