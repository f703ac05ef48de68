/-
  The facts of the row FnVerifyReplace that Lean reckons, each by itself; all together.
-/
import Derived.Test.YtdipaikojjjebaaGreatDoorPart16
import Derived.Test.YtdipaikojjjebaaGreatDoorPart5
import Derived.Test.YtdipaikojjjebaaGreatDoorPart3
import Derived.Test.YtdipaikojjjebaaGreatDoorPart4
set_option linter.all false
namespace Go.Proofs.YtdipaikojjjebaaGreatDoor.FnVerifyReplace
open Go Go.Am Go.ChangeShapes Go.WideShapes Go.ChangeAt Go.RowKit
theorem k10:((Rows.fnVerifyReplaceRow.inPlace == Tryz.prog.inPlace 4))=true:=by kernel_rfl
theorem k11:((Rows.fnVerifyReplaceRow.unfollowed == Tryz.prog.unfollowed 4))=true:=by kernel_rfl
theorem k12:((Rows.fnVerifyReplaceRow.recurses == Tryz.prog.recurses 4))=true:=by kernel_rfl
theorem k13:((Rows.fnVerifyReplaceRow.named == Tryz.prog.varsNamed 4))=true:=by kernel_rfl
theorem wf:Rows.fnVerifyReplaceRow.wfByText (OpenSpec.ofChange Rows.fnVerifyReplaceSpec)=true:=by kernel_rfl
theorem named:Tryz.prog.funcNamed Rows.fnVerifyReplaceRow.func=some 4:=by kernel_rfl
theorem inst:Tryz.f4.isInstance Tryz.prog Rows.fnVerifyReplaceRow.origin Rows.fnVerifyReplaceRow.targs:=of_decide_eq_true (by kernel_rfl)
theorem wrap:Tryz.f4.isWrapper Tryz.prog Rows.fnVerifyReplaceRow.wrapper Rows.fnVerifyReplaceRow.mainSum:=by unfold Func.isWrapper;rw[if_neg (by decide +kernel)];exact⟨rfl,rfl⟩
end Go.Proofs.YtdipaikojjjebaaGreatDoor.FnVerifyReplace
