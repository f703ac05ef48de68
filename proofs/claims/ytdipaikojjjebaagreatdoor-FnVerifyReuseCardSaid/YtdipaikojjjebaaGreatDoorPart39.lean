/-
  The facts of the row FnVerifyReuse that Lean reckons, each by itself; all together.
-/
import Derived.Test.YtdipaikojjjebaaGreatDoorPart16
import Derived.Test.YtdipaikojjjebaaGreatDoorPart5
import Derived.Test.YtdipaikojjjebaaGreatDoorPart3
import Derived.Test.YtdipaikojjjebaaGreatDoorPart4
set_option linter.all false
namespace Go.Proofs.YtdipaikojjjebaaGreatDoor.FnVerifyReuse
open Go Go.Am Go.ChangeShapes Go.WideShapes Go.ChangeAt Go.RowKit
theorem k10:((Rows.fnVerifyReuseRow.inPlace == Tryz.prog.inPlace 5))=true:=by kernel_rfl
theorem k11:((Rows.fnVerifyReuseRow.unfollowed == Tryz.prog.unfollowed 5))=true:=by kernel_rfl
theorem k12:((Rows.fnVerifyReuseRow.recurses == Tryz.prog.recurses 5))=true:=by kernel_rfl
theorem k13:((Rows.fnVerifyReuseRow.named == Tryz.prog.varsNamed 5))=true:=by kernel_rfl
theorem wf:Rows.fnVerifyReuseRow.wfByText (OpenSpec.ofChange Rows.fnVerifyReuseSpec)=true:=by kernel_rfl
theorem named:Tryz.prog.funcNamed Rows.fnVerifyReuseRow.func=some 5:=by kernel_rfl
theorem inst:Tryz.f5.isInstance Tryz.prog Rows.fnVerifyReuseRow.origin Rows.fnVerifyReuseRow.targs:=of_decide_eq_true (by kernel_rfl)
theorem wrap:Tryz.f5.isWrapper Tryz.prog Rows.fnVerifyReuseRow.wrapper Rows.fnVerifyReuseRow.mainSum:=by unfold Func.isWrapper;rw[if_neg (by decide +kernel)];exact⟨rfl,rfl⟩
end Go.Proofs.YtdipaikojjjebaaGreatDoor.FnVerifyReuse
