/-
  The facts of the row FnVerifySafety that Lean reckons, each by itself; all together.
-/
import Derived.Test.YtdipaikojjjebaaGreatDoorPart15
import Derived.Test.YtdipaikojjjebaaGreatDoorPart5
import Derived.Test.YtdipaikojjjebaaGreatDoorPart3
import Derived.Test.YtdipaikojjjebaaGreatDoorPart4
set_option linter.all false
namespace Go.Proofs.YtdipaikojjjebaaGreatDoor.FnVerifySafety
open Go Go.Am Go.ChangeShapes Go.WideShapes Go.ChangeAt Go.RowKit
theorem k10:((Rows.fnVerifySafetyRow.inPlace == Tryz.prog.inPlace 3))=true:=by kernel_rfl
theorem k11:((Rows.fnVerifySafetyRow.unfollowed == Tryz.prog.unfollowed 3))=true:=by kernel_rfl
theorem k12:((Rows.fnVerifySafetyRow.recurses == Tryz.prog.recurses 3))=true:=by kernel_rfl
theorem k13:((Rows.fnVerifySafetyRow.named == Tryz.prog.varsNamed 3))=true:=by kernel_rfl
theorem wf:Rows.fnVerifySafetyRow.wfByText (OpenSpec.ofChange Rows.fnVerifySafetySpec)=true:=by kernel_rfl
theorem named:Tryz.prog.funcNamed Rows.fnVerifySafetyRow.func=some 3:=by kernel_rfl
theorem inst:Tryz.f3.isInstance Tryz.prog Rows.fnVerifySafetyRow.origin Rows.fnVerifySafetyRow.targs:=of_decide_eq_true (by kernel_rfl)
theorem wrap:Tryz.f3.isWrapper Tryz.prog Rows.fnVerifySafetyRow.wrapper Rows.fnVerifySafetyRow.mainSum:=by unfold Func.isWrapper;rw[if_neg (by decide +kernel)];exact⟨rfl,rfl⟩
end Go.Proofs.YtdipaikojjjebaaGreatDoor.FnVerifySafety
