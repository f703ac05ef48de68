/-
  The facts of the row FnVerifyAlone that Lean reckons, each by itself; all together.
-/
import Derived.Test.YtohfiindiidcfaaGreatDoorPart15
import Derived.Test.YtohfiindiidcfaaGreatDoorPart5
import Derived.Test.YtohfiindiidcfaaGreatDoorPart3
import Derived.Test.YtohfiindiidcfaaGreatDoorPart4
set_option linter.all false
namespace Go.Proofs.YtohfiindiidcfaaGreatDoor.FnVerifyAlone
open Go Go.Am Go.ChangeShapes Go.WideShapes Go.ChangeAt Go.RowKit
theorem k10:((Rows.fnVerifyAloneRow.inPlace == Tryz.prog.inPlace 6))=true:=by kernel_rfl
theorem k11:((Rows.fnVerifyAloneRow.unfollowed == Tryz.prog.unfollowed 6))=true:=by kernel_rfl
theorem k12:((Rows.fnVerifyAloneRow.recurses == Tryz.prog.recurses 6))=true:=by kernel_rfl
theorem k13:((Rows.fnVerifyAloneRow.named == Tryz.prog.varsNamed 6))=true:=by kernel_rfl
theorem wf:Rows.fnVerifyAloneRow.wfByText (OpenSpec.ofChange Rows.fnVerifyAloneSpec)=true:=by kernel_rfl
theorem named:Tryz.prog.funcNamed Rows.fnVerifyAloneRow.func=some 6:=by kernel_rfl
theorem inst:Tryz.f6.isInstance Tryz.prog Rows.fnVerifyAloneRow.origin Rows.fnVerifyAloneRow.targs:=of_decide_eq_true (by kernel_rfl)
theorem wrap:Tryz.f6.isWrapper Tryz.prog Rows.fnVerifyAloneRow.wrapper Rows.fnVerifyAloneRow.mainSum:=by unfold Func.isWrapper;rw [if_neg (by decide +kernel)];exact⟨rfl,rfl⟩
end Go.Proofs.YtohfiindiidcfaaGreatDoor.FnVerifyAlone
