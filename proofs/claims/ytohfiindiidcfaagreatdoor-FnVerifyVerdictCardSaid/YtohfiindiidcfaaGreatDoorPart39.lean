/-
  The facts of the row FnVerifyVerdict that Lean reckons, each by itself; all together.
-/
import Derived.Test.YtohfiindiidcfaaGreatDoorPart15
import Derived.Test.YtohfiindiidcfaaGreatDoorPart5
import Derived.Test.YtohfiindiidcfaaGreatDoorPart3
import Derived.Test.YtohfiindiidcfaaGreatDoorPart4
set_option linter.all false
namespace Go.Proofs.YtohfiindiidcfaaGreatDoor.FnVerifyVerdict
open Go Go.Am Go.ChangeShapes Go.WideShapes Go.ChangeAt Go.RowKit
theorem k10:((Rows.fnVerifyVerdictRow.inPlace == Tryz.prog.inPlace 3))=true:=by kernel_rfl
theorem k11:((Rows.fnVerifyVerdictRow.unfollowed == Tryz.prog.unfollowed 3))=true:=by kernel_rfl
theorem k12:((Rows.fnVerifyVerdictRow.recurses == Tryz.prog.recurses 3))=true:=by kernel_rfl
theorem k13:((Rows.fnVerifyVerdictRow.named == Tryz.prog.varsNamed 3))=true:=by kernel_rfl
theorem wf:Rows.fnVerifyVerdictRow.wfByText (OpenSpec.ofChange Rows.fnVerifyVerdictSpec)=true:=by kernel_rfl
theorem named:Tryz.prog.funcNamed Rows.fnVerifyVerdictRow.func=some 3:=by kernel_rfl
theorem inst:Tryz.f3.isInstance Tryz.prog Rows.fnVerifyVerdictRow.origin Rows.fnVerifyVerdictRow.targs:=of_decide_eq_true (by kernel_rfl)
theorem wrap:Tryz.f3.isWrapper Tryz.prog Rows.fnVerifyVerdictRow.wrapper Rows.fnVerifyVerdictRow.mainSum:=by unfold Func.isWrapper;rw [if_neg (by decide +kernel)];exact⟨rfl,rfl⟩
end Go.Proofs.YtohfiindiidcfaaGreatDoor.FnVerifyVerdict
