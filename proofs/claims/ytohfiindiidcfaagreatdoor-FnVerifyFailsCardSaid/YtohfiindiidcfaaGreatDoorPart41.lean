/-
  The facts of the row FnVerifyFails that Lean reckons, each by itself; all together.
-/
import Derived.Test.YtohfiindiidcfaaGreatDoorPart15
import Derived.Test.YtohfiindiidcfaaGreatDoorPart5
import Derived.Test.YtohfiindiidcfaaGreatDoorPart3
import Derived.Test.YtohfiindiidcfaaGreatDoorPart4
set_option linter.all false
namespace Go.Proofs.YtohfiindiidcfaaGreatDoor.FnVerifyFails
open Go Go.Am Go.ChangeShapes Go.WideShapes Go.ChangeAt Go.RowKit
theorem k10:((Rows.fnVerifyFailsRow.inPlace == Tryz.prog.inPlace 11))=true:=by kernel_rfl
theorem k11:((Rows.fnVerifyFailsRow.unfollowed == Tryz.prog.unfollowed 11))=true:=by kernel_rfl
theorem k12:((Rows.fnVerifyFailsRow.recurses == Tryz.prog.recurses 11))=true:=by kernel_rfl
theorem k13:((Rows.fnVerifyFailsRow.named == Tryz.prog.varsNamed 11))=true:=by kernel_rfl
theorem wf:Rows.fnVerifyFailsRow.wfByText (OpenSpec.ofChange Rows.fnVerifyFailsSpec)=true:=by kernel_rfl
theorem named:Tryz.prog.funcNamed Rows.fnVerifyFailsRow.func=some 11:=by kernel_rfl
theorem inst:Tryz.f11.isInstance Tryz.prog Rows.fnVerifyFailsRow.origin Rows.fnVerifyFailsRow.targs:=of_decide_eq_true (by kernel_rfl)
theorem wrap:Tryz.f11.isWrapper Tryz.prog Rows.fnVerifyFailsRow.wrapper Rows.fnVerifyFailsRow.mainSum:=by unfold Func.isWrapper;rw [if_neg (by decide +kernel)];exact⟨rfl,rfl⟩
end Go.Proofs.YtohfiindiidcfaaGreatDoor.FnVerifyFails
