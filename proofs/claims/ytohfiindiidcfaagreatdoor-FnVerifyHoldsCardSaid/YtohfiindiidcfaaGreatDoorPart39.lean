/-
  The facts of the row FnVerifyHolds that Lean reckons, each by itself; all together.
-/
import Derived.Test.YtohfiindiidcfaaGreatDoorPart15
import Derived.Test.YtohfiindiidcfaaGreatDoorPart5
import Derived.Test.YtohfiindiidcfaaGreatDoorPart3
import Derived.Test.YtohfiindiidcfaaGreatDoorPart4
set_option linter.all false
namespace Go.Proofs.YtohfiindiidcfaaGreatDoor.FnVerifyHolds
open Go Go.Am Go.ChangeShapes Go.WideShapes Go.ChangeAt Go.RowKit
theorem k10:((Rows.fnVerifyHoldsRow.inPlace == Tryz.prog.inPlace 4))=true:=by kernel_rfl
theorem k11:((Rows.fnVerifyHoldsRow.unfollowed == Tryz.prog.unfollowed 4))=true:=by kernel_rfl
theorem k12:((Rows.fnVerifyHoldsRow.recurses == Tryz.prog.recurses 4))=true:=by kernel_rfl
theorem k13:((Rows.fnVerifyHoldsRow.named == Tryz.prog.varsNamed 4))=true:=by kernel_rfl
theorem wf:Rows.fnVerifyHoldsRow.wfByText (OpenSpec.ofChange Rows.fnVerifyHoldsSpec)=true:=by kernel_rfl
theorem named:Tryz.prog.funcNamed Rows.fnVerifyHoldsRow.func=some 4:=by kernel_rfl
theorem inst:Tryz.f4.isInstance Tryz.prog Rows.fnVerifyHoldsRow.origin Rows.fnVerifyHoldsRow.targs:=of_decide_eq_true (by kernel_rfl)
theorem wrap:Tryz.f4.isWrapper Tryz.prog Rows.fnVerifyHoldsRow.wrapper Rows.fnVerifyHoldsRow.mainSum:=by unfold Func.isWrapper;rw [if_neg (by decide +kernel)];exact⟨rfl,rfl⟩
end Go.Proofs.YtohfiindiidcfaaGreatDoor.FnVerifyHolds
