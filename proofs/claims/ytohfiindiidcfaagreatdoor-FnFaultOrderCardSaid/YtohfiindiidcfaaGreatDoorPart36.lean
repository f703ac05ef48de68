/-
  The facts of the row FnFaultOrder that Lean reckons, each by itself; all together.
-/
import Derived.Test.YtohfiindiidcfaaGreatDoorPart15
import Derived.Test.YtohfiindiidcfaaGreatDoorPart5
import Derived.Test.YtohfiindiidcfaaGreatDoorPart3
import Derived.Test.YtohfiindiidcfaaGreatDoorPart4
set_option linter.all false
namespace Go.Proofs.YtohfiindiidcfaaGreatDoor.FnFaultOrder
open Go Go.Am Go.ChangeShapes Go.WideShapes Go.ChangeAt Go.RowKit
theorem k10:((Rows.fnFaultOrderRow.inPlace == Tryz.prog.inPlace 9))=true:=by kernel_rfl
theorem k11:((Rows.fnFaultOrderRow.unfollowed == Tryz.prog.unfollowed 9))=true:=by kernel_rfl
theorem k12:((Rows.fnFaultOrderRow.recurses == Tryz.prog.recurses 9))=true:=by kernel_rfl
theorem k13:((Rows.fnFaultOrderRow.named == Tryz.prog.varsNamed 9))=true:=by kernel_rfl
theorem wf:Rows.fnFaultOrderRow.wfByText (OpenSpec.ofChange Rows.fnFaultOrderSpec)=true:=by kernel_rfl
theorem named:Tryz.prog.funcNamed Rows.fnFaultOrderRow.func=some 9:=by kernel_rfl
theorem inst:Tryz.f9.isInstance Tryz.prog Rows.fnFaultOrderRow.origin Rows.fnFaultOrderRow.targs:=of_decide_eq_true (by kernel_rfl)
theorem wrap:Tryz.f9.isWrapper Tryz.prog Rows.fnFaultOrderRow.wrapper Rows.fnFaultOrderRow.mainSum:=by unfold Func.isWrapper;rw [if_neg (by decide +kernel)];exact⟨rfl,rfl⟩
end Go.Proofs.YtohfiindiidcfaaGreatDoor.FnFaultOrder
