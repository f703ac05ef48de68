/-
  The facts of the row FnVerifyTurned that Lean reckons, each by itself; all together.
-/
import Derived.Test.YtohfiindiidcfaaGreatDoorPart15
import Derived.Test.YtohfiindiidcfaaGreatDoorPart5
import Derived.Test.YtohfiindiidcfaaGreatDoorPart3
import Derived.Test.YtohfiindiidcfaaGreatDoorPart4
set_option linter.all false
namespace Go.Proofs.YtohfiindiidcfaaGreatDoor.FnVerifyTurned
open Go Go.Am Go.ChangeShapes Go.WideShapes Go.ChangeAt Go.RowKit
theorem k10:((Rows.fnVerifyTurnedRow.inPlace == Tryz.prog.inPlace 5))=true:=by kernel_rfl
theorem k11:((Rows.fnVerifyTurnedRow.unfollowed == Tryz.prog.unfollowed 5))=true:=by kernel_rfl
theorem k12:((Rows.fnVerifyTurnedRow.recurses == Tryz.prog.recurses 5))=true:=by kernel_rfl
theorem k13:((Rows.fnVerifyTurnedRow.named == Tryz.prog.varsNamed 5))=true:=by kernel_rfl
theorem wf:Rows.fnVerifyTurnedRow.wfByText (OpenSpec.ofChange Rows.fnVerifyTurnedSpec)=true:=by kernel_rfl
theorem named:Tryz.prog.funcNamed Rows.fnVerifyTurnedRow.func=some 5:=by kernel_rfl
theorem inst:Tryz.f5.isInstance Tryz.prog Rows.fnVerifyTurnedRow.origin Rows.fnVerifyTurnedRow.targs:=of_decide_eq_true (by kernel_rfl)
theorem wrap:Tryz.f5.isWrapper Tryz.prog Rows.fnVerifyTurnedRow.wrapper Rows.fnVerifyTurnedRow.mainSum:=by unfold Func.isWrapper;rw [if_neg (by decide +kernel)];exact⟨rfl,rfl⟩
end Go.Proofs.YtohfiindiidcfaaGreatDoor.FnVerifyTurned
