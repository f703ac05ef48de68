/-
  The facts of the row FnFaultBetween that Lean reckons, each by itself; all together.
-/
import Derived.Test.YtdipaikojjjebaaGreatDoorPart16
import Derived.Test.YtdipaikojjjebaaGreatDoorPart4
import Derived.Test.YtdipaikojjjebaaGreatDoorPart2
import Derived.Test.YtdipaikojjjebaaGreatDoorPart3
set_option linter.all false
namespace Go.Proofs.YtdipaikojjjebaaGreatDoor.FnFaultBetween
open Go Go.Am Go.ChangeShapes Go.WideShapes Go.ChangeAt Go.RowKit
theorem qH:((Rows.fnFaultBetweenRow.inPlace == Tryz.prog.inPlace 7))=true:=by kernel_rfl
theorem qI:((Rows.fnFaultBetweenRow.unfollowed == Tryz.prog.unfollowed 7))=true:=by kernel_rfl
theorem qJ:((Rows.fnFaultBetweenRow.recurses == Tryz.prog.recurses 7))=true:=by kernel_rfl
theorem qK:((Rows.fnFaultBetweenRow.named == Tryz.prog.varsNamed 7))=true:=by kernel_rfl
theorem wf:Rows.fnFaultBetweenRow.wfByText (OpenSpec.ofChange Rows.fnFaultBetweenSpec)=true:=by kernel_rfl
theorem named:Tryz.prog.funcNamed Rows.fnFaultBetweenRow.func=some 7:=by kernel_rfl
theorem inst:Tryz.f7.isInstance Tryz.prog Rows.fnFaultBetweenRow.origin Rows.fnFaultBetweenRow.targs:=of_decide_eq_true (by kernel_rfl)
theorem wrap:Tryz.f7.isWrapper Tryz.prog Rows.fnFaultBetweenRow.wrapper Rows.fnFaultBetweenRow.mainSum:=by unfold Func.isWrapper;rw[if_neg (by decide +kernel)];exact⟨rfl,rfl⟩
end Go.Proofs.YtdipaikojjjebaaGreatDoor.FnFaultBetween
