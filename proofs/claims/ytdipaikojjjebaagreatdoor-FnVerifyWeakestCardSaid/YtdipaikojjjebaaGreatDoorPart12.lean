/-
  The facts of the row FnVerifyWeakest that Lean reckons, each by itself; all together.
-/
import Derived.Test.YtdipaikojjjebaaGreatDoorPart11
import Derived.Test.YtdipaikojjjebaaGreatDoorPart4
import Derived.Test.YtdipaikojjjebaaGreatDoorPart2
import Derived.Test.YtdipaikojjjebaaGreatDoorPart3
set_option linter.all false
namespace Go.Proofs.YtdipaikojjjebaaGreatDoor.FnVerifyWeakest
open Go Go.Am Go.ChangeShapes Go.WideShapes Go.ChangeAt Go.RowKit
theorem tU:((Rows.fnVerifyWeakestRow.inPlace == Tryz.prog.inPlace 8))=true:=by kernel_rfl
theorem tV:((Rows.fnVerifyWeakestRow.unfollowed == Tryz.prog.unfollowed 8))=true:=by kernel_rfl
theorem tW:((Rows.fnVerifyWeakestRow.recurses == Tryz.prog.recurses 8))=true:=by kernel_rfl
theorem tY:((Rows.fnVerifyWeakestRow.named == Tryz.prog.varsNamed 8))=true:=by kernel_rfl
theorem wf:Rows.fnVerifyWeakestRow.wfByText (OpenSpec.ofChange Rows.fnVerifyWeakestSpec)=true:=by kernel_rfl
theorem named:Tryz.prog.funcNamed Rows.fnVerifyWeakestRow.func=some 8:=by kernel_rfl
theorem inst:Tryz.f8.isInstance Tryz.prog Rows.fnVerifyWeakestRow.origin Rows.fnVerifyWeakestRow.targs:=of_decide_eq_true (by kernel_rfl)
theorem wrap:Tryz.f8.isWrapper Tryz.prog Rows.fnVerifyWeakestRow.wrapper Rows.fnVerifyWeakestRow.mainSum:=by unfold Func.isWrapper;rw[if_neg (by decide +kernel)];exact⟨rfl,rfl⟩
end Go.Proofs.YtdipaikojjjebaaGreatDoor.FnVerifyWeakest
