/-
  The facts of the row FnCloseWeakest that Lean reckons, each by itself; all together.
-/
import Derived.Test.YtgpbfllcjdfelaaGreatDoorPart16
import Derived.Test.YtgpbfllcjdfelaaGreatDoorPart5
import Derived.Test.YtgpbfllcjdfelaaGreatDoorPart3
import Derived.Test.YtgpbfllcjdfelaaGreatDoorPart4
set_option linter.all false
namespace Go.Proofs.YtgpbfllcjdfelaaGreatDoor.FnCloseWeakest
open Go Go.Am Go.ChangeShapes Go.WideShapes Go.ChangeAt Go.RowKit
theorem k10:((Rows.fnCloseWeakestRow.inPlace == Tryz.prog.inPlace 9))=true:=by kernel_rfl
theorem k11:((Rows.fnCloseWeakestRow.unfollowed == Tryz.prog.unfollowed 9))=true:=by kernel_rfl
theorem k12:((Rows.fnCloseWeakestRow.recurses == Tryz.prog.recurses 9))=true:=by kernel_rfl
theorem k13:((Rows.fnCloseWeakestRow.named == Tryz.prog.varsNamed 9))=true:=by kernel_rfl
theorem wf:Rows.fnCloseWeakestRow.wfByText (OpenSpec.ofChange Rows.fnCloseWeakestSpec)=true:=by kernel_rfl
theorem named:Tryz.prog.funcNamed Rows.fnCloseWeakestRow.func=some 9:=by kernel_rfl
theorem inst:Tryz.f9.isInstance Tryz.prog Rows.fnCloseWeakestRow.origin Rows.fnCloseWeakestRow.targs:=of_decide_eq_true (by kernel_rfl)
theorem wrap:Tryz.f9.isWrapper Tryz.prog Rows.fnCloseWeakestRow.wrapper Rows.fnCloseWeakestRow.mainSum:=by unfold Func.isWrapper;rw [if_neg (by decide +kernel)];exact⟨rfl,rfl⟩
end Go.Proofs.YtgpbfllcjdfelaaGreatDoor.FnCloseWeakest
