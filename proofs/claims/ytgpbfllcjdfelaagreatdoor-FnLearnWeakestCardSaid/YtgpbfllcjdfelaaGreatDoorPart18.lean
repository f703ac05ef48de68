/-
  The facts of the row FnLearnWeakest that Lean reckons, each by itself; all together.
-/
import Derived.Test.YtgpbfllcjdfelaaGreatDoorPart17
import Derived.Test.YtgpbfllcjdfelaaGreatDoorPart4
import Derived.Test.YtgpbfllcjdfelaaGreatDoorPart2
import Derived.Test.YtgpbfllcjdfelaaGreatDoorPart3
set_option linter.all false
namespace Go.Proofs.YtgpbfllcjdfelaaGreatDoor.FnLearnWeakest
open Go Go.Am Go.ChangeShapes Go.WideShapes Go.ChangeAt Go.RowKit
theorem mM:((Rows.fnLearnWeakestRow.inPlace == Tryz.prog.inPlace 10))=true:=by kernel_rfl
theorem mN:((Rows.fnLearnWeakestRow.unfollowed == Tryz.prog.unfollowed 10))=true:=by kernel_rfl
theorem mO:((Rows.fnLearnWeakestRow.recurses == Tryz.prog.recurses 10))=true:=by kernel_rfl
theorem mP:((Rows.fnLearnWeakestRow.named == Tryz.prog.varsNamed 10))=true:=by kernel_rfl
theorem wf:Rows.fnLearnWeakestRow.wfByText (OpenSpec.ofChange Rows.fnLearnWeakestSpec)=true:=by kernel_rfl
theorem named:Tryz.prog.funcNamed Rows.fnLearnWeakestRow.func=some 10:=by kernel_rfl
theorem inst:Tryz.f10.isInstance Tryz.prog Rows.fnLearnWeakestRow.origin Rows.fnLearnWeakestRow.targs:=of_decide_eq_true (by kernel_rfl)
theorem wrap:Tryz.f10.isWrapper Tryz.prog Rows.fnLearnWeakestRow.wrapper Rows.fnLearnWeakestRow.mainSum:=by unfold Func.isWrapper;rw [if_neg (by decide +kernel)];exact⟨rfl,rfl⟩
end Go.Proofs.YtgpbfllcjdfelaaGreatDoor.FnLearnWeakest
