/-
  The facts of the row FnTableSafe that Lean reckons, each by itself; all together.
-/
import Derived.Test.YtkkihplpglchjaaGreatDoorPart28
import Derived.Test.YtkkihplpglchjaaGreatDoorPart9
import Derived.Test.YtkkihplpglchjaaGreatDoorPart23
import Derived.Test.YtkkihplpglchjaaGreatDoorPart24
import Derived.Test.YtkkihplpglchjaaGreatDoorPart25
import Derived.Test.YtkkihplpglchjaaGreatDoorPart26
set_option linter.constructorNameAsVariable false
set_option linter.unusedSimpArgs false
set_option linter.unusedVariables false
namespace Go.Proofs.YtkkihplpglchjaaGreatDoor.FnTableSafe
open Go Go.Am Go.ChangeShapes Go.WideShapes Go.ChangeAt Go.RowKit
theorem bL:((Rows.fnTableSafeRow.inPlace == Tryz.prog.inPlace 10))=true:=by kernel_rfl
theorem bM:((Rows.fnTableSafeRow.unfollowed == Tryz.prog.unfollowed 10))=true:=by kernel_rfl
theorem bN:((Rows.fnTableSafeRow.recurses == Tryz.prog.recurses 10))=true:=by kernel_rfl
theorem bO:((Rows.fnTableSafeRow.named == Tryz.prog.varsNamed 10))=true:=by kernel_rfl
theorem wf:Rows.fnTableSafeRow.wfByText (OpenSpec.ofChange Rows.fnTableSafeSpec)=true:=by kernel_rfl
theorem named:Tryz.prog.funcNamed Rows.fnTableSafeRow.func=some 10:=by kernel_rfl
theorem inst:Tryz.f10.isInstance Tryz.prog Rows.fnTableSafeRow.origin Rows.fnTableSafeRow.targs:=of_decide_eq_true (by kernel_rfl)
theorem wrap:Tryz.f10.isWrapper Tryz.prog Rows.fnTableSafeRow.wrapper Rows.fnTableSafeRow.mainSum:=by unfold Func.isWrapper;rw [if_neg (by decide +kernel)];exact ⟨rfl,rfl⟩
end Go.Proofs.YtkkihplpglchjaaGreatDoor.FnTableSafe
