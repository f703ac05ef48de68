/-
  The facts of the row FnRowNext that Lean reckons, each by itself; all together.
-/
import Derived.Test.YtkkihplpglchjaaGreatDoorPart28
import Derived.Test.YtkkihplpglchjaaGreatDoorPart9
import Derived.Test.YtkkihplpglchjaaGreatDoorPart23
import Derived.Test.YtkkihplpglchjaaGreatDoorPart24
import Derived.Test.YtkkihplpglchjaaGreatDoorPart25
import Derived.Test.YtkkihplpglchjaaGreatDoorPart26
set_option linter.constructorNameAsVariable false
set_option linter.unusedSimpArgs false
set_option linter.unusedVariables false
namespace Go.Proofs.YtkkihplpglchjaaGreatDoor.FnRowNext
open Go Go.Am Go.ChangeShapes Go.WideShapes Go.ChangeAt Go.RowKit
theorem bm:((Rows.fnRowNextRow.inPlace == Tryz.prog.inPlace 7))=true:=by kernel_rfl
theorem bn:((Rows.fnRowNextRow.unfollowed == Tryz.prog.unfollowed 7))=true:=by kernel_rfl
theorem bp:((Rows.fnRowNextRow.recurses == Tryz.prog.recurses 7))=true:=by kernel_rfl
theorem bq:((Rows.fnRowNextRow.named == Tryz.prog.varsNamed 7))=true:=by kernel_rfl
theorem wf:Rows.fnRowNextRow.wfByText (OpenSpec.ofChange Rows.fnRowNextSpec)=true:=by kernel_rfl
theorem named:Tryz.prog.funcNamed Rows.fnRowNextRow.func=some 7:=by kernel_rfl
theorem inst:Tryz.f7.isInstance Tryz.prog Rows.fnRowNextRow.origin Rows.fnRowNextRow.targs:=of_decide_eq_true (by kernel_rfl)
theorem wrap:Tryz.f7.isWrapper Tryz.prog Rows.fnRowNextRow.wrapper Rows.fnRowNextRow.mainSum:=by unfold Func.isWrapper;rw [if_neg (by decide +kernel)];exact ⟨rfl,rfl⟩
end Go.Proofs.YtkkihplpglchjaaGreatDoor.FnRowNext
