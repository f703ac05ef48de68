/-
  The facts of the row FnRowOf that Lean reckons, each by itself; all together.
-/
import Derived.Test.YtdbppcildogedaaGreatDoorPart26
import Derived.Test.YtdbppcildogedaaGreatDoorPart9
import Derived.Test.YtdbppcildogedaaGreatDoorPart21
import Derived.Test.YtdbppcildogedaaGreatDoorPart22
import Derived.Test.YtdbppcildogedaaGreatDoorPart23
import Derived.Test.YtdbppcildogedaaGreatDoorPart24
set_option linter.constructorNameAsVariable false
set_option linter.unusedSimpArgs false
set_option linter.unusedVariables false
namespace Go.Proofs.YtdbppcildogedaaGreatDoor.FnRowOf
open Go Go.Am Go.ChangeShapes Go.WideShapes Go.ChangeAt Go.RowKit
theorem YI:((Rows.fnRowOfRow.inPlace == Tryz.prog.inPlace 7))=true:=by kernel_rfl
theorem YJ:((Rows.fnRowOfRow.unfollowed == Tryz.prog.unfollowed 7))=true:=by kernel_rfl
theorem YK:((Rows.fnRowOfRow.recurses == Tryz.prog.recurses 7))=true:=by kernel_rfl
theorem YL:((Rows.fnRowOfRow.named == Tryz.prog.varsNamed 7))=true:=by kernel_rfl
theorem wf:Rows.fnRowOfRow.wfByText (OpenSpec.ofChange Rows.fnRowOfSpec)=true:=by kernel_rfl
theorem named:Tryz.prog.funcNamed Rows.fnRowOfRow.func=some 7:=by kernel_rfl
theorem inst:Tryz.f7.isInstance Tryz.prog Rows.fnRowOfRow.origin Rows.fnRowOfRow.targs:=of_decide_eq_true (by kernel_rfl)
theorem wrap:Tryz.f7.isWrapper Tryz.prog Rows.fnRowOfRow.wrapper Rows.fnRowOfRow.mainSum:=by unfold Func.isWrapper;rw [if_neg (by decide +kernel)];exact ⟨rfl,rfl⟩
end Go.Proofs.YtdbppcildogedaaGreatDoor.FnRowOf
