/-
  The facts of the row FnFirstOpen that Lean reckons, each by itself; all together.
-/
import Derived.Test.YtdbppcildogedaaGreatDoorPart26
import Derived.Test.YtdbppcildogedaaGreatDoorPart9
import Derived.Test.YtdbppcildogedaaGreatDoorPart21
import Derived.Test.YtdbppcildogedaaGreatDoorPart22
import Derived.Test.YtdbppcildogedaaGreatDoorPart23
import Derived.Test.YtdbppcildogedaaGreatDoorPart24
set_option linter.constructorNameAsVariable false
set_option linter.unusedSimpArgs false
set_option linter.unusedVariables false
namespace Go.Proofs.YtdbppcildogedaaGreatDoor.FnFirstOpen
open Go Go.Am Go.ChangeShapes Go.WideShapes Go.ChangeAt Go.RowKit
theorem YK:((Rows.fnFirstOpenRow.inPlace == Tryz.prog.inPlace 6))=true:=by kernel_rfl
theorem YL:((Rows.fnFirstOpenRow.unfollowed == Tryz.prog.unfollowed 6))=true:=by kernel_rfl
theorem YM:((Rows.fnFirstOpenRow.recurses == Tryz.prog.recurses 6))=true:=by kernel_rfl
theorem YN:((Rows.fnFirstOpenRow.named == Tryz.prog.varsNamed 6))=true:=by kernel_rfl
theorem wf:Rows.fnFirstOpenRow.wfByText (OpenSpec.ofChange Rows.fnFirstOpenSpec)=true:=by kernel_rfl
theorem named:Tryz.prog.funcNamed Rows.fnFirstOpenRow.func=some 6:=by kernel_rfl
theorem inst:Tryz.f6.isInstance Tryz.prog Rows.fnFirstOpenRow.origin Rows.fnFirstOpenRow.targs:=of_decide_eq_true (by kernel_rfl)
theorem wrap:Tryz.f6.isWrapper Tryz.prog Rows.fnFirstOpenRow.wrapper Rows.fnFirstOpenRow.mainSum:=by unfold Func.isWrapper;rw [if_neg (by decide +kernel)];exact ⟨rfl,rfl⟩
end Go.Proofs.YtdbppcildogedaaGreatDoor.FnFirstOpen
