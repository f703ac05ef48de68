/-
  The facts of the row FnTableValid that Lean reckons, each by itself; all together.
-/
import Derived.Test.YtdbppcildogedaaGreatDoorPart9
import Derived.Test.YtdbppcildogedaaGreatDoorPart24
import Derived.Test.YtdbppcildogedaaGreatDoorPart25
import Derived.Test.YtdbppcildogedaaGreatDoorPart26
import Derived.Test.YtdbppcildogedaaGreatDoorPart27
set_option linter.constructorNameAsVariable false
set_option linter.unusedSimpArgs false
set_option linter.unusedVariables false
namespace Go.Proofs.YtdbppcildogedaaGreatDoor.FnTableValid
open Go Go.Am Go.ChangeShapes Go.WideShapes Go.ChangeAt Go.RowKit
theorem k10:((Rows.fnTableValidRow.inPlace == Tryz.prog.inPlace 3))=true:=by kernel_rfl
theorem k11:((Rows.fnTableValidRow.unfollowed == Tryz.prog.unfollowed 3))=true:=by kernel_rfl
theorem k12:((Rows.fnTableValidRow.recurses == Tryz.prog.recurses 3))=true:=by kernel_rfl
theorem k13:((Rows.fnTableValidRow.named == Tryz.prog.varsNamed 3))=true:=by kernel_rfl
theorem wf:Rows.fnTableValidRow.wfByText (OpenSpec.ofChange Rows.fnTableValidSpec)=true:=by kernel_rfl
theorem named:Tryz.prog.funcNamed Rows.fnTableValidRow.func=some 3:=by kernel_rfl
theorem inst:Tryz.f3.isInstance Tryz.prog Rows.fnTableValidRow.origin Rows.fnTableValidRow.targs:=of_decide_eq_true (by kernel_rfl)
theorem wrap:Tryz.f3.isWrapper Tryz.prog Rows.fnTableValidRow.wrapper Rows.fnTableValidRow.mainSum:=by unfold Func.isWrapper;rw [if_neg (by decide +kernel)];exact ⟨rfl,rfl⟩
end Go.Proofs.YtdbppcildogedaaGreatDoor.FnTableValid
