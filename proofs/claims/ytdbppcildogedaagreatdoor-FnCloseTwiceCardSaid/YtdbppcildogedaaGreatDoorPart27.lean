/-
  The facts of the row FnCloseTwice that Lean reckons, each by itself; all together.
-/
import Derived.Test.YtdbppcildogedaaGreatDoorPart26
import Derived.Test.YtdbppcildogedaaGreatDoorPart9
import Derived.Test.YtdbppcildogedaaGreatDoorPart21
import Derived.Test.YtdbppcildogedaaGreatDoorPart22
import Derived.Test.YtdbppcildogedaaGreatDoorPart23
import Derived.Test.YtdbppcildogedaaGreatDoorPart24
set_option linter.constructorNameAsVariable false
set_option linter.unusedSimpArgs false
set_option linter.unusedVariables false
namespace Go.Proofs.YtdbppcildogedaaGreatDoor.FnCloseTwice
open Go Go.Am Go.ChangeShapes Go.WideShapes Go.ChangeAt Go.RowKit
theorem YJ:((Rows.fnCloseTwiceRow.inPlace == Tryz.prog.inPlace 11))=true:=by kernel_rfl
theorem YK:((Rows.fnCloseTwiceRow.unfollowed == Tryz.prog.unfollowed 11))=true:=by kernel_rfl
theorem YL:((Rows.fnCloseTwiceRow.recurses == Tryz.prog.recurses 11))=true:=by kernel_rfl
theorem YM:((Rows.fnCloseTwiceRow.named == Tryz.prog.varsNamed 11))=true:=by kernel_rfl
theorem wf:Rows.fnCloseTwiceRow.wfByText (OpenSpec.ofChange Rows.fnCloseTwiceSpec)=true:=by kernel_rfl
theorem named:Tryz.prog.funcNamed Rows.fnCloseTwiceRow.func=some 11:=by kernel_rfl
theorem inst:Tryz.f11.isInstance Tryz.prog Rows.fnCloseTwiceRow.origin Rows.fnCloseTwiceRow.targs:=of_decide_eq_true (by kernel_rfl)
theorem wrap:Tryz.f11.isWrapper Tryz.prog Rows.fnCloseTwiceRow.wrapper Rows.fnCloseTwiceRow.mainSum:=by unfold Func.isWrapper;rw [if_neg (by decide +kernel)];exact ⟨rfl,rfl⟩
end Go.Proofs.YtdbppcildogedaaGreatDoor.FnCloseTwice
