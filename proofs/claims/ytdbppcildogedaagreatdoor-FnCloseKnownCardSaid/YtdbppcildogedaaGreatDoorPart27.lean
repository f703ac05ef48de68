/-
  The facts of the row FnCloseKnown that Lean reckons, each by itself; all together.
-/
import Derived.Test.YtdbppcildogedaaGreatDoorPart26
import Derived.Test.YtdbppcildogedaaGreatDoorPart9
import Derived.Test.YtdbppcildogedaaGreatDoorPart21
import Derived.Test.YtdbppcildogedaaGreatDoorPart22
import Derived.Test.YtdbppcildogedaaGreatDoorPart23
import Derived.Test.YtdbppcildogedaaGreatDoorPart24
set_option linter.constructorNameAsVariable false
set_option linter.unusedSimpArgs false
set_option linter.unusedVariables false
namespace Go.Proofs.YtdbppcildogedaaGreatDoor.FnCloseKnown
open Go Go.Am Go.ChangeShapes Go.WideShapes Go.ChangeAt Go.RowKit
theorem YF:((Rows.fnCloseKnownRow.inPlace == Tryz.prog.inPlace 9))=true:=by kernel_rfl
theorem YG:((Rows.fnCloseKnownRow.unfollowed == Tryz.prog.unfollowed 9))=true:=by kernel_rfl
theorem YH:((Rows.fnCloseKnownRow.recurses == Tryz.prog.recurses 9))=true:=by kernel_rfl
theorem YI:((Rows.fnCloseKnownRow.named == Tryz.prog.varsNamed 9))=true:=by kernel_rfl
theorem wf:Rows.fnCloseKnownRow.wfByText (OpenSpec.ofChange Rows.fnCloseKnownSpec)=true:=by kernel_rfl
theorem named:Tryz.prog.funcNamed Rows.fnCloseKnownRow.func=some 9:=by kernel_rfl
theorem inst:Tryz.f9.isInstance Tryz.prog Rows.fnCloseKnownRow.origin Rows.fnCloseKnownRow.targs:=of_decide_eq_true (by kernel_rfl)
theorem wrap:Tryz.f9.isWrapper Tryz.prog Rows.fnCloseKnownRow.wrapper Rows.fnCloseKnownRow.mainSum:=by unfold Func.isWrapper;rw [if_neg (by decide +kernel)];exact ⟨rfl,rfl⟩
end Go.Proofs.YtdbppcildogedaaGreatDoor.FnCloseKnown
