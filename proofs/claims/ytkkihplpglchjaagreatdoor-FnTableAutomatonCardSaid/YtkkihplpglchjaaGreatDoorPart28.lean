/-
  The facts of the row FnTableAutomaton that Lean reckons, each by itself; all together.
-/
import Derived.Test.YtkkihplpglchjaaGreatDoorPart27
import Derived.Test.YtkkihplpglchjaaGreatDoorPart9
import Derived.Test.YtkkihplpglchjaaGreatDoorPart23
import Derived.Test.YtkkihplpglchjaaGreatDoorPart24
import Derived.Test.YtkkihplpglchjaaGreatDoorPart25
import Derived.Test.YtkkihplpglchjaaGreatDoorPart26
set_option linter.constructorNameAsVariable false
set_option linter.unusedSimpArgs false
set_option linter.unusedVariables false
namespace Go.Proofs.YtkkihplpglchjaaGreatDoor.FnTableAutomaton
open Go Go.Am Go.ChangeShapes Go.WideShapes Go.ChangeAt Go.RowKit
theorem Z2:((Rows.fnTableAutomatonRow.inPlace == Tryz.prog.inPlace 8))=true:=by kernel_rfl
theorem Z3:((Rows.fnTableAutomatonRow.unfollowed == Tryz.prog.unfollowed 8))=true:=by kernel_rfl
theorem Z4:((Rows.fnTableAutomatonRow.recurses == Tryz.prog.recurses 8))=true:=by kernel_rfl
theorem Z5:((Rows.fnTableAutomatonRow.named == Tryz.prog.varsNamed 8))=true:=by kernel_rfl
theorem wf:Rows.fnTableAutomatonRow.wfByText (OpenSpec.ofChange Rows.fnTableAutomatonSpec)=true:=by kernel_rfl
theorem named:Tryz.prog.funcNamed Rows.fnTableAutomatonRow.func=some 8:=by kernel_rfl
theorem inst:Tryz.f8.isInstance Tryz.prog Rows.fnTableAutomatonRow.origin Rows.fnTableAutomatonRow.targs:=of_decide_eq_true (by kernel_rfl)
theorem wrap:Tryz.f8.isWrapper Tryz.prog Rows.fnTableAutomatonRow.wrapper Rows.fnTableAutomatonRow.mainSum:=by unfold Func.isWrapper;rw [if_neg (by decide +kernel)];exact ⟨rfl,rfl⟩
end Go.Proofs.YtkkihplpglchjaaGreatDoor.FnTableAutomaton
