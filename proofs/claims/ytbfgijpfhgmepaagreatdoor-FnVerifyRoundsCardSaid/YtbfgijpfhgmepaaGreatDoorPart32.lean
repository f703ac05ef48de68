/-
  The facts of the row FnVerifyRounds that Lean reckons, each by itself; all together.
-/
import Derived.Test.YtbfgijpfhgmepaaGreatDoorPart9
import Derived.Test.YtbfgijpfhgmepaaGreatDoorPart28
import Derived.Test.YtbfgijpfhgmepaaGreatDoorPart29
import Derived.Test.YtbfgijpfhgmepaaGreatDoorPart30
import Derived.Test.YtbfgijpfhgmepaaGreatDoorPart31
set_option linter.constructorNameAsVariable false
set_option linter.unusedSectionVars false
set_option linter.unusedSimpArgs false
set_option linter.unusedVariables false
namespace Go.Proofs.YtbfgijpfhgmepaaGreatDoor.FnVerifyRounds
open Go Go.Am Go.ChangeShapes Go.WideShapes Go.ChangeAt Go.RowKit
theorem mP:((Rows.fnVerifyRoundsRow.inPlace == Tryz.prog.inPlace 6))=true:=by kernel_rfl
theorem mQ:((Rows.fnVerifyRoundsRow.unfollowed == Tryz.prog.unfollowed 6))=true:=by kernel_rfl
theorem mR:((Rows.fnVerifyRoundsRow.recurses == Tryz.prog.recurses 6))=true:=by kernel_rfl
theorem mS:((Rows.fnVerifyRoundsRow.named == Tryz.prog.varsNamed 6))=true:=by kernel_rfl
theorem wf:Rows.fnVerifyRoundsRow.wfByText (OpenSpec.ofChange Rows.fnVerifyRoundsSpec)=true:=by kernel_rfl
theorem named:Tryz.prog.funcNamed Rows.fnVerifyRoundsRow.func=some 6:=by kernel_rfl
theorem inst:Tryz.f6.isInstance Tryz.prog Rows.fnVerifyRoundsRow.origin Rows.fnVerifyRoundsRow.targs:=of_decide_eq_true (by kernel_rfl)
theorem wrap:Tryz.f6.isWrapper Tryz.prog Rows.fnVerifyRoundsRow.wrapper Rows.fnVerifyRoundsRow.mainSum:=by unfold Func.isWrapper;rw [if_neg (by decide +kernel)];exact⟨rfl,rfl⟩
end Go.Proofs.YtbfgijpfhgmepaaGreatDoor.FnVerifyRounds
