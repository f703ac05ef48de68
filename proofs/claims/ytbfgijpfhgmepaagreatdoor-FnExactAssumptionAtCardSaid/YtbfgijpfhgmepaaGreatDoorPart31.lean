/-
  The facts of the row FnExactAssumptionAt that Lean reckons, each by itself; all together.
-/
import Derived.Test.YtbfgijpfhgmepaaGreatDoorPart9
import Derived.Test.YtbfgijpfhgmepaaGreatDoorPart27
import Derived.Test.YtbfgijpfhgmepaaGreatDoorPart28
import Derived.Test.YtbfgijpfhgmepaaGreatDoorPart29
import Derived.Test.YtbfgijpfhgmepaaGreatDoorPart30
set_option linter.constructorNameAsVariable false
set_option linter.unusedSectionVars false
set_option linter.unusedSimpArgs false
set_option linter.unusedVariables false
namespace Go.Proofs.YtbfgijpfhgmepaaGreatDoor.FnExactAssumptionAt
open Go Go.Am Go.ChangeShapes Go.WideShapes Go.ChangeAt Go.RowKit
theorem nq:((Rows.fnExactAssumptionAtRow.inPlace == Tryz.prog.inPlace 4))=true:=by kernel_rfl
theorem nr:((Rows.fnExactAssumptionAtRow.unfollowed == Tryz.prog.unfollowed 4))=true:=by kernel_rfl
theorem nt:((Rows.fnExactAssumptionAtRow.recurses == Tryz.prog.recurses 4))=true:=by kernel_rfl
theorem nu:((Rows.fnExactAssumptionAtRow.named == Tryz.prog.varsNamed 4))=true:=by kernel_rfl
theorem wf:Rows.fnExactAssumptionAtRow.wfByText (OpenSpec.ofChange Rows.fnExactAssumptionAtSpec)=true:=by kernel_rfl
theorem named:Tryz.prog.funcNamed Rows.fnExactAssumptionAtRow.func=some 4:=by kernel_rfl
theorem inst:Tryz.f4.isInstance Tryz.prog Rows.fnExactAssumptionAtRow.origin Rows.fnExactAssumptionAtRow.targs:=of_decide_eq_true (by kernel_rfl)
theorem wrap:Tryz.f4.isWrapper Tryz.prog Rows.fnExactAssumptionAtRow.wrapper Rows.fnExactAssumptionAtRow.mainSum:=by unfold Func.isWrapper;rw [if_neg (by decide +kernel)];exact⟨rfl,rfl⟩
end Go.Proofs.YtbfgijpfhgmepaaGreatDoor.FnExactAssumptionAt
