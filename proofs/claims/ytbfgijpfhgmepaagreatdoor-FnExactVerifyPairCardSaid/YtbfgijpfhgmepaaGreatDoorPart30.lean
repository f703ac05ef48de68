/-
  The facts of the row FnExactVerifyPair that Lean reckons, each by itself; all together.
-/
import Derived.Test.YtbfgijpfhgmepaaGreatDoorPart9
import Derived.Test.YtbfgijpfhgmepaaGreatDoorPart26
import Derived.Test.YtbfgijpfhgmepaaGreatDoorPart27
import Derived.Test.YtbfgijpfhgmepaaGreatDoorPart28
import Derived.Test.YtbfgijpfhgmepaaGreatDoorPart29
set_option linter.constructorNameAsVariable false
set_option linter.unusedSectionVars false
set_option linter.unusedSimpArgs false
set_option linter.unusedVariables false
namespace Go.Proofs.YtbfgijpfhgmepaaGreatDoor.FnExactVerifyPair
open Go Go.Am Go.ChangeShapes Go.WideShapes Go.ChangeAt Go.RowKit
theorem mV:((Rows.fnExactVerifyPairRow.inPlace == Tryz.prog.inPlace 5))=true:=by kernel_rfl
theorem mW:((Rows.fnExactVerifyPairRow.unfollowed == Tryz.prog.unfollowed 5))=true:=by kernel_rfl
theorem mY:((Rows.fnExactVerifyPairRow.recurses == Tryz.prog.recurses 5))=true:=by kernel_rfl
theorem mZ:((Rows.fnExactVerifyPairRow.named == Tryz.prog.varsNamed 5))=true:=by kernel_rfl
theorem wf:Rows.fnExactVerifyPairRow.wfByText (OpenSpec.ofChange Rows.fnExactVerifyPairSpec)=true:=by kernel_rfl
theorem named:Tryz.prog.funcNamed Rows.fnExactVerifyPairRow.func=some 5:=by kernel_rfl
theorem inst:Tryz.f5.isInstance Tryz.prog Rows.fnExactVerifyPairRow.origin Rows.fnExactVerifyPairRow.targs:=of_decide_eq_true (by kernel_rfl)
theorem wrap:Tryz.f5.isWrapper Tryz.prog Rows.fnExactVerifyPairRow.wrapper Rows.fnExactVerifyPairRow.mainSum:=by unfold Func.isWrapper;rw [if_neg (by decide +kernel)];exact⟨rfl,rfl⟩
end Go.Proofs.YtbfgijpfhgmepaaGreatDoor.FnExactVerifyPair
