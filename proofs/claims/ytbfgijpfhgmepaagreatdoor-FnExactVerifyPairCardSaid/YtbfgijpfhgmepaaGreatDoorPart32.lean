/-
  The row FnExactVerifyPair: no goroutine is started.
-/
import Derived.Test.YtbfgijpfhgmepaaGreatDoorPart31
import Derived.Test.YtbfgijpfhgmepaaGreatDoorCards
import Derived.JoinedCond
import Derived.KernelRfl
set_option linter.constructorNameAsVariable false
set_option linter.unusedSectionVars false
set_option linter.unusedSimpArgs false
set_option linter.unusedVariables false
namespace Go.Proofs.YtbfgijpfhgmepaaGreatDoor.FnExactVerifyPair
open Go
theorem goes:false=Rows.fnExactVerifyPairRow.goesBy Tryz.prog:=by kernel_rfl
end Go.Proofs.YtbfgijpfhgmepaaGreatDoor.FnExactVerifyPair
