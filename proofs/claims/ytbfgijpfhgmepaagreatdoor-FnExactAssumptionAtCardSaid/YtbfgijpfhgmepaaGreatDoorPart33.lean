/-
  The row FnExactAssumptionAt: no goroutine is started.
-/
import Derived.Test.YtbfgijpfhgmepaaGreatDoorPart32
import Derived.Test.YtbfgijpfhgmepaaGreatDoorCards
import Derived.JoinedCond
import Derived.KernelRfl
set_option linter.constructorNameAsVariable false
set_option linter.unusedSectionVars false
set_option linter.unusedSimpArgs false
set_option linter.unusedVariables false
namespace Go.Proofs.YtbfgijpfhgmepaaGreatDoor.FnExactAssumptionAt
open Go
theorem goes:false=Rows.fnExactAssumptionAtRow.goesBy Tryz.prog:=by kernel_rfl
end Go.Proofs.YtbfgijpfhgmepaaGreatDoor.FnExactAssumptionAt
