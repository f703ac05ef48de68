/-
  A fact over the whole program, by itself: main.
-/
import Derived.Test.YtbfgijpfhgmepaaGreatDoorPart34
import Derived.Test.YtbfgijpfhgmepaaGreatDoorRows
import Derived.JoinedCond
import Derived.KernelRfl
set_option linter.constructorNameAsVariable false
set_option linter.unusedSectionVars false
set_option linter.unusedSimpArgs false
set_option linter.unusedVariables false
namespace Go.Proofs.YtbfgijpfhgmepaaGreatDoor
open Go
theorem jP:Tryz.prog.mainIs=some (true, "c577e3e6f41decddcca3ef00f2342839337c698a1534cd43da9b668f42897fe7".toList):=by kernel_rfl
end Go.Proofs.YtbfgijpfhgmepaaGreatDoor
