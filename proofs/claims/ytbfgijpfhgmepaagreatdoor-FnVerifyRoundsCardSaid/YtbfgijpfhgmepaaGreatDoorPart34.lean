/-
  The row FnVerifyRounds: no goroutine is started.
-/
import Derived.Test.YtbfgijpfhgmepaaGreatDoorPart33
import Derived.Test.YtbfgijpfhgmepaaGreatDoorCards
import Derived.JoinedCond
import Derived.KernelRfl
set_option linter.constructorNameAsVariable false
set_option linter.unusedSectionVars false
set_option linter.unusedSimpArgs false
set_option linter.unusedVariables false
namespace Go.Proofs.YtbfgijpfhgmepaaGreatDoor.FnVerifyRounds
open Go
theorem goes:false=Rows.fnVerifyRoundsRow.goesBy Tryz.prog:=by kernel_rfl
end Go.Proofs.YtbfgijpfhgmepaaGreatDoor.FnVerifyRounds
