/-
  The row FnLearnStepWrong: no goroutine is started.
-/
import Derived.Test.YtkkihplpglchjaaGreatDoorPart32
import Derived.Test.YtkkihplpglchjaaGreatDoorCards
import Derived.JoinedCond
import Derived.KernelRfl
set_option linter.constructorNameAsVariable false
set_option linter.unusedSimpArgs false
set_option linter.unusedVariables false
namespace Go.Proofs.YtkkihplpglchjaaGreatDoor.FnLearnStepWrong
open Go
theorem goes:false=Rows.fnLearnStepWrongRow.goesBy Tryz.prog:=by kernel_rfl
end Go.Proofs.YtkkihplpglchjaaGreatDoor.FnLearnStepWrong
