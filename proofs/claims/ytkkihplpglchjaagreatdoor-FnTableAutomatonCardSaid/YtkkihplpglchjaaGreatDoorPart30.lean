/-
  The row FnTableAutomaton: no goroutine is started.
-/
import Derived.Test.YtkkihplpglchjaaGreatDoorPart29
import Derived.Test.YtkkihplpglchjaaGreatDoorCards
import Derived.JoinedCond
import Derived.KernelRfl
set_option linter.constructorNameAsVariable false
set_option linter.unusedSimpArgs false
set_option linter.unusedVariables false
namespace Go.Proofs.YtkkihplpglchjaaGreatDoor.FnTableAutomaton
open Go
theorem goes:false=Rows.fnTableAutomatonRow.goesBy Tryz.prog:=by kernel_rfl
end Go.Proofs.YtkkihplpglchjaaGreatDoor.FnTableAutomaton
