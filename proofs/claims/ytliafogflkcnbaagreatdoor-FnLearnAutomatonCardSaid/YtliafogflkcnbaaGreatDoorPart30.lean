/-
  The row FnLearnAutomaton: no goroutine is started.
-/
import Derived.Test.YtliafogflkcnbaaGreatDoorPart29
import Derived.Test.YtliafogflkcnbaaGreatDoorCards
import Derived.JoinedCond
import Derived.KernelRfl
set_option linter.constructorNameAsVariable false
set_option linter.unusedSectionVars false
set_option linter.unusedSimpArgs false
set_option linter.unusedVariables false
namespace Go.Proofs.YtliafogflkcnbaaGreatDoor.FnLearnAutomaton
open Go
theorem goes:false=Rows.fnLearnAutomatonRow.goesBy Tryz.prog:=by kernel_rfl
end Go.Proofs.YtliafogflkcnbaaGreatDoor.FnLearnAutomaton
