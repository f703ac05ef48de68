/-
  A fact over the whole program, by itself: main.
-/
import Derived.Test.YtliafogflkcnbaaGreatDoorPart25
import Derived.Test.YtliafogflkcnbaaGreatDoorRows
import Derived.JoinedCond
import Derived.KernelRfl
set_option linter.constructorNameAsVariable false
set_option linter.unusedSectionVars false
set_option linter.unusedSimpArgs false
set_option linter.unusedVariables false
namespace Go.Proofs.YtliafogflkcnbaaGreatDoor
open Go
theorem ba:Tryz.prog.mainIs=some (true, "9ddacb0faa1269eb0abc0b8994658b9982365212459002654e1460a0c227252f".toList):=by kernel_rfl
end Go.Proofs.YtliafogflkcnbaaGreatDoor
