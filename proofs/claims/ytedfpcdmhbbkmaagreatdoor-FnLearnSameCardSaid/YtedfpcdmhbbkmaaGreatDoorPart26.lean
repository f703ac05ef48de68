/-
  A fact over the whole program, by itself: main.
-/
import Derived.Test.YtedfpcdmhbbkmaaGreatDoorPart25
import Derived.Test.YtedfpcdmhbbkmaaGreatDoorRows
import Derived.JoinedCond
import Derived.KernelRfl
set_option linter.constructorNameAsVariable false
set_option linter.unusedSimpArgs false
set_option linter.unusedVariables false
namespace Go.Proofs.YtedfpcdmhbbkmaaGreatDoor
open Go
theorem factMain : Tryz.prog.mainIs = some (true, "4371bed3ce980a659fda51ab096b904d67339648e45b5cbe56c4aeacf27df47a".toList) := by kernel_rfl
end Go.Proofs.YtedfpcdmhbbkmaaGreatDoor
