/-
  A fact over the whole program, by itself: lifts.
-/
import Derived.Test.YtedfpcdmhbbkmaaGreatDoorPart20
import Derived.Test.YtedfpcdmhbbkmaaGreatDoorRows
import Derived.JoinedCond
import Derived.KernelRfl
set_option linter.constructorNameAsVariable false
set_option linter.unusedSimpArgs false
set_option linter.unusedVariables false
namespace Go.Proofs.YtedfpcdmhbbkmaaGreatDoor
open Go
theorem factLifts : (Rows.fnLearnSameRow.lifted == Tryz.prog.liftsFinal) = true := by kernel_rfl
end Go.Proofs.YtedfpcdmhbbkmaaGreatDoor
