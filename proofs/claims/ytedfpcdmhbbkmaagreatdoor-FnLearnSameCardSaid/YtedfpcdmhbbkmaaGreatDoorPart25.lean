/-
  The row FnLearnSame: no goroutine is started.
-/
import Derived.Test.YtedfpcdmhbbkmaaGreatDoorPart24
import Derived.Test.YtedfpcdmhbbkmaaGreatDoorCards
import Derived.JoinedCond
import Derived.KernelRfl
set_option linter.constructorNameAsVariable false
set_option linter.unusedSimpArgs false
set_option linter.unusedVariables false
namespace Go.Proofs.YtedfpcdmhbbkmaaGreatDoor.FnLearnSame
open Go
theorem goes : false = Rows.fnLearnSameRow.goesBy Tryz.prog := by kernel_rfl
end Go.Proofs.YtedfpcdmhbbkmaaGreatDoor.FnLearnSame
