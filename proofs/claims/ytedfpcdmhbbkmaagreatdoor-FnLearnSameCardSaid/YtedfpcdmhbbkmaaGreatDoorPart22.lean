/-
  A fact over the whole program, by itself: make.
-/
import Derived.Test.YtedfpcdmhbbkmaaGreatDoorPart21
import Derived.Test.YtedfpcdmhbbkmaaGreatDoorRows
import Derived.JoinedCond
import Derived.KernelRfl
set_option linter.constructorNameAsVariable false
set_option linter.unusedSimpArgs false
set_option linter.unusedVariables false
namespace Go.Proofs.YtedfpcdmhbbkmaaGreatDoor
open Go
theorem factMake : (Tryz.prog.make == some Rows.fnLearnSameRow.make) = true := by kernel_rfl
end Go.Proofs.YtedfpcdmhbbkmaaGreatDoor
