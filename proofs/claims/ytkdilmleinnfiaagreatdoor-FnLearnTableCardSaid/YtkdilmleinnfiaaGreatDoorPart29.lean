/-
  A fact over the whole program, by itself: main.
-/
import Derived.Test.YtkdilmleinnfiaaGreatDoorPart28
import Derived.Test.YtkdilmleinnfiaaGreatDoorRows
import Derived.JoinedCond
import Derived.KernelRfl
set_option linter.constructorNameAsVariable false
set_option linter.unusedSectionVars false
set_option linter.unusedSimpArgs false
set_option linter.unusedVariables false
namespace Go.Proofs.YtkdilmleinnfiaaGreatDoor
open Go
theorem ZN:Tryz.prog.mainIs=some (true, "d0eacb4dd7bd96210c69ed992431defc865554031af87983f7887802c4906ded".toList):=by kernel_rfl
end Go.Proofs.YtkdilmleinnfiaaGreatDoor
