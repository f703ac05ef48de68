/-
  A fact over the whole program, by itself: main.
-/
import Derived.Test.YtainaphkaklkmaaGreatDoorPart29
import Derived.Test.YtainaphkaklkmaaGreatDoorRows
import Derived.JoinedCond
import Derived.KernelRfl
set_option linter.constructorNameAsVariable false
set_option linter.unusedSimpArgs false
set_option linter.unusedVariables false
namespace Go.Proofs.YtainaphkaklkmaaGreatDoor
open Go
theorem factMain:Tryz.prog.mainIs=some (true, "7dff220191ad5e2fd5e99d415d83a86e625a751157614db337b893bd21cc9e46".toList):=by kernel_rfl
end Go.Proofs.YtainaphkaklkmaaGreatDoor
