/-
  A fact over the whole program, by itself: main.
-/
import Derived.Test.YtdbppcildogedaaGreatDoorPart24
import Derived.Test.YtdbppcildogedaaGreatDoorRows
import Derived.JoinedCond
import Derived.KernelRfl
set_option linter.constructorNameAsVariable false
set_option linter.unusedSimpArgs false
set_option linter.unusedVariables false
namespace Go.Proofs.YtdbppcildogedaaGreatDoor
open Go
theorem Wp:Tryz.prog.mainIs=some (true, "daaa5c0a9fa15d3066f4a4b5981b63e993b7e2d3b6c1873938c0b7bd0ade4cff".toList):=by kernel_rfl
end Go.Proofs.YtdbppcildogedaaGreatDoor
