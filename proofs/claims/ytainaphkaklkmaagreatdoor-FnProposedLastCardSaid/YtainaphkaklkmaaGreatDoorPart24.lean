/-
  A fact over the whole program, by itself: may enter.
-/
import Derived.Test.YtainaphkaklkmaaGreatDoorPart23
import Derived.Test.YtainaphkaklkmaaGreatDoorRows
import Derived.JoinedCond
import Derived.KernelRfl
set_option linter.constructorNameAsVariable false
set_option linter.unusedSimpArgs false
set_option linter.unusedVariables false
namespace Go.Proofs.YtainaphkaklkmaaGreatDoor
open Go
theorem factMayEnter:Tryz.prog.mayEnter=true:=by kernel_rfl
end Go.Proofs.YtainaphkaklkmaaGreatDoor
