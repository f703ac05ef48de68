/-
  A fact over the whole program, by itself: may enter.
-/
import Derived.Test.YtdbppcildogedaaGreatDoorPart21
import Derived.Test.YtdbppcildogedaaGreatDoorRows
import Derived.JoinedCond
import Derived.KernelRfl
set_option linter.constructorNameAsVariable false
set_option linter.unusedSimpArgs false
set_option linter.unusedVariables false
namespace Go.Proofs.YtdbppcildogedaaGreatDoor
open Go
theorem Tw:Tryz.prog.mayEnter=true:=by kernel_rfl
end Go.Proofs.YtdbppcildogedaaGreatDoor
