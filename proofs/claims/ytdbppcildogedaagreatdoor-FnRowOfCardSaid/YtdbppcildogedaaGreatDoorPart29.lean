/-
  The row FnRowOf: no goroutine is started.
-/
import Derived.Test.YtdbppcildogedaaGreatDoorPart28
import Derived.Test.YtdbppcildogedaaGreatDoorCards
import Derived.JoinedCond
import Derived.KernelRfl
set_option linter.constructorNameAsVariable false
set_option linter.unusedSimpArgs false
set_option linter.unusedVariables false
namespace Go.Proofs.YtdbppcildogedaaGreatDoor.FnRowOf
open Go
theorem goes:false=Rows.fnRowOfRow.goesBy Tryz.prog:=by kernel_rfl
end Go.Proofs.YtdbppcildogedaaGreatDoor.FnRowOf
