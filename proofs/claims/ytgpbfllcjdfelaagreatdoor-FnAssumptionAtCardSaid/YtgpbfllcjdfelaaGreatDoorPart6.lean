/-
  The row FnAssumptionAt: no goroutine is started.
-/
import Derived.Test.YtgpbfllcjdfelaaGreatDoorPart1
import Derived.Test.YtgpbfllcjdfelaaGreatDoorCards
set_option linter.all false
namespace Go.Proofs.YtgpbfllcjdfelaaGreatDoor.FnAssumptionAt
open Go
theorem goes:false=Rows.fnAssumptionAtRow.goesBy Tryz.prog:=by kernel_rfl
end Go.Proofs.YtgpbfllcjdfelaaGreatDoor.FnAssumptionAt
