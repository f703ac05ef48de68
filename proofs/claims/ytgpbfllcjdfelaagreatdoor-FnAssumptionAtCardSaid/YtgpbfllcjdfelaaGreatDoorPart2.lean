/-
  A fact over the whole program, by itself: lifts.
-/
import Derived.Test.YtgpbfllcjdfelaaGreatDoorPart1
set_option linter.all false
namespace Go.Proofs.YtgpbfllcjdfelaaGreatDoor
open Go
theorem aH:(Rows.fnAssumptionAtRow.lifted == Tryz.prog.liftsFinal)=true:=by kernel_rfl
end Go.Proofs.YtgpbfllcjdfelaaGreatDoor
