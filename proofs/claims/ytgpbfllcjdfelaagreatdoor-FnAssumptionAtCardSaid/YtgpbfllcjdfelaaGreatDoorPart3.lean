/-
  A fact over the whole program, by itself: make.
-/
import Derived.Test.YtgpbfllcjdfelaaGreatDoorPart1
set_option linter.all false
namespace Go.Proofs.YtgpbfllcjdfelaaGreatDoor
open Go
theorem dD:(Tryz.prog.make == some Rows.fnAssumptionAtRow.make)=true:=by kernel_rfl
end Go.Proofs.YtgpbfllcjdfelaaGreatDoor
