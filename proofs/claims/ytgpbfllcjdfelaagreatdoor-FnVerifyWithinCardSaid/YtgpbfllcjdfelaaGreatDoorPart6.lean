/-
  The row FnVerifyWithin: no goroutine is started.
-/
import Derived.Test.YtgpbfllcjdfelaaGreatDoorPart1
import Derived.Test.YtgpbfllcjdfelaaGreatDoorCards
set_option linter.all false
namespace Go.Proofs.YtgpbfllcjdfelaaGreatDoor.FnVerifyWithin
open Go
theorem goes:false=Rows.fnVerifyWithinRow.goesBy Tryz.prog:=by kernel_rfl
end Go.Proofs.YtgpbfllcjdfelaaGreatDoor.FnVerifyWithin
