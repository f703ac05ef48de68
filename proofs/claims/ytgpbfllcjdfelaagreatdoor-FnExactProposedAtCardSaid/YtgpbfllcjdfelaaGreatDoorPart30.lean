/-
  The row FnExactProposedAt: no goroutine is started.
-/
import Derived.Test.YtgpbfllcjdfelaaGreatDoorPart1
import Derived.Test.YtgpbfllcjdfelaaGreatDoorCards
set_option linter.all false
namespace Go.Proofs.YtgpbfllcjdfelaaGreatDoor.FnExactProposedAt
open Go
theorem goes:false=Rows.fnExactProposedAtRow.goesBy Tryz.prog:=by kernel_rfl
end Go.Proofs.YtgpbfllcjdfelaaGreatDoor.FnExactProposedAt
