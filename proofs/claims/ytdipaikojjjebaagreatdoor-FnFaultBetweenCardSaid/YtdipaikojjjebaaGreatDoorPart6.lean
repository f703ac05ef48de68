/-
  The row FnFaultBetween: no goroutine is started.
-/
import Derived.Test.YtdipaikojjjebaaGreatDoorPart1
import Derived.Test.YtdipaikojjjebaaGreatDoorCards
set_option linter.all false
namespace Go.Proofs.YtdipaikojjjebaaGreatDoor.FnFaultBetween
open Go
theorem goes:false=Rows.fnFaultBetweenRow.goesBy Tryz.prog:=by kernel_rfl
end Go.Proofs.YtdipaikojjjebaaGreatDoor.FnFaultBetween
