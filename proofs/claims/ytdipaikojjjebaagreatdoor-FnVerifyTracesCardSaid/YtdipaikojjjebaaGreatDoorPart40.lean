/-
  The row FnVerifyTraces: no goroutine is started.
-/
import Derived.Test.YtdipaikojjjebaaGreatDoorPart1
import Derived.Test.YtdipaikojjjebaaGreatDoorCards
set_option linter.all false
namespace Go.Proofs.YtdipaikojjjebaaGreatDoor.FnVerifyTraces
open Go
theorem goes:false=Rows.fnVerifyTracesRow.goesBy Tryz.prog:=by kernel_rfl
end Go.Proofs.YtdipaikojjjebaaGreatDoor.FnVerifyTraces
