/-
  The row FnVerifyWeakest: no goroutine is started.
-/
import Derived.Test.YtdipaikojjjebaaGreatDoorPart1
import Derived.Test.YtdipaikojjjebaaGreatDoorCards
set_option linter.all false
namespace Go.Proofs.YtdipaikojjjebaaGreatDoor.FnVerifyWeakest
open Go
theorem goes:false=Rows.fnVerifyWeakestRow.goesBy Tryz.prog:=by kernel_rfl
end Go.Proofs.YtdipaikojjjebaaGreatDoor.FnVerifyWeakest
