/-
  The row FnVerifyHolds: no goroutine is started.
-/
import Derived.Test.YtohfiindiidcfaaGreatDoorPart1
import Derived.Test.YtohfiindiidcfaaGreatDoorCards
set_option linter.all false
namespace Go.Proofs.YtohfiindiidcfaaGreatDoor.FnVerifyHolds
open Go
theorem goes:false=Rows.fnVerifyHoldsRow.goesBy Tryz.prog:=by kernel_rfl
end Go.Proofs.YtohfiindiidcfaaGreatDoor.FnVerifyHolds
