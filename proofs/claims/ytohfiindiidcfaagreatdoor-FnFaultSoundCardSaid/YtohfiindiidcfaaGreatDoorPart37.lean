/-
  The row FnFaultSound: no goroutine is started.
-/
import Derived.Test.YtohfiindiidcfaaGreatDoorPart1
import Derived.Test.YtohfiindiidcfaaGreatDoorCards
set_option linter.all false
namespace Go.Proofs.YtohfiindiidcfaaGreatDoor.FnFaultSound
open Go
theorem goes:false=Rows.fnFaultSoundRow.goesBy Tryz.prog:=by kernel_rfl
end Go.Proofs.YtohfiindiidcfaaGreatDoor.FnFaultSound
