/-
  A fact over the whole program, by itself: main.
-/
import Derived.Test.YtohfiindiidcfaaGreatDoorPart1
set_option linter.all false
namespace Go.Proofs.YtohfiindiidcfaaGreatDoor
open Go
theorem er:Tryz.prog.mainIs=some (true, "daf346914bbb58186c5ec422c774b971cffd17b503d1ba451f41004451eb467b".toList):=by kernel_rfl
end Go.Proofs.YtohfiindiidcfaaGreatDoor
