/-
  A fact over the whole program, by itself: main.
-/
import Derived.Test.YtgpbfllcjdfelaaGreatDoorPart1
set_option linter.all false
namespace Go.Proofs.YtgpbfllcjdfelaaGreatDoor
open Go
theorem l3:Tryz.prog.mainIs=some (true, "bb2ed6f3183330f1e3f5e8d73bd0f3a293340f25acb528271b81e6acc456dbc7".toList):=by kernel_rfl
end Go.Proofs.YtgpbfllcjdfelaaGreatDoor
