/-
  A fact over the whole program, by itself: may enter.
-/
import Derived.Test.YtgpbfllcjdfelaaGreatDoorPart1
set_option linter.all false
namespace Go.Proofs.YtgpbfllcjdfelaaGreatDoor
open Go
theorem Tl:Tryz.prog.mayEnter=true:=by kernel_rfl
end Go.Proofs.YtgpbfllcjdfelaaGreatDoor
