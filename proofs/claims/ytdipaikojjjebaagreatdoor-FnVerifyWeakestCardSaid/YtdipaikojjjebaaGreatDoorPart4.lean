/-
  A fact over the whole program, by itself: may enter.
-/
import Derived.Test.YtdipaikojjjebaaGreatDoorPart1
set_option linter.all false
namespace Go.Proofs.YtdipaikojjjebaaGreatDoor
open Go
theorem Uy:Tryz.prog.mayEnter=true:=by kernel_rfl
end Go.Proofs.YtdipaikojjjebaaGreatDoor
