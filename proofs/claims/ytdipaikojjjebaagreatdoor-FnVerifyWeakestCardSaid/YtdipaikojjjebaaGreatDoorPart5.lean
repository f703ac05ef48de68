/-
  A fact over the whole program, by itself: main.
-/
import Derived.Test.YtdipaikojjjebaaGreatDoorPart1
set_option linter.all false
namespace Go.Proofs.YtdipaikojjjebaaGreatDoor
open Go
theorem qg:Tryz.prog.mainIs=some (true, "059ae6f5a8a14fbc47fe0c8a0f50601f2e25926b506f3c3196a6b7ef137cca42".toList):=by kernel_rfl
end Go.Proofs.YtdipaikojjjebaaGreatDoor
