/-
  A fact over the whole program, by itself: main.
-/
import Derived.Test.YtkkihplpglchjaaGreatDoorPart28
import Derived.Test.YtkkihplpglchjaaGreatDoorRows
import Derived.JoinedCond
import Derived.KernelRfl
set_option linter.constructorNameAsVariable false
set_option linter.unusedSimpArgs false
set_option linter.unusedVariables false
namespace Go.Proofs.YtkkihplpglchjaaGreatDoor
open Go
theorem aN:Tryz.prog.mainIs=some (true, "e8b64ebb1725c344af3989699219fd1863097cdf4b4c3f809fcc3772c78b5c08".toList):=by kernel_rfl
end Go.Proofs.YtkkihplpglchjaaGreatDoor
