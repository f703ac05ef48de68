/-
  A fact over the whole program, by itself: may enter.
-/
import Derived.Test.YtkkihplpglchjaaGreatDoorPart23
import Derived.Test.YtkkihplpglchjaaGreatDoorRows
import Derived.JoinedCond
import Derived.KernelRfl
set_option linter.constructorNameAsVariable false
set_option linter.unusedSimpArgs false
set_option linter.unusedVariables false
namespace Go.Proofs.YtkkihplpglchjaaGreatDoor
open Go
theorem UH:Tryz.prog.mayEnter=true:=by kernel_rfl
end Go.Proofs.YtkkihplpglchjaaGreatDoor
