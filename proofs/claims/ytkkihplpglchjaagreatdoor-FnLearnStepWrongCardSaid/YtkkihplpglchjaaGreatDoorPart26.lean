/-
  A fact over the whole program, by itself: may enter.
-/
import Derived.Test.YtkkihplpglchjaaGreatDoorPart25
import Derived.Test.YtkkihplpglchjaaGreatDoorRows
import Derived.JoinedCond
import Derived.KernelRfl
set_option linter.constructorNameAsVariable false
set_option linter.unusedSimpArgs false
set_option linter.unusedVariables false
namespace Go.Proofs.YtkkihplpglchjaaGreatDoor
open Go
theorem XS:Tryz.prog.mayEnter=true:=by kernel_rfl
end Go.Proofs.YtkkihplpglchjaaGreatDoor
