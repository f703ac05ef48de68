/-
  The row FnSplitOpens: no goroutine is started.
-/
import Derived.Test.YtkkihplpglchjaaGreatDoorPart32
import Derived.Test.YtkkihplpglchjaaGreatDoorCards
import Derived.JoinedCond
import Derived.KernelRfl
set_option linter.constructorNameAsVariable false
set_option linter.unusedSimpArgs false
set_option linter.unusedVariables false
namespace Go.Proofs.YtkkihplpglchjaaGreatDoor.FnSplitOpens
open Go
theorem goes:false=Rows.fnSplitOpensRow.goesBy Tryz.prog:=by kernel_rfl
end Go.Proofs.YtkkihplpglchjaaGreatDoor.FnSplitOpens
