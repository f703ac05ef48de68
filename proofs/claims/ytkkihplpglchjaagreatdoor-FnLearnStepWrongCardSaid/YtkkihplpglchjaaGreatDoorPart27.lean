/-
  A fact over the whole program, by itself: lifts.
-/
import Derived.Test.YtkkihplpglchjaaGreatDoorPart26
import Derived.Test.YtkkihplpglchjaaGreatDoorRows
import Derived.JoinedCond
import Derived.KernelRfl
set_option linter.constructorNameAsVariable false
set_option linter.unusedSimpArgs false
set_option linter.unusedVariables false
namespace Go.Proofs.YtkkihplpglchjaaGreatDoor
open Go
theorem Z5:(Rows.fnTableRowsRow.lifted == Tryz.prog.liftsFinal)=true:=by kernel_rfl
end Go.Proofs.YtkkihplpglchjaaGreatDoor
