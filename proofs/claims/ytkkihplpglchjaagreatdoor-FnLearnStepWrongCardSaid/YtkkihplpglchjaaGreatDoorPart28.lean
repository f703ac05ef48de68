/-
  A fact over the whole program, by itself: make.
-/
import Derived.Test.YtkkihplpglchjaaGreatDoorPart27
import Derived.Test.YtkkihplpglchjaaGreatDoorRows
import Derived.JoinedCond
import Derived.KernelRfl
set_option linter.constructorNameAsVariable false
set_option linter.unusedSimpArgs false
set_option linter.unusedVariables false
namespace Go.Proofs.YtkkihplpglchjaaGreatDoor
open Go
theorem aO:(Tryz.prog.make == some Rows.fnTableRowsRow.make)=true:=by kernel_rfl
end Go.Proofs.YtkkihplpglchjaaGreatDoor
