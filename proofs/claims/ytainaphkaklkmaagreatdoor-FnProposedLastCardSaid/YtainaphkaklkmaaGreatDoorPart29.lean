/-
  The row FnProposedLast: no goroutine is started.
-/
import Derived.Test.YtainaphkaklkmaaGreatDoorPart28
import Derived.Test.YtainaphkaklkmaaGreatDoorCards
import Derived.JoinedCond
import Derived.KernelRfl
set_option linter.constructorNameAsVariable false
set_option linter.unusedSimpArgs false
set_option linter.unusedVariables false
namespace Go.Proofs.YtainaphkaklkmaaGreatDoor.FnProposedLast
open Go
theorem goes:false=Rows.fnProposedLastRow.goesBy Tryz.prog:=by kernel_rfl
end Go.Proofs.YtainaphkaklkmaaGreatDoor.FnProposedLast
