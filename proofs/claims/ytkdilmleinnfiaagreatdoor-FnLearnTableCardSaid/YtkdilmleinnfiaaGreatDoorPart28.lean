/-
  The row FnLearnTable: no goroutine is started.
-/
import Derived.Test.YtkdilmleinnfiaaGreatDoorPart27
import Derived.Test.YtkdilmleinnfiaaGreatDoorCards
import Derived.JoinedCond
import Derived.KernelRfl
set_option linter.constructorNameAsVariable false
set_option linter.unusedSectionVars false
set_option linter.unusedSimpArgs false
set_option linter.unusedVariables false
namespace Go.Proofs.YtkdilmleinnfiaaGreatDoor.FnLearnTable
open Go
theorem goes:false=Rows.fnLearnTableRow.goesBy Tryz.prog:=by kernel_rfl
end Go.Proofs.YtkdilmleinnfiaaGreatDoor.FnLearnTable
