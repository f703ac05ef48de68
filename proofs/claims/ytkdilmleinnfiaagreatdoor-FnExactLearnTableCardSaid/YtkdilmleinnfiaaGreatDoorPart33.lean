/-
  The row FnExactLearnTable: no goroutine is started.
-/
import Derived.Test.YtkdilmleinnfiaaGreatDoorPart32
import Derived.Test.YtkdilmleinnfiaaGreatDoorCards
import Derived.JoinedCond
import Derived.KernelRfl
set_option linter.constructorNameAsVariable false
set_option linter.unusedSectionVars false
set_option linter.unusedSimpArgs false
set_option linter.unusedVariables false
namespace Go.Proofs.YtkdilmleinnfiaaGreatDoor.FnExactLearnTable
open Go
theorem goes:false=Rows.fnExactLearnTableRow.goesBy Tryz.prog:=by kernel_rfl
end Go.Proofs.YtkdilmleinnfiaaGreatDoor.FnExactLearnTable
