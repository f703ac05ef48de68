/-
  The row FnExactTableAutomaton: no goroutine is started.
-/
import Derived.Test.YtkdilmleinnfiaaGreatDoorPart32
import Derived.Test.YtkdilmleinnfiaaGreatDoorCards
import Derived.JoinedCond
import Derived.KernelRfl
set_option linter.constructorNameAsVariable false
set_option linter.unusedSectionVars false
set_option linter.unusedSimpArgs false
set_option linter.unusedVariables false
namespace Go.Proofs.YtkdilmleinnfiaaGreatDoor.FnExactTableAutomaton
open Go
theorem goes:false=Rows.fnExactTableAutomatonRow.goesBy Tryz.prog:=by kernel_rfl
end Go.Proofs.YtkdilmleinnfiaaGreatDoor.FnExactTableAutomaton
