/-
  A fact over the whole program, by itself: may enter.
-/
import Derived.Test.YtkdilmleinnfiaaGreatDoorPart22
import Derived.Test.YtkdilmleinnfiaaGreatDoorRows
import Derived.JoinedCond
import Derived.KernelRfl
set_option linter.constructorNameAsVariable false
set_option linter.unusedSectionVars false
set_option linter.unusedSimpArgs false
set_option linter.unusedVariables false
namespace Go.Proofs.YtkdilmleinnfiaaGreatDoor
open Go
theorem Nl:Tryz.prog.mayEnter=true:=by kernel_rfl
end Go.Proofs.YtkdilmleinnfiaaGreatDoor
