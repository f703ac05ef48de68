/-
  A fact over the whole program, by itself: may enter.
-/
import Derived.Test.YtliafogflkcnbaaGreatDoorPart22
import Derived.Test.YtliafogflkcnbaaGreatDoorRows
import Derived.JoinedCond
import Derived.KernelRfl
set_option linter.constructorNameAsVariable false
set_option linter.unusedSectionVars false
set_option linter.unusedSimpArgs false
set_option linter.unusedVariables false
namespace Go.Proofs.YtliafogflkcnbaaGreatDoor
open Go
theorem Xm:Tryz.prog.mayEnter=true:=by kernel_rfl
end Go.Proofs.YtliafogflkcnbaaGreatDoor
