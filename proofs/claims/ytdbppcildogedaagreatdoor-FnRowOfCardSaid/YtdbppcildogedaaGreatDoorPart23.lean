/-
  A fact over the whole program, by itself: lifts.
-/
import Derived.Test.YtdbppcildogedaaGreatDoorPart22
import Derived.Test.YtdbppcildogedaaGreatDoorRows
import Derived.JoinedCond
import Derived.KernelRfl
set_option linter.constructorNameAsVariable false
set_option linter.unusedSimpArgs false
set_option linter.unusedVariables false
namespace Go.Proofs.YtdbppcildogedaaGreatDoor
open Go
theorem VN:(Rows.fnTableValidRow.lifted == Tryz.prog.liftsFinal)=true:=by kernel_rfl
end Go.Proofs.YtdbppcildogedaaGreatDoor
