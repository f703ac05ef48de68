/-
  A fact over the whole program, by itself: make.
-/
import Derived.Test.YtdbppcildogedaaGreatDoorPart23
import Derived.Test.YtdbppcildogedaaGreatDoorRows
import Derived.JoinedCond
import Derived.KernelRfl
set_option linter.constructorNameAsVariable false
set_option linter.unusedSimpArgs false
set_option linter.unusedVariables false
namespace Go.Proofs.YtdbppcildogedaaGreatDoor
open Go
theorem Wq:(Tryz.prog.make == some Rows.fnTableValidRow.make)=true:=by kernel_rfl
end Go.Proofs.YtdbppcildogedaaGreatDoor
