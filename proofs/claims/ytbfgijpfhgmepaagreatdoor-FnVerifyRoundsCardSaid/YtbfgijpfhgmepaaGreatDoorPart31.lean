/-
  A fact over the whole program, by itself: make.
-/
import Derived.Test.YtbfgijpfhgmepaaGreatDoorPart30
import Derived.Test.YtbfgijpfhgmepaaGreatDoorRows
import Derived.JoinedCond
import Derived.KernelRfl
set_option linter.constructorNameAsVariable false
set_option linter.unusedSectionVars false
set_option linter.unusedSimpArgs false
set_option linter.unusedVariables false
namespace Go.Proofs.YtbfgijpfhgmepaaGreatDoor
open Go
theorem br:(Tryz.prog.make == some Rows.fnAssumptionAtRow.make)=true:=by kernel_rfl
end Go.Proofs.YtbfgijpfhgmepaaGreatDoor
