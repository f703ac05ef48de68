/-
  A fact over the whole program, by itself: make.
-/
import Derived.Test.YtainaphkaklkmaaGreatDoorPart25
import Derived.Test.YtainaphkaklkmaaGreatDoorRows
import Derived.JoinedCond
import Derived.KernelRfl
set_option linter.constructorNameAsVariable false
set_option linter.unusedSimpArgs false
set_option linter.unusedVariables false
namespace Go.Proofs.YtainaphkaklkmaaGreatDoor
open Go
theorem factMake:(Tryz.prog.make == some Rows.fnLearnTwiceRow.make)=true:=by kernel_rfl
end Go.Proofs.YtainaphkaklkmaaGreatDoor
