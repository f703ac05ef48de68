/-
  A fact over the whole program, by itself: make.
-/
import Derived.Test.YtnnalheaipnnaaaGreatDoorPart21
import Derived.Test.YtnnalheaipnnaaaGreatDoorRows
import Derived.JoinedCond
import Derived.KernelRfl
set_option linter.constructorNameAsVariable false
set_option linter.unusedSimpArgs false
set_option linter.unusedVariables false
namespace Go.Proofs.YtnnalheaipnnaaaGreatDoor
open Go
theorem factMake : (Tryz.prog.make == some Rows.fnExactLearnRoundsRow.make) = true := by kernel_rfl
end Go.Proofs.YtnnalheaipnnaaaGreatDoor
