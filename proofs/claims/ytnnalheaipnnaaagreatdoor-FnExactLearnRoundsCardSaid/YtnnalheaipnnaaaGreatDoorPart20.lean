/-
  A fact over the whole program, by itself: may enter.
-/
import Derived.Test.YtnnalheaipnnaaaGreatDoorPart19
import Derived.Test.YtnnalheaipnnaaaGreatDoorRows
import Derived.JoinedCond
import Derived.KernelRfl
set_option linter.constructorNameAsVariable false
set_option linter.unusedSimpArgs false
set_option linter.unusedVariables false
namespace Go.Proofs.YtnnalheaipnnaaaGreatDoor
open Go
theorem factMayEnter : Tryz.prog.mayEnter = true := by kernel_rfl
end Go.Proofs.YtnnalheaipnnaaaGreatDoor
