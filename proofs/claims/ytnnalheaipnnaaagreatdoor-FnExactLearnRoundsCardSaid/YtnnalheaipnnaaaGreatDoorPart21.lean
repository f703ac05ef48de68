/-
  A fact over the whole program, by itself: lifts.
-/
import Derived.Test.YtnnalheaipnnaaaGreatDoorPart20
import Derived.Test.YtnnalheaipnnaaaGreatDoorRows
import Derived.JoinedCond
import Derived.KernelRfl
set_option linter.constructorNameAsVariable false
set_option linter.unusedSimpArgs false
set_option linter.unusedVariables false
namespace Go.Proofs.YtnnalheaipnnaaaGreatDoor
open Go
theorem factLifts : (Rows.fnExactLearnRoundsRow.lifted == Tryz.prog.liftsFinal) = true := by kernel_rfl
end Go.Proofs.YtnnalheaipnnaaaGreatDoor
