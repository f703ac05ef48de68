/-
  The row FnExactLearnRounds: no goroutine is started.
-/
import Derived.Test.YtnnalheaipnnaaaGreatDoorPart24
import Derived.Test.YtnnalheaipnnaaaGreatDoorCards
import Derived.JoinedCond
import Derived.KernelRfl
set_option linter.constructorNameAsVariable false
set_option linter.unusedSimpArgs false
set_option linter.unusedVariables false
namespace Go.Proofs.YtnnalheaipnnaaaGreatDoor.FnExactLearnRounds
open Go
theorem goes : false = Rows.fnExactLearnRoundsRow.goesBy Tryz.prog := by kernel_rfl
end Go.Proofs.YtnnalheaipnnaaaGreatDoor.FnExactLearnRounds
