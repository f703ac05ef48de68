/-
  The first word that leads to a state: walked.
-/
import Derived.Test.YtgpbfllcjdfelaaGreatDoorPart23
set_option linter.all false
namespace Go.Am
open Go Go.Proofs
set_option maxHeartbeats 1000000
set_option maxRecDepth 4000
attribute [local irreducible] AP BH Lex A4 Al Spec
variable {TB:Bg}
end Go.Am
