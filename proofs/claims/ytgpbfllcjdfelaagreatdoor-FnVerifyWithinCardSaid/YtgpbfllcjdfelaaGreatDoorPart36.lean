/-
  Sizes of tables, tasks and teachers: walked.
-/
import Derived.Test.YtgpbfllcjdfelaaGreatDoorPart34
import Derived.Test.YtgpbfllcjdfelaaGreatDoorPart33
set_option linter.all false
namespace Go.Am
open Go Go.Proofs
set_option maxHeartbeats 1000000
set_option maxRecDepth 4000
attribute [local irreducible] AW BQ Lex A9 Aj Spec
variable {TB:Bp}
end Go.Am
