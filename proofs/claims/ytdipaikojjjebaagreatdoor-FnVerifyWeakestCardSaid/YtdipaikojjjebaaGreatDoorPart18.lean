/-
  Sizes of tables, tasks and teachers: walked.
-/
import Derived.Test.YtdipaikojjjebaaGreatDoorPart16
import Derived.Test.YtdipaikojjjebaaGreatDoorPart15
set_option linter.all false
namespace Go.Am
open Go Go.Proofs
set_option maxHeartbeats 1000000
set_option maxRecDepth 4000
attribute [local irreducible] A5 CQ Lex BC Al Spec
variable {TB:BB}
end Go.Am
