/-
  What SameLanguage is asked about, drawn: walked.
-/
import Derived.Test.YtohfiindiidcfaaGreatDoorPart25
import Derived.Test.YtohfiindiidcfaaGreatDoorPart26
set_option linter.all false
namespace Go.Am
open Go Go.Proofs
set_option maxHeartbeats 1000000
set_option maxRecDepth 4000
attribute [local irreducible] A8 Cq Lex Br Ai Spec
variable {TB:BA}
end Go.Am
