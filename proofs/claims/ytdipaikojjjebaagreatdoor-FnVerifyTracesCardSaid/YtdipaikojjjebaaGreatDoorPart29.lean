/-
  Automata without useless states, and prefix-closed ones: walked.
-/
import Derived.Test.YtdipaikojjjebaaGreatDoorPart26
import Derived.Test.YtdipaikojjjebaaGreatDoorPart25
set_option linter.all false
namespace Go.Am
open Go Go.Proofs
set_option maxHeartbeats 1000000
set_option maxRecDepth 4000
attribute [local irreducible] A1 Cr Lex Bs Aj Spec
variable {TB:BA}
end Go.Am
namespace Go.Am
section
variable {α:Type}[DecidableEq α]
end
section
variable {α:Type}[DecidableEq α]{f:α->Int->Option α}{al:Int}
end
end Go.Am
