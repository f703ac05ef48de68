/-
  Languages within one another, plainly.
-/
import Derived.Test.YtdipaikojjjebaaGreatDoorPart28
import Derived.Test.YtdipaikojjjebaaGreatDoorPart31
set_option linter.all false
namespace Go.Am
end Go.Am
