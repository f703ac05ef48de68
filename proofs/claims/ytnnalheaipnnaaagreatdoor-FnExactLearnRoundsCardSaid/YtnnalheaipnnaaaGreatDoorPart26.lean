/-
  A fact over the whole program, by itself: main.
-/
import Derived.Test.YtnnalheaipnnaaaGreatDoorPart25
import Derived.Test.YtnnalheaipnnaaaGreatDoorRows
import Derived.JoinedCond
import Derived.KernelRfl
set_option linter.constructorNameAsVariable false
set_option linter.unusedSimpArgs false
set_option linter.unusedVariables false
namespace Go.Proofs.YtnnalheaipnnaaaGreatDoor
open Go
theorem factMain : Tryz.prog.mainIs = some (true, "60c0ee60ee38d0e5fde83785a7a21bc7baface56fe7aa12716ade74de829cd8d".toList) := by kernel_rfl
end Go.Proofs.YtnnalheaipnnaaaGreatDoor
