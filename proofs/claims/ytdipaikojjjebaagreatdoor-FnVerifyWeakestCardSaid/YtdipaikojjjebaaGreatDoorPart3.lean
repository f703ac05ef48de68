/-
  A fact over the whole program, by itself: make.
-/
import Derived.Test.YtdipaikojjjebaaGreatDoorPart1
set_option linter.all false
namespace Go.Proofs.YtdipaikojjjebaaGreatDoor
open Go
theorem gF:(Tryz.prog.make == some Rows.fnVerifySafetyRow.make)=true:=by kernel_rfl
end Go.Proofs.YtdipaikojjjebaaGreatDoor
