/-
  A fact over the whole program, by itself: lifts.
-/
import Derived.Test.YtdipaikojjjebaaGreatDoorPart1
set_option linter.all false
namespace Go.Proofs.YtdipaikojjjebaaGreatDoor
open Go
theorem dy:(Rows.fnVerifySafetyRow.lifted == Tryz.prog.liftsFinal)=true:=by kernel_rfl
end Go.Proofs.YtdipaikojjjebaaGreatDoor
