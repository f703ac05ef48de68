/-
  A fact over the whole program, by itself: lifts.
-/
import Derived.Test.YtohfiindiidcfaaGreatDoorPart1
set_option linter.all false
namespace Go.Proofs.YtohfiindiidcfaaGreatDoor
open Go
theorem dO:(Rows.fnVerifyVerdictRow.lifted == Tryz.prog.liftsFinal)=true:=by kernel_rfl
end Go.Proofs.YtohfiindiidcfaaGreatDoor
