/-
  A fact over the whole program, by itself: make.
-/
import Derived.Test.YtohfiindiidcfaaGreatDoorPart1
set_option linter.all false
namespace Go.Proofs.YtohfiindiidcfaaGreatDoor
open Go
theorem eu:(Tryz.prog.make == some Rows.fnVerifyVerdictRow.make)=true:=by kernel_rfl
end Go.Proofs.YtohfiindiidcfaaGreatDoor
