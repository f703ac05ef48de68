/-
  A fact over the whole program, by itself: may enter.
-/
import Derived.Test.YtohfiindiidcfaaGreatDoorPart1
set_option linter.all false
namespace Go.Proofs.YtohfiindiidcfaaGreatDoor
open Go
theorem ZH:Tryz.prog.mayEnter=true:=by kernel_rfl
end Go.Proofs.YtohfiindiidcfaaGreatDoor
