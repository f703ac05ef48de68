/-
  A fact over the whole program, by itself: make.
-/
import Derived.Test.YtkdilmleinnfiaaGreatDoorPart24
import Derived.Test.YtkdilmleinnfiaaGreatDoorRows
import Derived.JoinedCond
import Derived.KernelRfl
set_option linter.constructorNameAsVariable false
set_option linter.unusedSectionVars false
set_option linter.unusedSimpArgs false
set_option linter.unusedVariables false
namespace Go.Proofs.YtkdilmleinnfiaaGreatDoor
open Go
theorem Ui:(Tryz.prog.make == some Rows.fnExactAddColumnRow.make)=true:=by kernel_rfl
end Go.Proofs.YtkdilmleinnfiaaGreatDoor
