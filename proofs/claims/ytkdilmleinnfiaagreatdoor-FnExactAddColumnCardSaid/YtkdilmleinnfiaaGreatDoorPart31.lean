/-
  The facts of the row FnExactAddColumn that Lean reckons, each by itself; all together.
-/
import Derived.Test.YtkdilmleinnfiaaGreatDoorPart30
import Derived.Test.YtkdilmleinnfiaaGreatDoorPart9
import Derived.Test.YtkdilmleinnfiaaGreatDoorPart23
import Derived.Test.YtkdilmleinnfiaaGreatDoorPart24
import Derived.Test.YtkdilmleinnfiaaGreatDoorPart25
import Derived.Test.YtkdilmleinnfiaaGreatDoorPart26
set_option linter.constructorNameAsVariable false
set_option linter.unusedSectionVars false
set_option linter.unusedSimpArgs false
set_option linter.unusedVariables false
namespace Go.Proofs.YtkdilmleinnfiaaGreatDoor.FnExactAddColumn
open Go Go.Am Go.ChangeShapes Go.WideShapes Go.ChangeAt Go.RowKit
theorem jI:((Rows.fnExactAddColumnRow.inPlace == Tryz.prog.inPlace 3))=true:=by kernel_rfl
theorem jJ:((Rows.fnExactAddColumnRow.unfollowed == Tryz.prog.unfollowed 3))=true:=by kernel_rfl
theorem jK:((Rows.fnExactAddColumnRow.recurses == Tryz.prog.recurses 3))=true:=by kernel_rfl
theorem jL:((Rows.fnExactAddColumnRow.named == Tryz.prog.varsNamed 3))=true:=by kernel_rfl
theorem wf:Rows.fnExactAddColumnRow.wfByText (OpenSpec.ofChange Rows.fnExactAddColumnSpec)=true:=by kernel_rfl
theorem named:Tryz.prog.funcNamed Rows.fnExactAddColumnRow.func=some 3:=by kernel_rfl
theorem inst:Tryz.f3.isInstance Tryz.prog Rows.fnExactAddColumnRow.origin Rows.fnExactAddColumnRow.targs:=of_decide_eq_true (by kernel_rfl)
theorem wrap:Tryz.f3.isWrapper Tryz.prog Rows.fnExactAddColumnRow.wrapper Rows.fnExactAddColumnRow.mainSum:=by unfold Func.isWrapper;rw [if_neg (by decide +kernel)];exact⟨rfl,rfl⟩
end Go.Proofs.YtkdilmleinnfiaaGreatDoor.FnExactAddColumn
