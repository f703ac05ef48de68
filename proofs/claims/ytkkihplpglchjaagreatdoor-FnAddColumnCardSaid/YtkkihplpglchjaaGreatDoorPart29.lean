/-
  The facts of the row FnAddColumn that Lean reckons, each by itself; all together.
-/
import Derived.Test.YtkkihplpglchjaaGreatDoorPart28
import Derived.Test.YtkkihplpglchjaaGreatDoorPart9
import Derived.Test.YtkkihplpglchjaaGreatDoorPart23
import Derived.Test.YtkkihplpglchjaaGreatDoorPart24
import Derived.Test.YtkkihplpglchjaaGreatDoorPart25
import Derived.Test.YtkkihplpglchjaaGreatDoorPart26
set_option linter.constructorNameAsVariable false
set_option linter.unusedSimpArgs false
set_option linter.unusedVariables false
namespace Go.Proofs.YtkkihplpglchjaaGreatDoor.FnAddColumn
open Go Go.Am Go.ChangeShapes Go.WideShapes Go.ChangeAt Go.RowKit
theorem bg:((Rows.fnAddColumnRow.inPlace == Tryz.prog.inPlace 6))=true:=by kernel_rfl
theorem bh:((Rows.fnAddColumnRow.unfollowed == Tryz.prog.unfollowed 6))=true:=by kernel_rfl
theorem bj:((Rows.fnAddColumnRow.recurses == Tryz.prog.recurses 6))=true:=by kernel_rfl
theorem bk:((Rows.fnAddColumnRow.named == Tryz.prog.varsNamed 6))=true:=by kernel_rfl
theorem wf:Rows.fnAddColumnRow.wfByText (OpenSpec.ofChange Rows.fnAddColumnSpec)=true:=by kernel_rfl
theorem named:Tryz.prog.funcNamed Rows.fnAddColumnRow.func=some 6:=by kernel_rfl
theorem inst:Tryz.f6.isInstance Tryz.prog Rows.fnAddColumnRow.origin Rows.fnAddColumnRow.targs:=of_decide_eq_true (by kernel_rfl)
theorem wrap:Tryz.f6.isWrapper Tryz.prog Rows.fnAddColumnRow.wrapper Rows.fnAddColumnRow.mainSum:=by unfold Func.isWrapper;rw [if_neg (by decide +kernel)];exact ⟨rfl,rfl⟩
end Go.Proofs.YtkkihplpglchjaaGreatDoor.FnAddColumn
