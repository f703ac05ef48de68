/-
  The facts of the row FnLearnTwice that Lean reckons, each by itself; all together.
-/
import Derived.Test.YtainaphkaklkmaaGreatDoorPart27
import Derived.Test.YtainaphkaklkmaaGreatDoorPart8
import Derived.Test.YtainaphkaklkmaaGreatDoorPart22
import Derived.Test.YtainaphkaklkmaaGreatDoorPart23
import Derived.Test.YtainaphkaklkmaaGreatDoorPart24
import Derived.Test.YtainaphkaklkmaaGreatDoorPart25
set_option linter.constructorNameAsVariable false
set_option linter.unusedSimpArgs false
set_option linter.unusedVariables false
namespace Go.Proofs.YtainaphkaklkmaaGreatDoor.FnLearnTwice
open Go Go.Am Go.ChangeShapes Go.WideShapes Go.ChangeAt Go.RowKit
theorem k10:((Rows.fnLearnTwiceRow.inPlace == Tryz.prog.inPlace 3))=true:=by kernel_rfl
theorem k11:((Rows.fnLearnTwiceRow.unfollowed == Tryz.prog.unfollowed 3))=true:=by kernel_rfl
theorem k12:((Rows.fnLearnTwiceRow.recurses == Tryz.prog.recurses 3))=true:=by kernel_rfl
theorem k13:((Rows.fnLearnTwiceRow.named == Tryz.prog.varsNamed 3))=true:=by kernel_rfl
theorem wf:Rows.fnLearnTwiceRow.wfByText (OpenSpec.ofChange Rows.fnLearnTwiceSpec)=true:=by kernel_rfl
theorem named:Tryz.prog.funcNamed Rows.fnLearnTwiceRow.func=some 3:=by kernel_rfl
theorem inst:Tryz.f3.isInstance Tryz.prog Rows.fnLearnTwiceRow.origin Rows.fnLearnTwiceRow.targs:=of_decide_eq_true (by kernel_rfl)
theorem wrap:Tryz.f3.isWrapper Tryz.prog Rows.fnLearnTwiceRow.wrapper Rows.fnLearnTwiceRow.mainSum:=by unfold Func.isWrapper;rw [if_neg (by decide +kernel)];exact ⟨rfl,rfl⟩
end Go.Proofs.YtainaphkaklkmaaGreatDoor.FnLearnTwice
