/-
  The facts of the row FnLearnOther that Lean reckons, each by itself; all together.
-/
import Derived.Test.YtainaphkaklkmaaGreatDoorPart27
import Derived.Test.YtainaphkaklkmaaGreatDoorPart8
import Derived.Test.YtainaphkaklkmaaGreatDoorPart22
import Derived.Test.YtainaphkaklkmaaGreatDoorPart23
import Derived.Test.YtainaphkaklkmaaGreatDoorPart24
import Derived.Test.YtainaphkaklkmaaGreatDoorPart25
set_option linter.constructorNameAsVariable false
set_option linter.unusedSimpArgs false
set_option linter.unusedVariables false
namespace Go.Proofs.YtainaphkaklkmaaGreatDoor.FnLearnOther
open Go Go.Am Go.ChangeShapes Go.WideShapes Go.ChangeAt Go.RowKit
theorem k10:((Rows.fnLearnOtherRow.inPlace == Tryz.prog.inPlace 8))=true:=by kernel_rfl
theorem k11:((Rows.fnLearnOtherRow.unfollowed == Tryz.prog.unfollowed 8))=true:=by kernel_rfl
theorem k12:((Rows.fnLearnOtherRow.recurses == Tryz.prog.recurses 8))=true:=by kernel_rfl
theorem k13:((Rows.fnLearnOtherRow.named == Tryz.prog.varsNamed 8))=true:=by kernel_rfl
theorem wf:Rows.fnLearnOtherRow.wfByText (OpenSpec.ofChange Rows.fnLearnOtherSpec)=true:=by kernel_rfl
theorem named:Tryz.prog.funcNamed Rows.fnLearnOtherRow.func=some 8:=by kernel_rfl
theorem inst:Tryz.f8.isInstance Tryz.prog Rows.fnLearnOtherRow.origin Rows.fnLearnOtherRow.targs:=of_decide_eq_true (by kernel_rfl)
theorem wrap:Tryz.f8.isWrapper Tryz.prog Rows.fnLearnOtherRow.wrapper Rows.fnLearnOtherRow.mainSum:=by unfold Func.isWrapper;rw [if_neg (by decide +kernel)];exact ⟨rfl,rfl⟩
end Go.Proofs.YtainaphkaklkmaaGreatDoor.FnLearnOther
