/-
  The facts of the row FnLearnRows that Lean reckons, each by itself; all together.
-/
import Derived.Test.YtainaphkaklkmaaGreatDoorPart27
import Derived.Test.YtainaphkaklkmaaGreatDoorPart8
import Derived.Test.YtainaphkaklkmaaGreatDoorPart22
import Derived.Test.YtainaphkaklkmaaGreatDoorPart23
import Derived.Test.YtainaphkaklkmaaGreatDoorPart24
import Derived.Test.YtainaphkaklkmaaGreatDoorPart25
set_option linter.constructorNameAsVariable false
set_option linter.unusedSimpArgs false
set_option linter.unusedVariables false
namespace Go.Proofs.YtainaphkaklkmaaGreatDoor.FnLearnRows
open Go Go.Am Go.ChangeShapes Go.WideShapes Go.ChangeAt Go.RowKit
theorem k10:((Rows.fnLearnRowsRow.inPlace == Tryz.prog.inPlace 4))=true:=by kernel_rfl
theorem k11:((Rows.fnLearnRowsRow.unfollowed == Tryz.prog.unfollowed 4))=true:=by kernel_rfl
theorem k12:((Rows.fnLearnRowsRow.recurses == Tryz.prog.recurses 4))=true:=by kernel_rfl
theorem k13:((Rows.fnLearnRowsRow.named == Tryz.prog.varsNamed 4))=true:=by kernel_rfl
theorem wf:Rows.fnLearnRowsRow.wfByText (OpenSpec.ofChange Rows.fnLearnRowsSpec)=true:=by kernel_rfl
theorem named:Tryz.prog.funcNamed Rows.fnLearnRowsRow.func=some 4:=by kernel_rfl
theorem inst:Tryz.f4.isInstance Tryz.prog Rows.fnLearnRowsRow.origin Rows.fnLearnRowsRow.targs:=of_decide_eq_true (by kernel_rfl)
theorem wrap:Tryz.f4.isWrapper Tryz.prog Rows.fnLearnRowsRow.wrapper Rows.fnLearnRowsRow.mainSum:=by unfold Func.isWrapper;rw [if_neg (by decide +kernel)];exact ⟨rfl,rfl⟩
end Go.Proofs.YtainaphkaklkmaaGreatDoor.FnLearnRows
