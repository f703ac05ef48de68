/-
  The facts of the row FnLearnSame that Lean reckons, each by itself; all together.
-/
import Derived.Test.YtedfpcdmhbbkmaaGreatDoorPart7
import Derived.Test.YtedfpcdmhbbkmaaGreatDoorPart19
import Derived.Test.YtedfpcdmhbbkmaaGreatDoorPart20
import Derived.Test.YtedfpcdmhbbkmaaGreatDoorPart21
import Derived.Test.YtedfpcdmhbbkmaaGreatDoorPart22
set_option linter.constructorNameAsVariable false
set_option linter.unusedSimpArgs false
set_option linter.unusedVariables false
namespace Go.Proofs.YtedfpcdmhbbkmaaGreatDoor.FnLearnSame
open Go Go.Am Go.ChangeShapes Go.WideShapes Go.ChangeAt Go.RowKit
theorem k10 : ((Rows.fnLearnSameRow.inPlace == Tryz.prog.inPlace 3)) = true := by kernel_rfl
theorem k11 : ((Rows.fnLearnSameRow.unfollowed == Tryz.prog.unfollowed 3)) = true := by kernel_rfl
theorem k12 : ((Rows.fnLearnSameRow.recurses == Tryz.prog.recurses 3)) = true := by kernel_rfl
theorem k13 : ((Rows.fnLearnSameRow.named == Tryz.prog.varsNamed 3)) = true := by kernel_rfl
theorem wf : Rows.fnLearnSameRow.wfByText (OpenSpec.ofChange Rows.fnLearnSameSpec) = true := by kernel_rfl
theorem named : Tryz.prog.funcNamed Rows.fnLearnSameRow.func = some 3 := by kernel_rfl
theorem inst : Tryz.f3.isInstance Tryz.prog Rows.fnLearnSameRow.origin Rows.fnLearnSameRow.targs := of_decide_eq_true (by kernel_rfl)
theorem wrap : Tryz.f3.isWrapper Tryz.prog Rows.fnLearnSameRow.wrapper Rows.fnLearnSameRow.mainSum := by unfold Func.isWrapper; rw [if_neg (by decide +kernel)]; exact ⟨rfl, rfl⟩
end Go.Proofs.YtedfpcdmhbbkmaaGreatDoor.FnLearnSame
