/-
  The facts of the row FnExactLearnRounds that Lean reckons, each by itself; all together.
-/
import Derived.Test.YtnnalheaipnnaaaGreatDoorPart7
import Derived.Test.YtnnalheaipnnaaaGreatDoorPart19
import Derived.Test.YtnnalheaipnnaaaGreatDoorPart20
import Derived.Test.YtnnalheaipnnaaaGreatDoorPart21
import Derived.Test.YtnnalheaipnnaaaGreatDoorPart22
set_option linter.constructorNameAsVariable false
set_option linter.unusedSimpArgs false
set_option linter.unusedVariables false
namespace Go.Proofs.YtnnalheaipnnaaaGreatDoor.FnExactLearnRounds
open Go Go.Am Go.ChangeShapes Go.WideShapes Go.ChangeAt Go.RowKit
theorem k10 : ((Rows.fnExactLearnRoundsRow.inPlace == Tryz.prog.inPlace 3)) = true := by kernel_rfl
theorem k11 : ((Rows.fnExactLearnRoundsRow.unfollowed == Tryz.prog.unfollowed 3)) = true := by kernel_rfl
theorem k12 : ((Rows.fnExactLearnRoundsRow.recurses == Tryz.prog.recurses 3)) = true := by kernel_rfl
theorem k13 : ((Rows.fnExactLearnRoundsRow.named == Tryz.prog.varsNamed 3)) = true := by kernel_rfl
theorem wf : Rows.fnExactLearnRoundsRow.wfByText (OpenSpec.ofChange Rows.fnExactLearnRoundsSpec) = true := by kernel_rfl
theorem named : Tryz.prog.funcNamed Rows.fnExactLearnRoundsRow.func = some 3 := by kernel_rfl
theorem inst : Tryz.f3.isInstance Tryz.prog Rows.fnExactLearnRoundsRow.origin Rows.fnExactLearnRoundsRow.targs := of_decide_eq_true (by kernel_rfl)
theorem wrap : Tryz.f3.isWrapper Tryz.prog Rows.fnExactLearnRoundsRow.wrapper Rows.fnExactLearnRoundsRow.mainSum := by unfold Func.isWrapper; rw [if_neg (by decide +kernel)]; exact ⟨rfl, rfl⟩
end Go.Proofs.YtnnalheaipnnaaaGreatDoor.FnExactLearnRounds
