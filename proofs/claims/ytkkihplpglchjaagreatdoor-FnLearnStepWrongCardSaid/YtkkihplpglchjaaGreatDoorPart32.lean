/-
  The facts of the row FnLearnStepWrong, all together.
-/
import Derived.Test.YtkkihplpglchjaaGreatDoorPart31
set_option linter.constructorNameAsVariable false
set_option linter.unusedSimpArgs false
set_option linter.unusedVariables false
namespace Go.Proofs.YtkkihplpglchjaaGreatDoor.FnLearnStepWrong
open Go Go.Am Go.ChangeShapes Go.WideShapes Go.ChangeAt Go.RowKit
theorem dW{a b:Bool}(h:a=true)(g:b=true):(a && b)=true:=by rw [h,g];rfl
theorem closed:joinedFacts Tryz.prog 15 Tryz.f15 (OpenSpec.ofChange Rows.fnLearnStepWrongSpec).bare Rows.fnLearnStepWrongRow=true:=by
 unfold joinedFacts
 exact dW (dW (dW (dW (dW (dW (dW (dW (dW (dW (dW (dW (dW (dW (dW (dW (dW (dW (dW (dW (dW (dW (dW (dW (dW (dW (dW (dW (dW (dW (dW ((by kernel_rfl)) laidOut) Xz) (by kernel_rfl)) (by kernel_rfl)) (by kernel_rfl)) Z6) (by kernel_rfl)) Z4) ei) en) eo) ep) (by kernel_rfl)) (by kernel_rfl)) (by kernel_rfl)) (by kernel_rfl)) (by kernel_rfl)) (by kernel_rfl)) (by kernel_rfl)) (by kernel_rfl)) (by kernel_rfl)) XA) (by kernel_rfl)) Z3) XS) Z5) (by have h:=eq_of_beq aO;dsimp only [Rows.fnTableRowsRow] at h;dsimp only [Rows.fnLearnStepWrongRow];rw [h];first|exact beq_self_eq_true _|rfl)) (by kernel_rfl)) (by kernel_rfl)) (by kernel_rfl)) (by kernel_rfl)
end Go.Proofs.YtkkihplpglchjaaGreatDoor.FnLearnStepWrong
