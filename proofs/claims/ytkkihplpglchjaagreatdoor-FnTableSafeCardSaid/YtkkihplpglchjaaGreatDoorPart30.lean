/-
  The facts of the row FnTableSafe, all together.
-/
import Derived.Test.YtkkihplpglchjaaGreatDoorPart29
set_option linter.constructorNameAsVariable false
set_option linter.unusedSimpArgs false
set_option linter.unusedVariables false
namespace Go.Proofs.YtkkihplpglchjaaGreatDoor.FnTableSafe
open Go Go.Am Go.ChangeShapes Go.WideShapes Go.ChangeAt Go.RowKit
theorem ZY {a b:Bool} (h:a=true) (g:b=true):(a && b)=true:=by rw [h,g];rfl
theorem closed:joinedFacts Tryz.prog 10 Tryz.f10 (OpenSpec.ofChange Rows.fnTableSafeSpec).bare Rows.fnTableSafeRow=true:=by
  unfold joinedFacts
  exact ZY (ZY (ZY (ZY (ZY (ZY (ZY (ZY (ZY (ZY (ZY (ZY (ZY (ZY (ZY (ZY (ZY (ZY (ZY (ZY (ZY (ZY (ZY (ZY (ZY (ZY (ZY (ZY (ZY (ZY (ZY ((by kernel_rfl)) laidOut) Uq) (by kernel_rfl)) (by kernel_rfl)) (by kernel_rfl)) Xp) (by kernel_rfl)) Xn) bL) bM) bN) bO) (by kernel_rfl)) (by kernel_rfl)) (by kernel_rfl)) (by kernel_rfl)) (by kernel_rfl)) (by kernel_rfl)) (by kernel_rfl)) (by kernel_rfl)) (by kernel_rfl)) Ur) (by kernel_rfl)) Xm) UH) Xo) (by have h:=eq_of_beq XT;dsimp only [Rows.fnTableRowsRow] at h;dsimp only [Rows.fnTableSafeRow];rw [h];first|exact beq_self_eq_true _|rfl)) (by kernel_rfl)) (by kernel_rfl)) (by kernel_rfl)) (by kernel_rfl)
end Go.Proofs.YtkkihplpglchjaaGreatDoor.FnTableSafe
