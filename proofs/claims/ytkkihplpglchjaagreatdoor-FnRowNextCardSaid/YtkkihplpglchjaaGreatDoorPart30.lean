/-
  The facts of the row FnRowNext, all together.
-/
import Derived.Test.YtkkihplpglchjaaGreatDoorPart29
set_option linter.constructorNameAsVariable false
set_option linter.unusedSimpArgs false
set_option linter.unusedVariables false
namespace Go.Proofs.YtkkihplpglchjaaGreatDoor.FnRowNext
open Go Go.Am Go.ChangeShapes Go.WideShapes Go.ChangeAt Go.RowKit
theorem aJ {a b:Bool} (h:a=true) (g:b=true):(a && b)=true:=by rw [h,g];rfl
theorem closed:joinedFacts Tryz.prog 7 Tryz.f7 (OpenSpec.ofChange Rows.fnRowNextSpec).bare Rows.fnRowNextRow=true:=by
  unfold joinedFacts
  exact aJ (aJ (aJ (aJ (aJ (aJ (aJ (aJ (aJ (aJ (aJ (aJ (aJ (aJ (aJ (aJ (aJ (aJ (aJ (aJ (aJ (aJ (aJ (aJ (aJ (aJ (aJ (aJ (aJ (aJ (aJ ((by kernel_rfl)) laidOut) UJ) (by kernel_rfl)) (by kernel_rfl)) (by kernel_rfl)) XN) (by kernel_rfl)) XL) bm) bn) bp) bq) (by kernel_rfl)) (by kernel_rfl)) (by kernel_rfl)) (by kernel_rfl)) (by kernel_rfl)) (by kernel_rfl)) (by kernel_rfl)) (by kernel_rfl)) (by kernel_rfl)) UK) (by kernel_rfl)) XK) U8) XM) (by have h:=eq_of_beq Yj;dsimp only [Rows.fnTableRowsRow] at h;dsimp only [Rows.fnRowNextRow];rw [h];first|exact beq_self_eq_true _|rfl)) (by kernel_rfl)) (by kernel_rfl)) (by kernel_rfl)) (by kernel_rfl)
end Go.Proofs.YtkkihplpglchjaaGreatDoor.FnRowNext
