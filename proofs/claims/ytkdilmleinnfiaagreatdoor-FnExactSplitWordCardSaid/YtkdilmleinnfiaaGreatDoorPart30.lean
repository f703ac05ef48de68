/-
  The facts of the row FnExactSplitWord, all together.
-/
import Derived.Test.YtkdilmleinnfiaaGreatDoorPart29
set_option linter.constructorNameAsVariable false
set_option linter.unusedSectionVars false
set_option linter.unusedSimpArgs false
set_option linter.unusedVariables false
namespace Go.Proofs.YtkdilmleinnfiaaGreatDoor.FnExactSplitWord
open Go Go.Am Go.ChangeShapes Go.WideShapes Go.ChangeAt Go.RowKit
theorem gy{a b:Bool}(h:a=true)(g:b=true):(a && b)=true:=by rw [h,g];rfl
theorem closed:joinedFacts Tryz.prog 4 Tryz.f4 (OpenSpec.ofChange Rows.fnExactSplitWordSpec).bare Rows.fnExactSplitWordRow=true:=by
 unfold joinedFacts
 exact gy (gy (gy (gy (gy (gy (gy (gy (gy (gy (gy (gy (gy (gy (gy (gy (gy (gy (gy (gy (gy (gy (gy (gy (gy (gy (gy (gy (gy (gy (gy ((by kernel_rfl)) laidOut) XO) (by kernel_rfl)) (by kernel_rfl)) (by kernel_rfl)) bM) (by kernel_rfl)) bK) gU) gV) gX) gY) (by kernel_rfl)) (by kernel_rfl)) (by kernel_rfl)) (by kernel_rfl)) (by kernel_rfl)) (by kernel_rfl)) (by kernel_rfl)) (by kernel_rfl)) (by kernel_rfl)) XP) (by kernel_rfl)) bJ) X9) bL) (by have h:=eq_of_beq cD;dsimp only [Rows.fnExactAddColumnRow] at h;dsimp only [Rows.fnExactSplitWordRow];rw [h];first|exact beq_self_eq_true _|rfl)) (by kernel_rfl)) (by kernel_rfl)) (by kernel_rfl)) (by kernel_rfl)
end Go.Proofs.YtkdilmleinnfiaaGreatDoor.FnExactSplitWord
