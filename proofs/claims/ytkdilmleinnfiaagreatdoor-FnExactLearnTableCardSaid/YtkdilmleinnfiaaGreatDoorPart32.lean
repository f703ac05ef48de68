/-
  The facts of the row FnExactLearnTable, all together.
-/
import Derived.Test.YtkdilmleinnfiaaGreatDoorPart31
set_option linter.constructorNameAsVariable false
set_option linter.unusedSectionVars false
set_option linter.unusedSimpArgs false
set_option linter.unusedVariables false
namespace Go.Proofs.YtkdilmleinnfiaaGreatDoor.FnExactLearnTable
open Go Go.Am Go.ChangeShapes Go.WideShapes Go.ChangeAt Go.RowKit
theorem gD{a b:Bool}(h:a=true)(g:b=true):(a && b)=true:=by rw [h,g];rfl
theorem closed:joinedFacts Tryz.prog 11 Tryz.f11 (OpenSpec.ofChange Rows.fnExactLearnTableSpec).bare Rows.fnExactLearnTableRow=true:=by
 unfold joinedFacts
 exact gD (gD (gD (gD (gD (gD (gD (gD (gD (gD (gD (gD (gD (gD (gD (gD (gD (gD (gD (gD (gD (gD (gD (gD (gD (gD (gD (gD (gD (gD (gD ((by kernel_rfl)) laidOut) XO) (by kernel_rfl)) (by kernel_rfl)) (by kernel_rfl)) bM) (by kernel_rfl)) bK) jN) jO) jP) jQ) (by kernel_rfl)) (by kernel_rfl)) (by kernel_rfl)) (by kernel_rfl)) (by kernel_rfl)) (by kernel_rfl)) (by kernel_rfl)) (by kernel_rfl)) (by kernel_rfl)) XP) (by kernel_rfl)) bJ) X9) bL) (by have h:=eq_of_beq cD;dsimp only [Rows.fnExactAddColumnRow] at h;dsimp only [Rows.fnExactLearnTableRow];rw [h];first|exact beq_self_eq_true _|rfl)) (by kernel_rfl)) (by kernel_rfl)) (by kernel_rfl)) (by kernel_rfl)
end Go.Proofs.YtkdilmleinnfiaaGreatDoor.FnExactLearnTable
