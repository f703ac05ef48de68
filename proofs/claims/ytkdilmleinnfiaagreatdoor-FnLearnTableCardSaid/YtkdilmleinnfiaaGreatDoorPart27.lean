/-
  The facts of the row FnLearnTable, all together.
-/
import Derived.Test.YtkdilmleinnfiaaGreatDoorPart26
set_option linter.constructorNameAsVariable false
set_option linter.unusedSectionVars false
set_option linter.unusedSimpArgs false
set_option linter.unusedVariables false
namespace Go.Proofs.YtkdilmleinnfiaaGreatDoor.FnLearnTable
open Go Go.Am Go.ChangeShapes Go.WideShapes Go.ChangeAt Go.RowKit
theorem CZ{a b:Bool}(h:a=true)(g:b=true):(a && b)=true:=by rw [h,g];rfl
theorem closed:joinedFacts Tryz.prog 14 Tryz.f14 (OpenSpec.ofChange Rows.fnLearnTableSpec).bare Rows.fnLearnTableRow=true:=by
 unfold joinedFacts
 exact CZ (CZ (CZ (CZ (CZ (CZ (CZ (CZ (CZ (CZ (CZ (CZ (CZ (CZ (CZ (CZ (CZ (CZ (CZ (CZ (CZ (CZ (CZ (CZ (CZ (CZ (CZ (CZ (CZ (CZ (CZ ((by kernel_rfl)) laidOut) LR) (by kernel_rfl)) (by kernel_rfl)) (by kernel_rfl)) Sw) (by kernel_rfl)) Su) db) dc) de) df) (by kernel_rfl)) (by kernel_rfl)) (by kernel_rfl)) (by kernel_rfl)) (by kernel_rfl)) (by kernel_rfl)) (by kernel_rfl)) (by kernel_rfl)) (by kernel_rfl)) LU) (by kernel_rfl)) Ss) Nl) Sv) (by have h:=eq_of_beq Ui;dsimp only [Rows.fnExactAddColumnRow] at h;dsimp only [Rows.fnLearnTableRow];rw [h];first|exact beq_self_eq_true _|rfl)) (by kernel_rfl)) (by kernel_rfl)) (by kernel_rfl)) (by kernel_rfl)
end Go.Proofs.YtkdilmleinnfiaaGreatDoor.FnLearnTable
