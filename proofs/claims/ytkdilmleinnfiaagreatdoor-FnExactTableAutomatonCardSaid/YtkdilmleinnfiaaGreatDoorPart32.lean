/-
  The facts of the row FnExactTableAutomaton, all together.
-/
import Derived.Test.YtkdilmleinnfiaaGreatDoorPart31
set_option linter.constructorNameAsVariable false
set_option linter.unusedSectionVars false
set_option linter.unusedSimpArgs false
set_option linter.unusedVariables false
namespace Go.Proofs.YtkdilmleinnfiaaGreatDoor.FnExactTableAutomaton
open Go Go.Am Go.ChangeShapes Go.WideShapes Go.ChangeAt Go.RowKit
theorem gC{a b:Bool}(h:a=true)(g:b=true):(a && b)=true:=by rw [h,g];rfl
theorem closed:joinedFacts Tryz.prog 6 Tryz.f6 (OpenSpec.ofChange Rows.fnExactTableAutomatonSpec).bare Rows.fnExactTableAutomatonRow=true:=by
 unfold joinedFacts
 exact gC (gC (gC (gC (gC (gC (gC (gC (gC (gC (gC (gC (gC (gC (gC (gC (gC (gC (gC (gC (gC (gC (gC (gC (gC (gC (gC (gC (gC (gC (gC ((by kernel_rfl)) laidOut) XO) (by kernel_rfl)) (by kernel_rfl)) (by kernel_rfl)) bM) (by kernel_rfl)) bK) jF) jG) jH) jI) (by kernel_rfl)) (by kernel_rfl)) (by kernel_rfl)) (by kernel_rfl)) (by kernel_rfl)) (by kernel_rfl)) (by kernel_rfl)) (by kernel_rfl)) (by kernel_rfl)) XP) (by kernel_rfl)) bJ) X9) bL) (by have h:=eq_of_beq cD;dsimp only [Rows.fnExactAddColumnRow] at h;dsimp only [Rows.fnExactTableAutomatonRow];rw [h];first|exact beq_self_eq_true _|rfl)) (by kernel_rfl)) (by kernel_rfl)) (by kernel_rfl)) (by kernel_rfl)
end Go.Proofs.YtkdilmleinnfiaaGreatDoor.FnExactTableAutomaton
