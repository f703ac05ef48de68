/-
  The facts of the row FnLearnAutomaton, all together.
-/
import Derived.Test.YtliafogflkcnbaaGreatDoorPart28
set_option linter.constructorNameAsVariable false
set_option linter.unusedSectionVars false
set_option linter.unusedSimpArgs false
set_option linter.unusedVariables false
namespace Go.Proofs.YtliafogflkcnbaaGreatDoor.FnLearnAutomaton
open Go Go.Am Go.ChangeShapes Go.WideShapes Go.ChangeAt Go.RowKit
theorem er{a b:Bool}(h:a=true)(g:b=true):(a && b)=true:=by rw [h,g];rfl
theorem closed:joinedFacts Tryz.prog 14 Tryz.f14 (OpenSpec.ofChange Rows.fnLearnAutomatonSpec).bare Rows.fnLearnAutomatonRow=true:=by
 unfold joinedFacts
 exact er (er (er (er (er (er (er (er (er (er (er (er (er (er (er (er (er (er (er (er (er (er (er (er (er (er (er (er (er (er (er ((by kernel_rfl)) laidOut) WZ) (by kernel_rfl)) (by kernel_rfl)) (by kernel_rfl)) aa) (by kernel_rfl)) Z8) eJ) eK) eL) eM) (by kernel_rfl)) (by kernel_rfl)) (by kernel_rfl)) (by kernel_rfl)) (by kernel_rfl)) (by kernel_rfl)) (by kernel_rfl)) (by kernel_rfl)) (by kernel_rfl)) W0) (by kernel_rfl)) Z7) Xm) Z9) (by have h:=eq_of_beq bf;dsimp only [Rows.fnExactAddColumnRow] at h;dsimp only [Rows.fnLearnAutomatonRow];rw [h];first|exact beq_self_eq_true _|rfl)) (by kernel_rfl)) (by kernel_rfl)) (by kernel_rfl)) (by kernel_rfl)
end Go.Proofs.YtliafogflkcnbaaGreatDoor.FnLearnAutomaton
