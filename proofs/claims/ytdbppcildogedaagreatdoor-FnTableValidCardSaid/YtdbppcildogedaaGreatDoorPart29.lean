/-
  The facts of the row FnTableValid, all together.
-/
import Derived.Test.YtdbppcildogedaaGreatDoorPart28
set_option linter.constructorNameAsVariable false
set_option linter.unusedSimpArgs false
set_option linter.unusedVariables false
namespace Go.Proofs.YtdbppcildogedaaGreatDoor.FnTableValid
open Go Go.Am Go.ChangeShapes Go.WideShapes Go.ChangeAt Go.RowKit
theorem and2 {a b:Bool} (h:a=true) (g:b=true):(a && b)=true:=by rw [h,g];rfl
theorem closed:joinedFacts Tryz.prog 3 Tryz.f3 (OpenSpec.ofChange Rows.fnTableValidSpec).bare Rows.fnTableValidRow=true:=by
  unfold joinedFacts
  exact and2 (and2 (and2 (and2 (and2 (and2 (and2 (and2 (and2 (and2 (and2 (and2 (and2 (and2 (and2 (and2 (and2 (and2 (and2 (and2 (and2 (and2 (and2 (and2 (and2 (and2 (and2 (and2 (and2 (and2 (and2 ((by kernel_rfl)) laidOut) factMapsRowed) (by kernel_rfl)) (by kernel_rfl)) (by kernel_rfl)) factStops) (by kernel_rfl)) factKnobs) k10) k11) k12) k13) (by kernel_rfl)) (by kernel_rfl)) (by kernel_rfl)) (by kernel_rfl)) (by kernel_rfl)) (by kernel_rfl)) (by kernel_rfl)) (by kernel_rfl)) (by kernel_rfl)) factPlainKeys) (by kernel_rfl)) factHeard) factMayEnter) factLifts) (by have h:=eq_of_beq factMake;dsimp only [Rows.fnTableValidRow] at h;dsimp only [Rows.fnTableValidRow];rw [h];first|exact beq_self_eq_true _|rfl)) (by kernel_rfl)) (by kernel_rfl)) (by kernel_rfl)) (by kernel_rfl)
end Go.Proofs.YtdbppcildogedaaGreatDoor.FnTableValid
