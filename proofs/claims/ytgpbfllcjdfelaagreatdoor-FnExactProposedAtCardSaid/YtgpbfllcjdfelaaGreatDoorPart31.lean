/-
  The facts of the row FnExactProposedAt, all together.
-/
import Derived.Test.YtgpbfllcjdfelaaGreatDoorPart29
set_option linter.all false
namespace Go.Proofs.YtgpbfllcjdfelaaGreatDoor.FnExactProposedAt
open Go Go.Am Go.ChangeShapes Go.WideShapes Go.ChangeAt Go.RowKit
theorem aAa{a b:Bool}(h:a=true)(g:b=true):(a && b)=true:=by rw [h,g];rfl
theorem closed:joinedFacts Tryz.prog 7 Tryz.f7 (OpenSpec.ofChange Rows.fnExactProposedAtSpec).bare Rows.fnExactProposedAtRow=true:=by
 unfold joinedFacts
 exact aAa (aAa (aAa (aAa (aAa (aAa (aAa (aAa (aAa (aAa (aAa (aAa (aAa (aAa (aAa (aAa (aAa (aAa (aAa (aAa (aAa (aAa (aAa (aAa (aAa (aAa (aAa (aAa (aAa (aAa (aAa ((by kernel_rfl)) laidOut) Ui) (by kernel_rfl)) (by kernel_rfl)) (by kernel_rfl)) Xj) (by kernel_rfl)) Xh) k10) k11) k12) k13) (by kernel_rfl)) (by kernel_rfl)) (by kernel_rfl)) (by kernel_rfl)) (by kernel_rfl)) (by kernel_rfl)) (by kernel_rfl)) (by kernel_rfl)) (by kernel_rfl)) Uj) (by kernel_rfl)) Xg) Uu) Xi) (by have h:=eq_of_beq XJ;dsimp only [Rows.fnAssumptionAtRow] at h;dsimp only [Rows.fnExactProposedAtRow];rw [h];first|exact beq_self_eq_true _|rfl)) (by kernel_rfl)) (by kernel_rfl)) (by kernel_rfl)) (by kernel_rfl)
end Go.Proofs.YtgpbfllcjdfelaaGreatDoor.FnExactProposedAt
