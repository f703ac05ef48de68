/-
  The facts of the row FnCloseWeakest, all together.
-/
import Derived.Test.YtgpbfllcjdfelaaGreatDoorPart38
set_option linter.all false
namespace Go.Proofs.YtgpbfllcjdfelaaGreatDoor.FnCloseWeakest
open Go Go.Am Go.ChangeShapes Go.WideShapes Go.ChangeAt Go.RowKit
theorem aAa{a b:Bool}(h:a=true)(g:b=true):(a && b)=true:=by rw [h,g];rfl
theorem closed:joinedFacts Tryz.prog 9 Tryz.f9 (OpenSpec.ofChange Rows.fnCloseWeakestSpec).bare Rows.fnCloseWeakestRow=true:=by
 unfold joinedFacts
 exact aAa (aAa (aAa (aAa (aAa (aAa (aAa (aAa (aAa (aAa (aAa (aAa (aAa (aAa (aAa (aAa (aAa (aAa (aAa (aAa (aAa (aAa (aAa (aAa (aAa (aAa (aAa (aAa (aAa (aAa (aAa ((by kernel_rfl)) laidOut) Z0) (by kernel_rfl)) (by kernel_rfl)) (by kernel_rfl)) fi) (by kernel_rfl)) fg) k10) k11) k12) k13) (by kernel_rfl)) (by kernel_rfl)) (by kernel_rfl)) (by kernel_rfl)) (by kernel_rfl)) (by kernel_rfl)) (by kernel_rfl)) (by kernel_rfl)) (by kernel_rfl)) aa) (by kernel_rfl)) ff) aF) fh) (by have h:=eq_of_beq fV;dsimp only [Rows.fnAssumptionAtRow] at h;dsimp only [Rows.fnCloseWeakestRow];rw [h];first|exact beq_self_eq_true _|rfl)) (by kernel_rfl)) (by kernel_rfl)) (by kernel_rfl)) (by kernel_rfl)
end Go.Proofs.YtgpbfllcjdfelaaGreatDoor.FnCloseWeakest
