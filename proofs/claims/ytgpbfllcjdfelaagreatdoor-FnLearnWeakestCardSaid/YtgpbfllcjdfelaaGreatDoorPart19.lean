/-
  The facts of the row FnLearnWeakest, all together.
-/
import Derived.Test.YtgpbfllcjdfelaaGreatDoorPart18
set_option linter.all false
namespace Go.Proofs.YtgpbfllcjdfelaaGreatDoor.FnLearnWeakest
open Go Go.Am Go.ChangeShapes Go.WideShapes Go.ChangeAt Go.RowKit
theorem DF{a b:Bool}(h:a=true)(g:b=true):(a && b)=true:=by rw [h,g];rfl
theorem closed:joinedFacts Tryz.prog 10 Tryz.f10 (OpenSpec.ofChange Rows.fnLearnWeakestSpec).bare Rows.fnLearnWeakestRow=true:=by
 unfold joinedFacts
 exact DF (DF (DF (DF (DF (DF (DF (DF (DF (DF (DF (DF (DF (DF (DF (DF (DF (DF (DF (DF (DF (DF (DF (DF (DF (DF (DF (DF (DF (DF (DF ((by kernel_rfl)) laidOut) Ox) (by kernel_rfl)) (by kernel_rfl)) (by kernel_rfl)) Xu) (by kernel_rfl)) Xs) mM) mN) mO) mP) (by kernel_rfl)) (by kernel_rfl)) (by kernel_rfl)) (by kernel_rfl)) (by kernel_rfl)) (by kernel_rfl)) (by kernel_rfl)) (by kernel_rfl)) (by kernel_rfl)) Oy) (by kernel_rfl)) Xr) Qn) Xt) (by have h:=eq_of_beq ZL;dsimp only [Rows.fnAssumptionAtRow] at h;dsimp only [Rows.fnLearnWeakestRow];rw [h];first|exact beq_self_eq_true _|rfl)) (by kernel_rfl)) (by kernel_rfl)) (by kernel_rfl)) (by kernel_rfl)
end Go.Proofs.YtgpbfllcjdfelaaGreatDoor.FnLearnWeakest
