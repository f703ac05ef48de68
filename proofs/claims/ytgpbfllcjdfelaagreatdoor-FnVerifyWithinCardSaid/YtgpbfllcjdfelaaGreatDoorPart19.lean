/-
  The facts of the row FnVerifyWithin, all together.
-/
import Derived.Test.YtgpbfllcjdfelaaGreatDoorPart18
set_option linter.all false
namespace Go.Proofs.YtgpbfllcjdfelaaGreatDoor.FnVerifyWithin
open Go Go.Am Go.ChangeShapes Go.WideShapes Go.ChangeAt Go.RowKit
theorem DU{a b:Bool}(h:a=true)(g:b=true):(a && b)=true:=by rw [h,g];rfl
theorem closed:joinedFacts Tryz.prog 8 Tryz.f8 (OpenSpec.ofChange Rows.fnVerifyWithinSpec).bare Rows.fnVerifyWithinRow=true:=by
 unfold joinedFacts
 exact DU (DU (DU (DU (DU (DU (DU (DU (DU (DU (DU (DU (DU (DU (DU (DU (DU (DU (DU (DU (DU (DU (DU (DU (DU (DU (DU (DU (DU (DU (DU ((by kernel_rfl)) laidOut) O4) (by kernel_rfl)) (by kernel_rfl)) (by kernel_rfl)) Xs) (by kernel_rfl)) Xq) k8) k9) lf) lg) (by kernel_rfl)) (by kernel_rfl)) (by kernel_rfl)) (by kernel_rfl)) (by kernel_rfl)) (by kernel_rfl)) (by kernel_rfl)) (by kernel_rfl)) (by kernel_rfl)) O5) (by kernel_rfl)) Xp) QD) Xr) (by have h:=eq_of_beq Zn;dsimp only [Rows.fnAssumptionAtRow] at h;dsimp only [Rows.fnVerifyWithinRow];rw [h];first|exact beq_self_eq_true _|rfl)) (by kernel_rfl)) (by kernel_rfl)) (by kernel_rfl)) (by kernel_rfl)
end Go.Proofs.YtgpbfllcjdfelaaGreatDoor.FnVerifyWithin
