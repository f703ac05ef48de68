/-
  The facts of the row FnAssumptionAt, all together.
-/
import Derived.Test.YtgpbfllcjdfelaaGreatDoorPart12
set_option linter.all false
namespace Go.Proofs.YtgpbfllcjdfelaaGreatDoor.FnAssumptionAt
open Go Go.Am Go.ChangeShapes Go.WideShapes Go.ChangeAt Go.RowKit
theorem Ey{a b:Bool}(h:a=true)(g:b=true):(a && b)=true:=by rw[h,g];rfl
theorem closed:joinedFacts Tryz.prog 3 Tryz.f3 (OpenSpec.ofChange Rows.fnAssumptionAtSpec).bare Rows.fnAssumptionAtRow=true:=by
 unfold joinedFacts
 exact Ey (Ey (Ey (Ey (Ey (Ey (Ey (Ey (Ey (Ey (Ey (Ey (Ey (Ey (Ey (Ey (Ey (Ey (Ey (Ey (Ey (Ey (Ey (Ey (Ey (Ey (Ey (Ey (Ey (Ey (Ey ((by kernel_rfl)) laidOut) QZ) (by kernel_rfl)) (by kernel_rfl)) (by kernel_rfl)) aI) (by kernel_rfl)) aG) pj) pk) po) pv) (by kernel_rfl)) (by kernel_rfl)) (by kernel_rfl)) (by kernel_rfl)) (by kernel_rfl)) (by kernel_rfl)) (by kernel_rfl)) (by kernel_rfl)) (by kernel_rfl)) Rm) (by kernel_rfl)) aF) Tl) aH) (by have h:=eq_of_beq dD;dsimp only[Rows.fnAssumptionAtRow]at h;dsimp only[Rows.fnAssumptionAtRow];rw[h];first|exact beq_self_eq_true _|rfl)) (by kernel_rfl)) (by kernel_rfl)) (by kernel_rfl)) (by kernel_rfl)
end Go.Proofs.YtgpbfllcjdfelaaGreatDoor.FnAssumptionAt
