/-
  The facts of the row FnFaultBetween, all together.
-/
import Derived.Test.YtdipaikojjjebaaGreatDoorPart19
set_option linter.all false
namespace Go.Proofs.YtdipaikojjjebaaGreatDoor.FnFaultBetween
open Go Go.Am Go.ChangeShapes Go.WideShapes Go.ChangeAt Go.RowKit
theorem El{a b:Bool}(h:a=true)(g:b=true):(a && b)=true:=by rw[h,g];rfl
theorem closed:joinedFacts Tryz.prog 7 Tryz.f7 (OpenSpec.ofChange Rows.fnFaultBetweenSpec).bare Rows.fnFaultBetweenRow=true:=by
 unfold joinedFacts
 exact El (El (El (El (El (El (El (El (El (El (El (El (El (El (El (El (El (El (El (El (El (El (El (El (El (El (El (El (El (El (El ((by kernel_rfl)) laidOut) Rn) (by kernel_rfl)) (by kernel_rfl)) (by kernel_rfl)) bA) (by kernel_rfl)) bx) qH) qI) qJ) qK) (by kernel_rfl)) (by kernel_rfl)) (by kernel_rfl)) (by kernel_rfl)) (by kernel_rfl)) (by kernel_rfl)) (by kernel_rfl)) (by kernel_rfl)) (by kernel_rfl)) Ro) (by kernel_rfl)) bu) Th) bz) (by have h:=eq_of_beq ei;dsimp only[Rows.fnVerifySafetyRow]at h;dsimp only[Rows.fnFaultBetweenRow];rw[h];first|exact beq_self_eq_true _|rfl)) (by kernel_rfl)) (by kernel_rfl)) (by kernel_rfl)) (by kernel_rfl)
end Go.Proofs.YtdipaikojjjebaaGreatDoor.FnFaultBetween
