/-
  The facts of the row FnVerifyWeakest, all together.
-/
import Derived.Test.YtdipaikojjjebaaGreatDoorPart12
set_option linter.all false
namespace Go.Proofs.YtdipaikojjjebaaGreatDoor.FnVerifyWeakest
open Go Go.Am Go.ChangeShapes Go.WideShapes Go.ChangeAt Go.RowKit
theorem EB{a b:Bool}(h:a=true)(g:b=true):(a && b)=true:=by rw[h,g];rfl
theorem closed:joinedFacts Tryz.prog 8 Tryz.f8 (OpenSpec.ofChange Rows.fnVerifyWeakestSpec).bare Rows.fnVerifyWeakestRow=true:=by
 unfold joinedFacts
 exact EB (EB (EB (EB (EB (EB (EB (EB (EB (EB (EB (EB (EB (EB (EB (EB (EB (EB (EB (EB (EB (EB (EB (EB (EB (EB (EB (EB (EB (EB (EB ((by kernel_rfl)) laidOut) Su) (by kernel_rfl)) (by kernel_rfl)) (by kernel_rfl)) dA) (by kernel_rfl)) dw) tU) tV) tW) tY) (by kernel_rfl)) (by kernel_rfl)) (by kernel_rfl)) (by kernel_rfl)) (by kernel_rfl)) (by kernel_rfl)) (by kernel_rfl)) (by kernel_rfl)) (by kernel_rfl)) Sv) (by kernel_rfl)) dv) Uy) dy) (by have h:=eq_of_beq gF;dsimp only[Rows.fnVerifySafetyRow]at h;dsimp only[Rows.fnVerifyWeakestRow];rw[h];first|exact beq_self_eq_true _|rfl)) (by kernel_rfl)) (by kernel_rfl)) (by kernel_rfl)) (by kernel_rfl)
end Go.Proofs.YtdipaikojjjebaaGreatDoor.FnVerifyWeakest
