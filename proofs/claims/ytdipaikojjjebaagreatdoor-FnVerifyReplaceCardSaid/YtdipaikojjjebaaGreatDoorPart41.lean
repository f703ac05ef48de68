/-
  The facts of the row FnVerifyReplace, all together.
-/
import Derived.Test.YtdipaikojjjebaaGreatDoorPart39
set_option linter.all false
namespace Go.Proofs.YtdipaikojjjebaaGreatDoor.FnVerifyReplace
open Go Go.Am Go.ChangeShapes Go.WideShapes Go.ChangeAt Go.RowKit
theorem aAa{a b:Bool}(h:a=true)(g:b=true):(a && b)=true:=by rw[h,g];rfl
theorem closed:joinedFacts Tryz.prog 4 Tryz.f4 (OpenSpec.ofChange Rows.fnVerifyReplaceSpec).bare Rows.fnVerifyReplaceRow=true:=by
 unfold joinedFacts
 exact aAa (aAa (aAa (aAa (aAa (aAa (aAa (aAa (aAa (aAa (aAa (aAa (aAa (aAa (aAa (aAa (aAa (aAa (aAa (aAa (aAa (aAa (aAa (aAa (aAa (aAa (aAa (aAa (aAa (aAa (aAa ((by kernel_rfl)) laidOut) bF) (by kernel_rfl)) (by kernel_rfl)) (by kernel_rfl)) gk) (by kernel_rfl)) gi) k10) k11) k12) k13) (by kernel_rfl)) (by kernel_rfl)) (by kernel_rfl)) (by kernel_rfl)) (by kernel_rfl)) (by kernel_rfl)) (by kernel_rfl)) (by kernel_rfl)) (by kernel_rfl)) bG) (by kernel_rfl)) gh) bY) gj) (by have h:=eq_of_beq hY;dsimp only[Rows.fnVerifySafetyRow]at h;dsimp only[Rows.fnVerifyReplaceRow];rw[h];first|exact beq_self_eq_true _|rfl)) (by kernel_rfl)) (by kernel_rfl)) (by kernel_rfl)) (by kernel_rfl)
end Go.Proofs.YtdipaikojjjebaaGreatDoor.FnVerifyReplace
