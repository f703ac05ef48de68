/-
  The facts of the row FnVerifyTraces, all together.
-/
import Derived.Test.YtdipaikojjjebaaGreatDoorPart39
set_option linter.all false
namespace Go.Proofs.YtdipaikojjjebaaGreatDoor.FnVerifyTraces
open Go Go.Am Go.ChangeShapes Go.WideShapes Go.ChangeAt Go.RowKit
theorem aAa{a b:Bool}(h:a=true)(g:b=true):(a && b)=true:=by rw[h,g];rfl
theorem closed:joinedFacts Tryz.prog 6 Tryz.f6 (OpenSpec.ofChange Rows.fnVerifyTracesSpec).bare Rows.fnVerifyTracesRow=true:=by
 unfold joinedFacts
 exact aAa (aAa (aAa (aAa (aAa (aAa (aAa (aAa (aAa (aAa (aAa (aAa (aAa (aAa (aAa (aAa (aAa (aAa (aAa (aAa (aAa (aAa (aAa (aAa (aAa (aAa (aAa (aAa (aAa (aAa (aAa ((by kernel_rfl)) laidOut) bC) (by kernel_rfl)) (by kernel_rfl)) (by kernel_rfl)) gj) (by kernel_rfl)) gh) k10) k11) k12) k13) (by kernel_rfl)) (by kernel_rfl)) (by kernel_rfl)) (by kernel_rfl)) (by kernel_rfl)) (by kernel_rfl)) (by kernel_rfl)) (by kernel_rfl)) (by kernel_rfl)) bE) (by kernel_rfl)) gf) bX) gi) (by have h:=eq_of_beq hX;dsimp only[Rows.fnVerifySafetyRow]at h;dsimp only[Rows.fnVerifyTracesRow];rw[h];first|exact beq_self_eq_true _|rfl)) (by kernel_rfl)) (by kernel_rfl)) (by kernel_rfl)) (by kernel_rfl)
end Go.Proofs.YtdipaikojjjebaaGreatDoor.FnVerifyTraces
