/-
  The facts of the row FnVerifySafety, all together.
-/
import Derived.Test.YtdipaikojjjebaaGreatDoorPart41
set_option linter.all false
namespace Go.Proofs.YtdipaikojjjebaaGreatDoor.FnVerifySafety
open Go Go.Am Go.ChangeShapes Go.WideShapes Go.ChangeAt Go.RowKit
theorem aAb{a b:Bool}(h:a=true)(g:b=true):(a && b)=true:=by rw[h,g];rfl
theorem closed:joinedFacts Tryz.prog 3 Tryz.f3 (OpenSpec.ofChange Rows.fnVerifySafetySpec).bare Rows.fnVerifySafetyRow=true:=by
 unfold joinedFacts
 exact aAb (aAb (aAb (aAb (aAb (aAb (aAb (aAb (aAb (aAb (aAb (aAb (aAb (aAb (aAb (aAb (aAb (aAb (aAb (aAb (aAb (aAb (aAb (aAb (aAb (aAb (aAb (aAb (aAb (aAb (aAb ((by kernel_rfl)) laidOut) fz) (by kernel_rfl)) (by kernel_rfl)) (by kernel_rfl)) kE) (by kernel_rfl)) kC) k10) k11) k12) k13) (by kernel_rfl)) (by kernel_rfl)) (by kernel_rfl)) (by kernel_rfl)) (by kernel_rfl)) (by kernel_rfl)) (by kernel_rfl)) (by kernel_rfl)) (by kernel_rfl)) fB) (by kernel_rfl)) kB) fV) kD) (by have h:=eq_of_beq lu;dsimp only[Rows.fnVerifySafetyRow]at h;dsimp only[Rows.fnVerifySafetyRow];rw[h];first|exact beq_self_eq_true _|rfl)) (by kernel_rfl)) (by kernel_rfl)) (by kernel_rfl)) (by kernel_rfl)
end Go.Proofs.YtdipaikojjjebaaGreatDoor.FnVerifySafety
