/-
  The facts of the row FnVerifyFails, all together.
-/
import Derived.Test.YtohfiindiidcfaaGreatDoorPart41
set_option linter.all false
namespace Go.Proofs.YtohfiindiidcfaaGreatDoor.FnVerifyFails
open Go Go.Am Go.ChangeShapes Go.WideShapes Go.ChangeAt Go.RowKit
theorem aAa{a b:Bool}(h:a=true)(g:b=true):(a && b)=true:=by rw [h,g];rfl
theorem closed:joinedFacts Tryz.prog 11 Tryz.f11 (OpenSpec.ofChange Rows.fnVerifyFailsSpec).bare Rows.fnVerifyFailsRow=true:=by
 unfold joinedFacts
 exact aAa (aAa (aAa (aAa (aAa (aAa (aAa (aAa (aAa (aAa (aAa (aAa (aAa (aAa (aAa (aAa (aAa (aAa (aAa (aAa (aAa (aAa (aAa (aAa (aAa (aAa (aAa (aAa (aAa (aAa (aAa ((by kernel_rfl)) laidOut) eY) (by kernel_rfl)) (by kernel_rfl)) (by kernel_rfl)) jZ) (by kernel_rfl)) jX) k10) k11) k12) k13) (by kernel_rfl)) (by kernel_rfl)) (by kernel_rfl)) (by kernel_rfl)) (by kernel_rfl)) (by kernel_rfl)) (by kernel_rfl)) (by kernel_rfl)) (by kernel_rfl)) eZ) (by kernel_rfl)) jW) fy) jY) (by have h:=eq_of_beq kH;dsimp only [Rows.fnVerifyVerdictRow] at h;dsimp only [Rows.fnVerifyFailsRow];rw [h];first|exact beq_self_eq_true _|rfl)) (by kernel_rfl)) (by kernel_rfl)) (by kernel_rfl)) (by kernel_rfl)
end Go.Proofs.YtohfiindiidcfaaGreatDoor.FnVerifyFails
