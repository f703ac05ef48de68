/-
  The facts of the row FnVerifyHolds, all together.
-/
import Derived.Test.YtohfiindiidcfaaGreatDoorPart39
set_option linter.all false
namespace Go.Proofs.YtohfiindiidcfaaGreatDoor.FnVerifyHolds
open Go Go.Am Go.ChangeShapes Go.WideShapes Go.ChangeAt Go.RowKit
theorem aAa{a b:Bool}(h:a=true)(g:b=true):(a && b)=true:=by rw [h,g];rfl
theorem closed:joinedFacts Tryz.prog 4 Tryz.f4 (OpenSpec.ofChange Rows.fnVerifyHoldsSpec).bare Rows.fnVerifyHoldsRow=true:=by
 unfold joinedFacts
 exact aAa (aAa (aAa (aAa (aAa (aAa (aAa (aAa (aAa (aAa (aAa (aAa (aAa (aAa (aAa (aAa (aAa (aAa (aAa (aAa (aAa (aAa (aAa (aAa (aAa (aAa (aAa (aAa (aAa (aAa (aAa ((by kernel_rfl)) laidOut) fm) (by kernel_rfl)) (by kernel_rfl)) (by kernel_rfl)) kx) (by kernel_rfl)) ku) k10) k11) k12) k13) (by kernel_rfl)) (by kernel_rfl)) (by kernel_rfl)) (by kernel_rfl)) (by kernel_rfl)) (by kernel_rfl)) (by kernel_rfl)) (by kernel_rfl)) (by kernel_rfl)) fo) (by kernel_rfl)) kt) fK) kv) (by have h:=eq_of_beq k9;dsimp only [Rows.fnVerifyVerdictRow] at h;dsimp only [Rows.fnVerifyHoldsRow];rw [h];first|exact beq_self_eq_true _|rfl)) (by kernel_rfl)) (by kernel_rfl)) (by kernel_rfl)) (by kernel_rfl)
end Go.Proofs.YtohfiindiidcfaaGreatDoor.FnVerifyHolds
