/-
  The facts of the row FnFaultSound, all together.
-/
import Derived.Test.YtohfiindiidcfaaGreatDoorPart36
set_option linter.all false
namespace Go.Proofs.YtohfiindiidcfaaGreatDoor.FnFaultSound
open Go Go.Am Go.ChangeShapes Go.WideShapes Go.ChangeAt Go.RowKit
theorem aAa{a b:Bool}(h:a=true)(g:b=true):(a && b)=true:=by rw [h,g];rfl
theorem closed:joinedFacts Tryz.prog 10 Tryz.f10 (OpenSpec.ofChange Rows.fnFaultSoundSpec).bare Rows.fnFaultSoundRow=true:=by
 unfold joinedFacts
 exact aAa (aAa (aAa (aAa (aAa (aAa (aAa (aAa (aAa (aAa (aAa (aAa (aAa (aAa (aAa (aAa (aAa (aAa (aAa (aAa (aAa (aAa (aAa (aAa (aAa (aAa (aAa (aAa (aAa (aAa (aAa ((by kernel_rfl)) laidOut) Zq) (by kernel_rfl)) (by kernel_rfl)) (by kernel_rfl)) dP) (by kernel_rfl)) dN) k10) k11) k12) k13) (by kernel_rfl)) (by kernel_rfl)) (by kernel_rfl)) (by kernel_rfl)) (by kernel_rfl)) (by kernel_rfl)) (by kernel_rfl)) (by kernel_rfl)) (by kernel_rfl)) Zr) (by kernel_rfl)) dM) ZH) dO) (by have h:=eq_of_beq eu;dsimp only [Rows.fnVerifyVerdictRow] at h;dsimp only [Rows.fnFaultSoundRow];rw [h];first|exact beq_self_eq_true _|rfl)) (by kernel_rfl)) (by kernel_rfl)) (by kernel_rfl)) (by kernel_rfl)
end Go.Proofs.YtohfiindiidcfaaGreatDoor.FnFaultSound
