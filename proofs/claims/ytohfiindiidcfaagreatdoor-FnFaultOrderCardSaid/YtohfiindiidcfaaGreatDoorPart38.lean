/-
  The facts of the row FnFaultOrder, all together.
-/
import Derived.Test.YtohfiindiidcfaaGreatDoorPart36
set_option linter.all false
namespace Go.Proofs.YtohfiindiidcfaaGreatDoor.FnFaultOrder
open Go Go.Am Go.ChangeShapes Go.WideShapes Go.ChangeAt Go.RowKit
theorem aAa{a b:Bool}(h:a=true)(g:b=true):(a && b)=true:=by rw [h,g];rfl
theorem closed:joinedFacts Tryz.prog 9 Tryz.f9 (OpenSpec.ofChange Rows.fnFaultOrderSpec).bare Rows.fnFaultOrderRow=true:=by
 unfold joinedFacts
 exact aAa (aAa (aAa (aAa (aAa (aAa (aAa (aAa (aAa (aAa (aAa (aAa (aAa (aAa (aAa (aAa (aAa (aAa (aAa (aAa (aAa (aAa (aAa (aAa (aAa (aAa (aAa (aAa (aAa (aAa (aAa ((by kernel_rfl)) laidOut) Zq) (by kernel_rfl)) (by kernel_rfl)) (by kernel_rfl)) dP) (by kernel_rfl)) dN) k10) k11) k12) k13) (by kernel_rfl)) (by kernel_rfl)) (by kernel_rfl)) (by kernel_rfl)) (by kernel_rfl)) (by kernel_rfl)) (by kernel_rfl)) (by kernel_rfl)) (by kernel_rfl)) Zr) (by kernel_rfl)) dM) ZH) dO) (by have h:=eq_of_beq eu;dsimp only [Rows.fnVerifyVerdictRow] at h;dsimp only [Rows.fnFaultOrderRow];rw [h];first|exact beq_self_eq_true _|rfl)) (by kernel_rfl)) (by kernel_rfl)) (by kernel_rfl)) (by kernel_rfl)
end Go.Proofs.YtohfiindiidcfaaGreatDoor.FnFaultOrder
