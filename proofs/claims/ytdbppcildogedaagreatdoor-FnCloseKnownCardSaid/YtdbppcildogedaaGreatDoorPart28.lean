/-
  The facts of the row FnCloseKnown, all together.
-/
import Derived.Test.YtdbppcildogedaaGreatDoorPart27
set_option linter.constructorNameAsVariable false
set_option linter.unusedSimpArgs false
set_option linter.unusedVariables false
namespace Go.Proofs.YtdbppcildogedaaGreatDoor.FnCloseKnown
open Go Go.Am Go.ChangeShapes Go.WideShapes Go.ChangeAt Go.RowKit
theorem Yw {a b:Bool} (h:a=true) (g:b=true):(a && b)=true:=by rw [h,g];rfl
theorem closed:joinedFacts Tryz.prog 9 Tryz.f9 (OpenSpec.ofChange Rows.fnCloseKnownSpec).bare Rows.fnCloseKnownRow=true:=by
  unfold joinedFacts
  exact Yw (Yw (Yw (Yw (Yw (Yw (Yw (Yw (Yw (Yw (Yw (Yw (Yw (Yw (Yw (Yw (Yw (Yw (Yw (Yw (Yw (Yw (Yw (Yw (Yw (Yw (Yw (Yw (Yw (Yw (Yw ((by kernel_rfl)) laidOut) Tg) (by kernel_rfl)) (by kernel_rfl)) (by kernel_rfl)) VM) (by kernel_rfl)) VK) YF) YG) YH) YI) (by kernel_rfl)) (by kernel_rfl)) (by kernel_rfl)) (by kernel_rfl)) (by kernel_rfl)) (by kernel_rfl)) (by kernel_rfl)) (by kernel_rfl)) (by kernel_rfl)) Th) (by kernel_rfl)) VJ) Tw) VL) (by have h:=eq_of_beq Wm;dsimp only [Rows.fnTableValidRow] at h;dsimp only [Rows.fnCloseKnownRow];rw [h];first|exact beq_self_eq_true _|rfl)) (by kernel_rfl)) (by kernel_rfl)) (by kernel_rfl)) (by kernel_rfl)
end Go.Proofs.YtdbppcildogedaaGreatDoor.FnCloseKnown
