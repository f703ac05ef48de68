/-
  The facts of the row FnRowOf, all together.
-/
import Derived.Test.YtdbppcildogedaaGreatDoorPart27
set_option linter.constructorNameAsVariable false
set_option linter.unusedSimpArgs false
set_option linter.unusedVariables false
namespace Go.Proofs.YtdbppcildogedaaGreatDoor.FnRowOf
open Go Go.Am Go.ChangeShapes Go.WideShapes Go.ChangeAt Go.RowKit
theorem YA {a b:Bool} (h:a=true) (g:b=true):(a && b)=true:=by rw [h,g];rfl
theorem closed:joinedFacts Tryz.prog 7 Tryz.f7 (OpenSpec.ofChange Rows.fnRowOfSpec).bare Rows.fnRowOfRow=true:=by
  unfold joinedFacts
  exact YA (YA (YA (YA (YA (YA (YA (YA (YA (YA (YA (YA (YA (YA (YA (YA (YA (YA (YA (YA (YA (YA (YA (YA (YA (YA (YA (YA (YA (YA (YA ((by kernel_rfl)) laidOut) Tg) (by kernel_rfl)) (by kernel_rfl)) (by kernel_rfl)) VO) (by kernel_rfl)) VM) YI) YJ) YK) YL) (by kernel_rfl)) (by kernel_rfl)) (by kernel_rfl)) (by kernel_rfl)) (by kernel_rfl)) (by kernel_rfl)) (by kernel_rfl)) (by kernel_rfl)) (by kernel_rfl)) Th) (by kernel_rfl)) VL) Tw) VN) (by have h:=eq_of_beq Wq;dsimp only [Rows.fnTableValidRow] at h;dsimp only [Rows.fnRowOfRow];rw [h];first|exact beq_self_eq_true _|rfl)) (by kernel_rfl)) (by kernel_rfl)) (by kernel_rfl)) (by kernel_rfl)
end Go.Proofs.YtdbppcildogedaaGreatDoor.FnRowOf
