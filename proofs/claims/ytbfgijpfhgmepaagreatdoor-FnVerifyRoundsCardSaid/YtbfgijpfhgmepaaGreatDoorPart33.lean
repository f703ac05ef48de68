/-
  The facts of the row FnVerifyRounds, all together.
-/
import Derived.Test.YtbfgijpfhgmepaaGreatDoorPart32
set_option linter.constructorNameAsVariable false
set_option linter.unusedSectionVars false
set_option linter.unusedSimpArgs false
set_option linter.unusedVariables false
namespace Go.Proofs.YtbfgijpfhgmepaaGreatDoor.FnVerifyRounds
open Go Go.Am Go.ChangeShapes Go.WideShapes Go.ChangeAt Go.RowKit
theorem En{a b:Bool}(h:a=true)(g:b=true):(a && b)=true:=by rw [h,g];rfl
theorem closed:joinedFacts Tryz.prog 6 Tryz.f6 (OpenSpec.ofChange Rows.fnVerifyRoundsSpec).bare Rows.fnVerifyRoundsRow=true:=by
 unfold joinedFacts
 exact En (En (En (En (En (En (En (En (En (En (En (En (En (En (En (En (En (En (En (En (En (En (En (En (En (En (En (En (En (En (En ((by kernel_rfl)) laidOut) P0) (by kernel_rfl)) (by kernel_rfl)) (by kernel_rfl)) Zb) (by kernel_rfl)) Y9) mP) mQ) mR) mS) (by kernel_rfl)) (by kernel_rfl)) (by kernel_rfl)) (by kernel_rfl)) (by kernel_rfl)) (by kernel_rfl)) (by kernel_rfl)) (by kernel_rfl)) (by kernel_rfl)) P4) (by kernel_rfl)) Y8) RX) Za) (by have h:=eq_of_beq br;dsimp only [Rows.fnAssumptionAtRow] at h;dsimp only [Rows.fnVerifyRoundsRow];rw [h];first|exact beq_self_eq_true _|rfl)) (by kernel_rfl)) (by kernel_rfl)) (by kernel_rfl)) (by kernel_rfl)
end Go.Proofs.YtbfgijpfhgmepaaGreatDoor.FnVerifyRounds
