/-
  The facts of the row FnExactVerifyPair, all together.
-/
import Derived.Test.YtbfgijpfhgmepaaGreatDoorPart30
set_option linter.constructorNameAsVariable false
set_option linter.unusedSectionVars false
set_option linter.unusedSimpArgs false
set_option linter.unusedVariables false
namespace Go.Proofs.YtbfgijpfhgmepaaGreatDoor.FnExactVerifyPair
open Go Go.Am Go.ChangeShapes Go.WideShapes Go.ChangeAt Go.RowKit
theorem Ee{a b:Bool}(h:a=true)(g:b=true):(a && b)=true:=by rw [h,g];rfl
theorem closed:joinedFacts Tryz.prog 5 Tryz.f5 (OpenSpec.ofChange Rows.fnExactVerifyPairSpec).bare Rows.fnExactVerifyPairRow=true:=by
 unfold joinedFacts
 exact Ee (Ee (Ee (Ee (Ee (Ee (Ee (Ee (Ee (Ee (Ee (Ee (Ee (Ee (Ee (Ee (Ee (Ee (Ee (Ee (Ee (Ee (Ee (Ee (Ee (Ee (Ee (Ee (Ee (Ee (Ee ((by kernel_rfl)) laidOut) P7) (by kernel_rfl)) (by kernel_rfl)) (by kernel_rfl)) Zo) (by kernel_rfl)) Zm) mV) mW) mY) mZ) (by kernel_rfl)) (by kernel_rfl)) (by kernel_rfl)) (by kernel_rfl)) (by kernel_rfl)) (by kernel_rfl)) (by kernel_rfl)) (by kernel_rfl)) (by kernel_rfl)) P8) (by kernel_rfl)) Zl) Se) Zn) (by have h:=eq_of_beq bz;dsimp only [Rows.fnAssumptionAtRow] at h;dsimp only [Rows.fnExactVerifyPairRow];rw [h];first|exact beq_self_eq_true _|rfl)) (by kernel_rfl)) (by kernel_rfl)) (by kernel_rfl)) (by kernel_rfl)
end Go.Proofs.YtbfgijpfhgmepaaGreatDoor.FnExactVerifyPair
