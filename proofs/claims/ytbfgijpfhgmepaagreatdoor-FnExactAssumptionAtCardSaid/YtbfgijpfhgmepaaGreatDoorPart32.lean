/-
  The facts of the row FnExactAssumptionAt, all together.
-/
import Derived.Test.YtbfgijpfhgmepaaGreatDoorPart31
set_option linter.constructorNameAsVariable false
set_option linter.unusedSectionVars false
set_option linter.unusedSimpArgs false
set_option linter.unusedVariables false
namespace Go.Proofs.YtbfgijpfhgmepaaGreatDoor.FnExactAssumptionAt
open Go Go.Am Go.ChangeShapes Go.WideShapes Go.ChangeAt Go.RowKit
theorem Ej{a b:Bool}(h:a=true)(g:b=true):(a && b)=true:=by rw [h,g];rfl
theorem closed:joinedFacts Tryz.prog 4 Tryz.f4 (OpenSpec.ofChange Rows.fnExactAssumptionAtSpec).bare Rows.fnExactAssumptionAtRow=true:=by
 unfold joinedFacts
 exact Ej (Ej (Ej (Ej (Ej (Ej (Ej (Ej (Ej (Ej (Ej (Ej (Ej (Ej (Ej (Ej (Ej (Ej (Ej (Ej (Ej (Ej (Ej (Ej (Ej (Ej (Ej (Ej (Ej (Ej (Ej ((by kernel_rfl)) laidOut) Qi) (by kernel_rfl)) (by kernel_rfl)) (by kernel_rfl)) ZB) (by kernel_rfl)) Zz) nq) nr) nt) nu) (by kernel_rfl)) (by kernel_rfl)) (by kernel_rfl)) (by kernel_rfl)) (by kernel_rfl)) (by kernel_rfl)) (by kernel_rfl)) (by kernel_rfl)) (by kernel_rfl)) Qj) (by kernel_rfl)) Zy) Sp) ZA) (by have h:=eq_of_beq bR;dsimp only [Rows.fnAssumptionAtRow] at h;dsimp only [Rows.fnExactAssumptionAtRow];rw [h];first|exact beq_self_eq_true _|rfl)) (by kernel_rfl)) (by kernel_rfl)) (by kernel_rfl)) (by kernel_rfl)
end Go.Proofs.YtbfgijpfhgmepaaGreatDoor.FnExactAssumptionAt
