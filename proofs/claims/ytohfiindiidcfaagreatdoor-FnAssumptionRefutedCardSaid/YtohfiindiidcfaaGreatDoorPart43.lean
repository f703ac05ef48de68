/-
  The facts of the row FnAssumptionRefuted, all together.
-/
import Derived.Test.YtohfiindiidcfaaGreatDoorPart41
set_option linter.all false
namespace Go.Proofs.YtohfiindiidcfaaGreatDoor.FnAssumptionRefuted
open Go Go.Am Go.ChangeShapes Go.WideShapes Go.ChangeAt Go.RowKit
theorem aAd{a b:Bool}(h:a=true)(g:b=true):(a && b)=true:=by rw [h,g];rfl
theorem closed:joinedFacts Tryz.prog 8 Tryz.f8 (OpenSpec.ofChange Rows.fnAssumptionRefutedSpec).bare Rows.fnAssumptionRefutedRow=true:=by
 unfold joinedFacts
 exact aAd (aAd (aAd (aAd (aAd (aAd (aAd (aAd (aAd (aAd (aAd (aAd (aAd (aAd (aAd (aAd (aAd (aAd (aAd (aAd (aAd (aAd (aAd (aAd (aAd (aAd (aAd (aAd (aAd (aAd (aAd ((by kernel_rfl)) laidOut) eY) (by kernel_rfl)) (by kernel_rfl)) (by kernel_rfl)) jZ) (by kernel_rfl)) jX) k10) k11) k12) k13) (by kernel_rfl)) (by kernel_rfl)) (by kernel_rfl)) (by kernel_rfl)) (by kernel_rfl)) (by kernel_rfl)) (by kernel_rfl)) (by kernel_rfl)) (by kernel_rfl)) eZ) (by kernel_rfl)) jW) fy) jY) (by have h:=eq_of_beq kH;dsimp only [Rows.fnVerifyVerdictRow] at h;dsimp only [Rows.fnAssumptionRefutedRow];rw [h];first|exact beq_self_eq_true _|rfl)) (by kernel_rfl)) (by kernel_rfl)) (by kernel_rfl)) (by kernel_rfl)
end Go.Proofs.YtohfiindiidcfaaGreatDoor.FnAssumptionRefuted
