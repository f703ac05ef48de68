/-
  The facts of the row FnAssumptionRefuted that Lean reckons, each by itself; all together.
-/
import Derived.Test.YtohfiindiidcfaaGreatDoorPart15
import Derived.Test.YtohfiindiidcfaaGreatDoorPart5
import Derived.Test.YtohfiindiidcfaaGreatDoorPart3
import Derived.Test.YtohfiindiidcfaaGreatDoorPart4
set_option linter.all false
namespace Go.Proofs.YtohfiindiidcfaaGreatDoor.FnAssumptionRefuted
open Go Go.Am Go.ChangeShapes Go.WideShapes Go.ChangeAt Go.RowKit
theorem k10:((Rows.fnAssumptionRefutedRow.inPlace == Tryz.prog.inPlace 8))=true:=by kernel_rfl
theorem k11:((Rows.fnAssumptionRefutedRow.unfollowed == Tryz.prog.unfollowed 8))=true:=by kernel_rfl
theorem k12:((Rows.fnAssumptionRefutedRow.recurses == Tryz.prog.recurses 8))=true:=by kernel_rfl
theorem k13:((Rows.fnAssumptionRefutedRow.named == Tryz.prog.varsNamed 8))=true:=by kernel_rfl
theorem wf:Rows.fnAssumptionRefutedRow.wfByText (OpenSpec.ofChange Rows.fnAssumptionRefutedSpec)=true:=by kernel_rfl
theorem named:Tryz.prog.funcNamed Rows.fnAssumptionRefutedRow.func=some 8:=by kernel_rfl
theorem inst:Tryz.f8.isInstance Tryz.prog Rows.fnAssumptionRefutedRow.origin Rows.fnAssumptionRefutedRow.targs:=of_decide_eq_true (by kernel_rfl)
theorem wrap:Tryz.f8.isWrapper Tryz.prog Rows.fnAssumptionRefutedRow.wrapper Rows.fnAssumptionRefutedRow.mainSum:=by unfold Func.isWrapper;rw [if_neg (by decide +kernel)];exact⟨rfl,rfl⟩
end Go.Proofs.YtohfiindiidcfaaGreatDoor.FnAssumptionRefuted
