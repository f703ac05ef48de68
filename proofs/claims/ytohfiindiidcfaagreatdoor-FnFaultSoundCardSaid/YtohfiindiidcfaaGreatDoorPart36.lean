/-
  The facts of the row FnFaultSound that Lean reckons, each by itself; all together.
-/
import Derived.Test.YtohfiindiidcfaaGreatDoorPart15
import Derived.Test.YtohfiindiidcfaaGreatDoorPart5
import Derived.Test.YtohfiindiidcfaaGreatDoorPart3
import Derived.Test.YtohfiindiidcfaaGreatDoorPart4
set_option linter.all false
namespace Go.Proofs.YtohfiindiidcfaaGreatDoor.FnFaultSound
open Go Go.Am Go.ChangeShapes Go.WideShapes Go.ChangeAt Go.RowKit
theorem k10:((Rows.fnFaultSoundRow.inPlace == Tryz.prog.inPlace 10))=true:=by kernel_rfl
theorem k11:((Rows.fnFaultSoundRow.unfollowed == Tryz.prog.unfollowed 10))=true:=by kernel_rfl
theorem k12:((Rows.fnFaultSoundRow.recurses == Tryz.prog.recurses 10))=true:=by kernel_rfl
theorem k13:((Rows.fnFaultSoundRow.named == Tryz.prog.varsNamed 10))=true:=by kernel_rfl
theorem wf:Rows.fnFaultSoundRow.wfByText (OpenSpec.ofChange Rows.fnFaultSoundSpec)=true:=by kernel_rfl
theorem named:Tryz.prog.funcNamed Rows.fnFaultSoundRow.func=some 10:=by kernel_rfl
theorem inst:Tryz.f10.isInstance Tryz.prog Rows.fnFaultSoundRow.origin Rows.fnFaultSoundRow.targs:=of_decide_eq_true (by kernel_rfl)
theorem wrap:Tryz.f10.isWrapper Tryz.prog Rows.fnFaultSoundRow.wrapper Rows.fnFaultSoundRow.mainSum:=by unfold Func.isWrapper;rw [if_neg (by decide +kernel)];exact⟨rfl,rfl⟩
end Go.Proofs.YtohfiindiidcfaaGreatDoor.FnFaultSound
