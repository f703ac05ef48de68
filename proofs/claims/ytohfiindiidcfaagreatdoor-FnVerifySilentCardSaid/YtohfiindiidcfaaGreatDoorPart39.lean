/-
  The facts of the row FnVerifySilent that Lean reckons, each by itself; all together.
-/
import Derived.Test.YtohfiindiidcfaaGreatDoorPart15
import Derived.Test.YtohfiindiidcfaaGreatDoorPart5
import Derived.Test.YtohfiindiidcfaaGreatDoorPart3
import Derived.Test.YtohfiindiidcfaaGreatDoorPart4
set_option linter.all false
namespace Go.Proofs.YtohfiindiidcfaaGreatDoor.FnVerifySilent
open Go Go.Am Go.ChangeShapes Go.WideShapes Go.ChangeAt Go.RowKit
theorem k10:((Rows.fnVerifySilentRow.inPlace == Tryz.prog.inPlace 7))=true:=by kernel_rfl
theorem k11:((Rows.fnVerifySilentRow.unfollowed == Tryz.prog.unfollowed 7))=true:=by kernel_rfl
theorem k12:((Rows.fnVerifySilentRow.recurses == Tryz.prog.recurses 7))=true:=by kernel_rfl
theorem k13:((Rows.fnVerifySilentRow.named == Tryz.prog.varsNamed 7))=true:=by kernel_rfl
theorem wf:Rows.fnVerifySilentRow.wfByText (OpenSpec.ofChange Rows.fnVerifySilentSpec)=true:=by kernel_rfl
theorem named:Tryz.prog.funcNamed Rows.fnVerifySilentRow.func=some 7:=by kernel_rfl
theorem inst:Tryz.f7.isInstance Tryz.prog Rows.fnVerifySilentRow.origin Rows.fnVerifySilentRow.targs:=of_decide_eq_true (by kernel_rfl)
theorem wrap:Tryz.f7.isWrapper Tryz.prog Rows.fnVerifySilentRow.wrapper Rows.fnVerifySilentRow.mainSum:=by unfold Func.isWrapper;rw [if_neg (by decide +kernel)];exact⟨rfl,rfl⟩
end Go.Proofs.YtohfiindiidcfaaGreatDoor.FnVerifySilent
