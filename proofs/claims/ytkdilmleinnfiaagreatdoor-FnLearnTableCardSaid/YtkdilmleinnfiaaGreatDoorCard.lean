/-
  The law laws.FnLearnTable answers true at every input that can be read, and leaves its arguments as they were.
  Conditions: none but the row's own: the tables that it lists hold what the program's text lays into them.
-/
import Derived.Test.YtkdilmleinnfiaaGreatDoorPart9
import Derived.Test.YtkdilmleinnfiaaGreatDoorPart22
import Derived.Test.YtkdilmleinnfiaaGreatDoorPart27
import Derived.Test.YtkdilmleinnfiaaGreatDoorPart28
import Derived.Test.YtkdilmleinnfiaaGreatDoorPart29
set_option linter.constructorNameAsVariable false
set_option linter.unusedSectionVars false
set_option linter.unusedSimpArgs false
set_option linter.unusedVariables false
namespace Go.Proofs.YtkdilmleinnfiaaGreatDoor.FnLearnTable
open Go Go.Am Go.ChangeShapes Go.WideShapes Go.ChangeAt Go.RowKit
set_option maxRecDepth 100000 in
theorem dp(H:Type)(enc:TypeId×Value→H)(W:World)(base:Nat)(args:Array Value)(ds gs:List (DataW H))(before:List MemPlace)
 (hval:∀(j:Nat) t v,Tryz.f14.params[j]? = some t→args[j]? = some v→Value.okWide Tryz.prog W .any base t v)
 (hW:DataW.Whole enc Tryz.prog Tryz.f14.params.toList Rows.fnLearnTableSpec.vars false W args.toList ds gs before) :
 Calls Tryz.prog 14 args W fun e W'=>∃v,e=.returned v∧Rows.fnLearnTableSpec.post enc Tryz.prog Tryz.f14 false true false false W args v W':=by
 have hW':=hW
 obtain⟨p,q,hA0,hV,rfl,hfz,hnd⟩:=hW
 have hA:DataW.TrodAll enc Tryz.prog W 0 (fun _=>true) true Tryz.f14.params.toList args.toList ds p:=hA0
 rw [Tryz.params14] at hA hval
 obtain⟨v0,vs0,d0,ds0,p0,q0,hargs,rfl,rfl,h0,r0⟩:=trodAll_cons hA
 obtain⟨rfl,rfl,rfl⟩:=trodAll_nil r0
 obtain rfl:args = #[v0]:=by cases args;simp_all
 obtain⟨rfl,rfl⟩:=trodVars_none hV
 obtain⟨a0,ha0⟩:=ZC Tryz.underlying64 (aZ Tryz.underlying64 (by kernel_rfl) (by decide) (cQ Tryz.underlying5)) (hval 0 _ v0 rfl rfl) h0
 have walk:=XW (f:=14) (W:=W) (TB:=cZ) (hno:=rfl) (vs:=#[v0]) (SO (TB:=cZ) a0) (fun x hx=>by cases hx) ⟨rfl,fun j e v he hv=>by
  match j with
  | 0=>cases he;cases hv;exact ha0
  | j+1=>simp at he⟩
 refine walk.mono fun e W' ⟨he,hg⟩=>?_
 subst he
 exact⟨_,rfl,Zr (tb:=4) laidOut (by kernel_rfl) hW' hg rfl (by kernel_rfl) Tryz.underlying4 rfl rfl⟩
def dn:Array Value:=#[.slice none 0 0]
theorem dq(os:Os):laidMet Tryz.prog Rows.fnLearnTableRow.laid ((Zp os).forCall (fun _ _=>0) ⟨#[],dn,[]⟩).memory:=
 laidMet_of_run' 8 (by kernel_rfl) (by kernel_rfl)
theorem reads(os:Os){H:Type}(enc:TypeId×Value→H):∃ds places,DataW.whole enc Tryz.prog ((Zp os).forCall (fun _ _=>0) ⟨#[],dn,[]⟩).memory Tryz.f14.params.toList Rows.fnLearnTableSpec.vars false dn.toList 8=some (ds,[],places):=
 ⟨[.nil],[],by kernel_rfl⟩
set_option maxRecDepth 100000 in
theorem lifted(os:Os)(started:os.Started)(H:Type)(enc:TypeId×Value→H)(F:Stop.Interp) :
 ReturnsInHanded {} Tryz.checked os 14 .any ((OpenSpec.ofChange Rows.fnLearnTableSpec).preRow enc Tryz.prog Tryz.f14 Rows.fnLearnTableRow.domain false Rows.fnLearnTableRow.laid) (((OpenSpec.ofChange Rows.fnLearnTableSpec).at F).post enc Tryz.prog Tryz.f14 false true false false):=by
 obtain⟨ds,places,hx⟩:=reads os enc
 refine returnsInHanded_of_row (C:=Tryz.checked) (s:=OpenSpec.ofChange Rows.fnLearnTableSpec) own started (by kernel_rfl) Tryz.func14
  (witness_row_at (enc:=enc) (C:=Tryz.checked) false (Zp os) dn rfl (by kernel_rfl) (by kernel_rfl) (by kernel_rfl)
   (OpenSpec.preRow_of_cond 8 hx (by kernel_rfl) (fun k hk=>by cases hk) (by kernel_rfl) (dq os))) ?_
 intro W base args ds gs before hval hW _ _ _ hL _ _
 exact dp H enc W base args ds gs before hval hW
theorem said:Rows.FnLearnTableSaid:=
 OpenClaim.holds_of_cond 14 Tryz.f14 rfl rfl rfl rfl rfl rfl rfl ⟨rfl,rfl,rfl,rfl,rfl⟩ rfl rfl rfl rfl rfl named Tryz.func14 closed inst wrap
  (fun os started H enc _ F=>by rw [OpenClaim.pre_eq_preRow];exact lifted os started H enc F)
theorem plain (f:FuncId) (fn:Func) (hf:Tryz.pinned.checked.prog.funcNamed "loop.example/assumeguarantee/laws.FnLearnTable" = some f) (hfn:Tryz.pinned.checked.prog.funcs[f]? = some fn) :
 false=Tryz.pinned.checked.prog.looks []∧∀(j:Nat) t,fn.params[j]? = some t→Tryz.pinned.checked.prog.wantsStandIn t=false:=by
 obtain rfl:f=14:=Option.some.inj ((show Tryz.prog.funcNamed "loop.example/assumeguarantee/laws.FnLearnTable" = some 14 by kernel_rfl).symm.trans hf) |>.symm
 obtain rfl:fn=Tryz.f14:=(Option.some.inj (Tryz.func14.symm.trans hfn)).symm
 refine⟨by kernel_rfl,fun j t ht=>?_⟩
 rw [Tryz.params14] at ht
 have hm:t∈[64]:=by simpa using Array.mem_of_getElem? ht
 have hall:([64].all fun u=>!Tryz.prog.wantsStandIn u)=true:=by kernel_rfl
 exact(show Tryz.prog.wantsStandIn t=false by simpa using List.all_eq_true.1 hall t hm)
end Go.Proofs.YtkdilmleinnfiaaGreatDoor.FnLearnTable
namespace Go.Proofs.YtkdilmleinnfiaaGreatDoor
open Go
theorem fnLearnTable_card:Rows.FnLearnTableCardSaid:=
 Claim7.holds_tied_plain_at .later [] _ _ _ _ FnLearnTable.said (fun _ h=>by cases h) FnLearnTable.wf (fun _ h=>by cases h) fnLearnTable_row_tie rfl ⟨rfl,rfl⟩ ZN rfl FnLearnTable.plain FnLearnTable.goes
end Go.Proofs.YtkdilmleinnfiaaGreatDoor
