/-
  The law laws.FnExactProposedAt answers true at every input that can be read, and leaves its arguments as they were.
  Conditions: none but the row's own: the tables that it lists hold what the program's text lays into them.
-/
import Derived.Test.YtgpbfllcjdfelaaGreatDoorPart32
import Derived.Test.YtgpbfllcjdfelaaGreatDoorPart31
import Derived.Test.YtgpbfllcjdfelaaGreatDoorPart30
import Derived.Test.YtgpbfllcjdfelaaGreatDoorPart2
set_option linter.all false
namespace Go.Proofs.YtgpbfllcjdfelaaGreatDoor.FnExactProposedAt
open Go Go.Am Go.ChangeShapes Go.WideShapes Go.ChangeAt Go.RowKit
set_option maxRecDepth 100000 in
theorem aAx(H:Type)(enc:TypeId×Value→H)(W:World)(base:Nat)(args:Array Value)(ds gs:List (DataW H))(before:List MemPlace)
 (hval:∀(j:Nat) t v,Tryz.f7.params[j]? = some t→args[j]? = some v→Value.okWide Tryz.prog W .any base t v)
 (hW:DataW.Whole enc Tryz.prog Tryz.f7.params.toList Rows.fnExactProposedAtSpec.vars false W args.toList ds gs before) :
 Calls Tryz.prog 7 args W fun e W'=>∃v,e=.returned v∧Rows.fnExactProposedAtSpec.post enc Tryz.prog Tryz.f7 false true false false W args v W':=by
 have hW':=hW
 obtain⟨p,q,hA0,hV,rfl,hfz,hnd⟩:=hW
 have hA:DataW.TrodAll enc Tryz.prog W 0 (fun _=>true) true Tryz.f7.params.toList args.toList ds p:=hA0
 rw [Tryz.params7] at hA hval
 obtain⟨v0,vs0,d0,ds0,p0,q0,hargs,rfl,rfl,h0,r0⟩:=trodAll_cons hA
 obtain⟨v1,vs1,d1,ds1,p1,q1,rfl,rfl,rfl,h1,r1⟩:=trodAll_cons r0
 obtain⟨rfl,rfl,rfl⟩:=trodAll_nil r1
 obtain rfl:args = #[v0,v1]:=by cases args;simp_all
 obtain⟨rfl,rfl⟩:=trodVars_none hV
 obtain⟨a0,ha0⟩:=Y9 ay (Wz Tryz.underlying56 (hval 0 _ v0 rfl rfl)) h0
 obtain⟨a1,ha1⟩:=aAw Tryz.underlying3 (hval 1 _ v1 rfl rfl) h1
 have walk:=VH (f:=7) (W:=W) (TB:=aM) (hno:=rfl) (vs:=#[v0,v1]) (aAf (TB:=aM) a0 a1) (fun x hx=>by cases hx) ⟨rfl,fun j e v he hv=>by
  match j with
  | 0=>cases he;cases hv;exact ha0
  | 1=>cases he;cases hv;exact ha1
  | j+2=>simp at he⟩
 refine walk.mono fun e W' ⟨he,hg⟩=>?_
 subst he
 exact⟨_,rfl,Xn (tb:=4) laidOut (by kernel_rfl) hW' hg rfl (by kernel_rfl) Tryz.underlying4 rfl rfl⟩
def aAs:Array Value:=#[.agg #[.int .i64 0,.slice none 0 0,.slice none 0 0],.int .i64 0]
theorem aAA(os:Os):laidMet Tryz.prog Rows.fnExactProposedAtRow.laid ((Xl os).forCall (fun _ _=>0) ⟨#[],aAs,[]⟩).memory:=
 laidMet_of_run' 8 (by kernel_rfl) (by kernel_rfl)
theorem reads(os:Os){H:Type}(enc:TypeId×Value→H):∃ds places,DataW.whole enc Tryz.prog ((Xl os).forCall (fun _ _=>0) ⟨#[],aAs,[]⟩).memory Tryz.f7.params.toList Rows.fnExactProposedAtSpec.vars false aAs.toList 8=some (ds,[],places):=
 ⟨[.agg [.lit (.int .i64 0),.nil,.nil],.lit (.int .i64 0)],[],by kernel_rfl⟩
set_option maxRecDepth 100000 in
theorem lifted(os:Os)(started:os.Started)(H:Type)(enc:TypeId×Value→H)(F:Stop.Interp) :
 ReturnsInHanded {} Tryz.checked os 7 .any ((OpenSpec.ofChange Rows.fnExactProposedAtSpec).preRow enc Tryz.prog Tryz.f7 Rows.fnExactProposedAtRow.domain false Rows.fnExactProposedAtRow.laid) (((OpenSpec.ofChange Rows.fnExactProposedAtSpec).at F).post enc Tryz.prog Tryz.f7 false true false false):=by
 obtain⟨ds,places,hx⟩:=reads os enc
 refine returnsInHanded_of_row (C:=Tryz.checked) (s:=OpenSpec.ofChange Rows.fnExactProposedAtSpec) own started (by kernel_rfl) Tryz.func7
  (witness_row_at (enc:=enc) (C:=Tryz.checked) false (Xl os) aAs rfl (by kernel_rfl) (by kernel_rfl) (by kernel_rfl)
   (OpenSpec.preRow_of_cond 8 hx (by kernel_rfl) (fun k hk=>by cases hk) (by kernel_rfl) (aAA os))) ?_
 intro W base args ds gs before hval hW _ _ _ hL _ _
 exact aAx H enc W base args ds gs before hval hW
theorem said:Rows.FnExactProposedAtSaid:=
 OpenClaim.holds_of_cond 7 Tryz.f7 rfl rfl rfl rfl rfl rfl rfl ⟨rfl,rfl,rfl,rfl,rfl⟩ rfl rfl rfl rfl rfl named Tryz.func7 closed inst wrap
  (fun os started H enc _ F=>by rw [OpenClaim.pre_eq_preRow];exact lifted os started H enc F)
theorem plain (f:FuncId) (fn:Func) (hf:Tryz.pinned.checked.prog.funcNamed "loop.example/assumeguarantee/laws.FnExactProposedAt" = some f) (hfn:Tryz.pinned.checked.prog.funcs[f]? = some fn) :
 false=Tryz.pinned.checked.prog.looks []∧∀(j:Nat) t,fn.params[j]? = some t→Tryz.pinned.checked.prog.wantsStandIn t=false:=by
 obtain rfl:f=7:=Option.some.inj ((show Tryz.prog.funcNamed "loop.example/assumeguarantee/laws.FnExactProposedAt" = some 7 by kernel_rfl).symm.trans hf) |>.symm
 obtain rfl:fn=Tryz.f7:=(Option.some.inj (Tryz.func7.symm.trans hfn)).symm
 refine⟨by kernel_rfl,fun j t ht=>?_⟩
 rw [Tryz.params7] at ht
 have hm:t∈[56,3]:=by simpa using Array.mem_of_getElem? ht
 have hall:([56,3].all fun u=>!Tryz.prog.wantsStandIn u)=true:=by kernel_rfl
 exact(show Tryz.prog.wantsStandIn t=false by simpa using List.all_eq_true.1 hall t hm)
end Go.Proofs.YtgpbfllcjdfelaaGreatDoor.FnExactProposedAt
namespace Go.Proofs.YtgpbfllcjdfelaaGreatDoor
open Go
theorem fnExactProposedAt_card:Rows.FnExactProposedAtCardSaid:=
 Claim7.holds_tied_plain_at .later [] _ _ _ _ FnExactProposedAt.said (fun _ h=>by cases h) FnExactProposedAt.wf (fun _ h=>by cases h) fnExactProposedAt_row_tie rfl ⟨rfl,rfl⟩ XI rfl FnExactProposedAt.plain FnExactProposedAt.goes
end Go.Proofs.YtgpbfllcjdfelaaGreatDoor
