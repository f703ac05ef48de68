/-
  The law laws.FnExactAssumptionAt answers true at every input that can be read, and leaves its arguments as they were.
  Conditions: none but the row's own: the tables that it lists hold what the program's text lays into them.
-/
import Derived.Test.YtbfgijpfhgmepaaGreatDoorPart15
import Derived.Test.YtbfgijpfhgmepaaGreatDoorPart20
import Derived.Test.YtbfgijpfhgmepaaGreatDoorPart27
import Derived.Test.YtbfgijpfhgmepaaGreatDoorPart32
import Derived.Test.YtbfgijpfhgmepaaGreatDoorPart33
import Derived.Test.YtbfgijpfhgmepaaGreatDoorPart34
set_option linter.constructorNameAsVariable false
set_option linter.unusedSectionVars false
set_option linter.unusedSimpArgs false
set_option linter.unusedVariables false
namespace Go.Proofs.YtbfgijpfhgmepaaGreatDoor.FnExactAssumptionAt
open Go Go.Am Go.ChangeShapes Go.WideShapes Go.ChangeAt Go.RowKit
set_option maxRecDepth 100000 in
theorem nF(H:Type)(enc:TypeId×Value→H)(W:World)(base:Nat)(args:Array Value)(ds gs:List (DataW H))(before:List MemPlace)
 (hval:∀(j:Nat) t v,Tryz.f4.params[j]? = some t→args[j]? = some v→Value.okWide Tryz.prog W .any base t v)
 (hW:DataW.Whole enc Tryz.prog Tryz.f4.params.toList Rows.fnExactAssumptionAtSpec.vars false W args.toList ds gs before) (hL:laidMetH Tryz.prog Rows.fnExactAssumptionAtRow.laid W) :
 Calls Tryz.prog 4 args W fun e W'=>∃v,e=.returned v∧Rows.fnExactAssumptionAtSpec.post enc Tryz.prog Tryz.f4 false true false false W args v W':=by
 have hW':=hW
 obtain⟨p,q,hA0,hV,rfl,hfz,hnd⟩:=hW
 have hA:DataW.TrodAll enc Tryz.prog W 0 (fun _=>true) true Tryz.f4.params.toList args.toList ds p:=hA0
 rw [Tryz.params4] at hA hval
 obtain⟨v0,vs0,d0,ds0,p0,q0,hargs,rfl,rfl,h0,r0⟩:=trodAll_cons hA
 obtain⟨v1,vs1,d1,ds1,p1,q1,rfl,rfl,rfl,h1,r1⟩:=trodAll_cons r0
 obtain⟨v2,vs2,d2,ds2,p2,q2,rfl,rfl,rfl,h2,r2⟩:=trodAll_cons r1
 obtain⟨v3,vs3,d3,ds3,p3,q3,rfl,rfl,rfl,h3,r3⟩:=trodAll_cons r2
 obtain⟨rfl,rfl,rfl⟩:=trodAll_nil r3
 obtain rfl:args = #[v0,v1,v2,v3]:=by cases args;simp_all
 obtain⟨rfl,rfl⟩:=trodVars_none hV
 obtain⟨a0,ha0⟩:=lH mS (iY Tryz.underlying43 (hval 0 _ v0 rfl rfl)) h0
 obtain⟨a1,ha1⟩:=lH mS (iY Tryz.underlying43 (hval 1 _ v1 rfl rfl)) h1
 obtain⟨a2,ha2⟩:=lH mR (iY Tryz.underlying44 (hval 2 _ v2 rfl rfl)) h2
 obtain⟨a3,ha3⟩:=jW Tryz.underlying3 (hval 3 _ v3 rfl rfl) h3
 obtain⟨tabs,hT,htb⟩:=tables hL
 have walk:=ij (f:=4) (W:=W) (TB:=⟨tabs,none⟩) (hno:=rfl) (vs:=#[v0,v1,v2,v3]) (QY (tabs:=tabs) a0 a1 a2 a3) htb ⟨rfl,fun j e v he hv=>by
  match j with
  | 0=>cases he;cases hv;exact ha0
  | 1=>cases he;cases hv;exact ha1
  | 2=>cases he;cases hv;exact ha2
  | 3=>cases he;cases hv;exact ha3
  | j+4=>simp at he⟩
 refine walk.mono fun e W' ⟨he,hg⟩=>?_
 subst he
 exact⟨_,rfl,jL (tb:=4) laidOut (by kernel_rfl) hW' hg rfl (by kernel_rfl) Tryz.underlying4 rfl rfl⟩
def nE:Array Value:=#[.agg #[.int .i64 0,.int .i64 0,.slice none 0 0],.agg #[.int .i64 0,.int .i64 0,.slice none 0 0],.agg #[.int .i64 0,.slice none 0 0,.slice none 0 0],.int .i64 0]
theorem nG(os:Os):laidMet Tryz.prog Rows.fnExactAssumptionAtRow.laid ((jI os).forCall (fun _ _=>0) ⟨#[],nE,[]⟩).memory:=
 laidMet_of_run' 8 (by kernel_rfl) (by kernel_rfl)
theorem reads(os:Os){H:Type}(enc:TypeId×Value→H):∃ds places,DataW.whole enc Tryz.prog ((jI os).forCall (fun _ _=>0) ⟨#[],nE,[]⟩).memory Tryz.f4.params.toList Rows.fnExactAssumptionAtSpec.vars false nE.toList 8=some (ds,[],places):=
 ⟨[.agg [.lit (.int .i64 0),.lit (.int .i64 0),.nil],.agg [.lit (.int .i64 0),.lit (.int .i64 0),.nil],.agg [.lit (.int .i64 0),.nil,.nil],.lit (.int .i64 0)],[],by kernel_rfl⟩
set_option maxRecDepth 100000 in
theorem lifted(os:Os)(started:os.Started)(H:Type)(enc:TypeId×Value→H)(F:Stop.Interp) :
 ReturnsInHanded {} Tryz.checked os 4 .any ((OpenSpec.ofChange Rows.fnExactAssumptionAtSpec).preRow enc Tryz.prog Tryz.f4 Rows.fnExactAssumptionAtRow.domain false Rows.fnExactAssumptionAtRow.laid) (((OpenSpec.ofChange Rows.fnExactAssumptionAtSpec).at F).post enc Tryz.prog Tryz.f4 false true false false):=by
 obtain⟨ds,places,hx⟩:=reads os enc
 refine returnsInHanded_of_row (C:=Tryz.checked) (s:=OpenSpec.ofChange Rows.fnExactAssumptionAtSpec) own started (by kernel_rfl) Tryz.func4
  (witness_row_at (enc:=enc) (C:=Tryz.checked) false (jI os) nE rfl (by kernel_rfl) (by kernel_rfl) (by kernel_rfl)
   (OpenSpec.preRow_of_cond 8 hx (by kernel_rfl) (fun k hk=>by cases hk) (by kernel_rfl) (nG os))) ?_
 intro W base args ds gs before hval hW _ _ _ hL _ _
 exact nF H enc W base args ds gs before hval hW hL
theorem said:Rows.FnExactAssumptionAtSaid:=
 OpenClaim.holds_of_cond 4 Tryz.f4 rfl rfl rfl rfl rfl rfl rfl ⟨rfl,rfl,rfl,rfl,rfl⟩ rfl rfl rfl rfl rfl named Tryz.func4 closed inst wrap
  (fun os started H enc _ F=>by rw [OpenClaim.pre_eq_preRow];exact lifted os started H enc F)
theorem plain (f:FuncId) (fn:Func) (hf:Tryz.pinned.checked.prog.funcNamed "loop.example/assumeguarantee/laws.FnExactAssumptionAt" = some f) (hfn:Tryz.pinned.checked.prog.funcs[f]? = some fn) :
 false=Tryz.pinned.checked.prog.looks []∧∀(j:Nat) t,fn.params[j]? = some t→Tryz.pinned.checked.prog.wantsStandIn t=false:=by
 obtain rfl:f=4:=Option.some.inj ((show Tryz.prog.funcNamed "loop.example/assumeguarantee/laws.FnExactAssumptionAt" = some 4 by kernel_rfl).symm.trans hf) |>.symm
 obtain rfl:fn=Tryz.f4:=(Option.some.inj (Tryz.func4.symm.trans hfn)).symm
 refine⟨by kernel_rfl,fun j t ht=>?_⟩
 rw [Tryz.params4] at ht
 have hm:t∈[43,43,44,3]:=by simpa using Array.mem_of_getElem? ht
 have hall:([43,43,44,3].all fun u=>!Tryz.prog.wantsStandIn u)=true:=by kernel_rfl
 exact(show Tryz.prog.wantsStandIn t=false by simpa using List.all_eq_true.1 hall t hm)
end Go.Proofs.YtbfgijpfhgmepaaGreatDoor.FnExactAssumptionAt
namespace Go.Proofs.YtbfgijpfhgmepaaGreatDoor
open Go
theorem fnExactAssumptionAt_card:Rows.FnExactAssumptionAtCardSaid:=
 Claim7.holds_tied_plain_at .later [] _ _ _ _ FnExactAssumptionAt.said (fun _ h=>by cases h) FnExactAssumptionAt.wf (fun _ h=>by cases h) fnExactAssumptionAt_row_tie rfl ⟨rfl,rfl⟩ kj rfl FnExactAssumptionAt.plain FnExactAssumptionAt.goes
end Go.Proofs.YtbfgijpfhgmepaaGreatDoor
