/-
  The law laws.FnExactLearnStep answers true at every input that can be read, and leaves its arguments as they were.
  Conditions: none but the row's own: the tables that it lists hold what the program's text lays into them.
-/
import Derived.Test.YtkdilmleinnfiaaGreatDoorPart28
import Derived.Test.YtkdilmleinnfiaaGreatDoorPart30
import Derived.Test.YtkdilmleinnfiaaGreatDoorPart32
import Derived.Test.YtkdilmleinnfiaaGreatDoorPart33
import Derived.Test.YtkdilmleinnfiaaGreatDoorPart27
set_option linter.constructorNameAsVariable false
set_option linter.unusedSectionVars false
set_option linter.unusedSimpArgs false
set_option linter.unusedVariables false
namespace Go.Proofs.YtkdilmleinnfiaaGreatDoor.FnExactLearnStep
open Go Go.Am Go.ChangeShapes Go.WideShapes Go.ChangeAt Go.RowKit
set_option maxRecDepth 100000 in
theorem jn(H:Type)(enc:TypeId×Value→H)(W:World)(base:Nat)(args:Array Value)(ds gs:List (DataW H))(before:List MemPlace)
 (hval:∀(j:Nat) t v,Tryz.f8.params[j]? = some t→args[j]? = some v→Value.okWide Tryz.prog W .any base t v)
 (hW:DataW.Whole enc Tryz.prog Tryz.f8.params.toList Rows.fnExactLearnStepSpec.vars false W args.toList ds gs before) (hL:laidMetH Tryz.prog Rows.fnExactLearnStepRow.laid W) :
 Calls Tryz.prog 8 args W fun e W'=>∃v,e=.returned v∧Rows.fnExactLearnStepSpec.post enc Tryz.prog Tryz.f8 false true false false W args v W':=by
 have hW':=hW
 obtain⟨p,q,hA0,hV,rfl,hfz,hnd⟩:=hW
 have hA:DataW.TrodAll enc Tryz.prog W 0 (fun _=>true) true Tryz.f8.params.toList args.toList ds p:=hA0
 rw [Tryz.params8] at hA hval
 obtain⟨v0,vs0,d0,ds0,p0,q0,hargs,rfl,rfl,h0,r0⟩:=trodAll_cons hA
 obtain⟨v1,vs1,d1,ds1,p1,q1,rfl,rfl,rfl,h1,r1⟩:=trodAll_cons r0
 obtain⟨v2,vs2,d2,ds2,p2,q2,rfl,rfl,rfl,h2,r2⟩:=trodAll_cons r1
 obtain⟨rfl,rfl,rfl⟩:=trodAll_nil r2
 obtain rfl:args = #[v0,v1,v2]:=by cases args;simp_all
 obtain⟨rfl,rfl⟩:=trodVars_none hV
 obtain⟨a0,ha0⟩:=dT jF (aJ Tryz.underlying32 (hval 0 _ v0 rfl rfl)) h0
 obtain⟨a1,ha1⟩:=dT jE (aJ Tryz.underlying35 (hval 1 _ v1 rfl rfl)) h1
 obtain⟨a2,ha2⟩:=cq Tryz.underlying9 (hval 2 _ v2 rfl rfl) h2
 obtain⟨tabs,hT,htb⟩:=tables hL
 have walk:=ZN (f:=8) (W:=W) (TB:=⟨tabs,none⟩) (hno:=rfl) (vs:=#[v0,v1,v2]) (gL (tabs:=tabs) a0 a1 a2) htb ⟨rfl,fun j e v he hv=>by
  match j with
  | 0=>cases he;cases hv;exact ha0
  | 1=>cases he;cases hv;exact ha1
  | 2=>cases he;cases hv;exact ha2
  | j+3=>simp at he⟩
 refine walk.mono fun e W' ⟨he,hg⟩=>?_
 subst he
 exact⟨_,rfl,bS (tb:=4) laidOut (by kernel_rfl) hW' hg rfl (by kernel_rfl) Tryz.underlying4 rfl rfl⟩
def jb:Array Value:=#[.agg #[.bool false,.int .i64 0,.slice none 0 0,.slice none 0 0,.int .i64 0,.int .i64 0,.slice none 0 0,.int .i64 0,.slice none 0 0,.slice none 0 0,.int .i64 0],.agg #[.slice none 0 0,.slice none 0 0],.string ⟨#[]⟩]
theorem jq(os:Os):laidMet Tryz.prog Rows.fnExactLearnStepRow.laid ((bO os).forCall (fun _ _=>0) ⟨#[],jb,[]⟩).memory:=
 laidMet_of_run' 8 (by kernel_rfl) (by kernel_rfl)
theorem reads(os:Os){H:Type}(enc:TypeId×Value→H):∃ds places,DataW.whole enc Tryz.prog ((bO os).forCall (fun _ _=>0) ⟨#[],jb,[]⟩).memory Tryz.f8.params.toList Rows.fnExactLearnStepSpec.vars false jb.toList 8=some (ds,[],places):=
 ⟨[.agg [.lit (.bool false),.agg [.lit (.int .i64 0),.nil,.nil],.agg [.agg [.lit (.int .i64 0),.lit (.int .i64 0),.nil],.agg [.lit (.int .i64 0),.nil,.nil],.lit (.int .i64 0)]],.agg [.nil,.nil],.lit (.string [])],[],by kernel_rfl⟩
set_option maxRecDepth 100000 in
theorem lifted(os:Os)(started:os.Started)(H:Type)(enc:TypeId×Value→H)(F:Stop.Interp) :
 ReturnsInHanded {} Tryz.checked os 8 .any ((OpenSpec.ofChange Rows.fnExactLearnStepSpec).preRow enc Tryz.prog Tryz.f8 Rows.fnExactLearnStepRow.domain false Rows.fnExactLearnStepRow.laid) (((OpenSpec.ofChange Rows.fnExactLearnStepSpec).at F).post enc Tryz.prog Tryz.f8 false true false false):=by
 obtain⟨ds,places,hx⟩:=reads os enc
 refine returnsInHanded_of_row (C:=Tryz.checked) (s:=OpenSpec.ofChange Rows.fnExactLearnStepSpec) own started (by kernel_rfl) Tryz.func8
  (witness_row_at (enc:=enc) (C:=Tryz.checked) false (bO os) jb rfl (by kernel_rfl) (by kernel_rfl) (by kernel_rfl)
   (OpenSpec.preRow_of_cond 8 hx (by kernel_rfl) (fun k hk=>by cases hk) (by kernel_rfl) (jq os))) ?_
 intro W base args ds gs before hval hW _ _ _ hL _ _
 exact jn H enc W base args ds gs before hval hW hL
theorem said:Rows.FnExactLearnStepSaid:=
 OpenClaim.holds_of_cond 8 Tryz.f8 rfl rfl rfl rfl rfl rfl rfl ⟨rfl,rfl,rfl,rfl,rfl⟩ rfl rfl rfl rfl rfl named Tryz.func8 closed inst wrap
  (fun os started H enc _ F=>by rw [OpenClaim.pre_eq_preRow];exact lifted os started H enc F)
theorem plain (f:FuncId) (fn:Func) (hf:Tryz.pinned.checked.prog.funcNamed "loop.example/assumeguarantee/laws.FnExactLearnStep" = some f) (hfn:Tryz.pinned.checked.prog.funcs[f]? = some fn) :
 false=Tryz.pinned.checked.prog.looks []∧∀(j:Nat) t,fn.params[j]? = some t→Tryz.pinned.checked.prog.wantsStandIn t=false:=by
 obtain rfl:f=8:=Option.some.inj ((show Tryz.prog.funcNamed "loop.example/assumeguarantee/laws.FnExactLearnStep" = some 8 by kernel_rfl).symm.trans hf) |>.symm
 obtain rfl:fn=Tryz.f8:=(Option.some.inj (Tryz.func8.symm.trans hfn)).symm
 refine⟨by kernel_rfl,fun j t ht=>?_⟩
 rw [Tryz.params8] at ht
 have hm:t∈[32,35,9]:=by simpa using Array.mem_of_getElem? ht
 have hall:([32,35,9].all fun u=>!Tryz.prog.wantsStandIn u)=true:=by kernel_rfl
 exact(show Tryz.prog.wantsStandIn t=false by simpa using List.all_eq_true.1 hall t hm)
end Go.Proofs.YtkdilmleinnfiaaGreatDoor.FnExactLearnStep
namespace Go.Proofs.YtkdilmleinnfiaaGreatDoor
open Go
theorem fnExactLearnStep_card:Rows.FnExactLearnStepCardSaid:=
 Claim7.holds_tied_plain_at .later [] _ _ _ _ FnExactLearnStep.said (fun _ h=>by cases h) FnExactLearnStep.wf (fun _ h=>by cases h) fnExactLearnStep_row_tie rfl ⟨rfl,rfl⟩ cC rfl FnExactLearnStep.plain FnExactLearnStep.goes
end Go.Proofs.YtkdilmleinnfiaaGreatDoor
