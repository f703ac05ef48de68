/-
  The law laws.FnVerifyTraces answers true at every input that can be read, and leaves its arguments as they were.
  Conditions: none but the row's own: the tables that it lists hold what the program's text lays into them.
-/
import Derived.Test.YtdipaikojjjebaaGreatDoorPart38
import Derived.Test.YtdipaikojjjebaaGreatDoorPart41
import Derived.Test.YtdipaikojjjebaaGreatDoorPart40
import Derived.Test.YtdipaikojjjebaaGreatDoorPart2
set_option linter.all false
namespace Go.Proofs.YtdipaikojjjebaaGreatDoor.FnVerifyTraces
open Go Go.Am Go.ChangeShapes Go.WideShapes Go.ChangeAt Go.RowKit
set_option maxRecDepth 100000 in
theorem aAe(H:Type)(enc:TypeId×Value→H)(W:World)(base:Nat)(args:Array Value)(ds gs:List (DataW H))(before:List MemPlace)
 (hval:∀(j:Nat) t v,Tryz.f6.params[j]?=some t→args[j]?=some v→Value.okWide Tryz.prog W .any base t v)
 (hW:DataW.Whole enc Tryz.prog Tryz.f6.params.toList Rows.fnVerifyTracesSpec.vars false W args.toList ds gs before) (hL:laidMetH Tryz.prog Rows.fnVerifyTracesRow.laid W) :
 Calls Tryz.prog 6 args W fun e W'=>∃v,e=.returned v∧Rows.fnVerifyTracesSpec.post enc Tryz.prog Tryz.f6 false true false false W args v W':=by
 have hW':=hW
 obtain⟨p,q,hA0,hV,rfl,hfz,hnd⟩:=hW
 have hA:DataW.TrodAll enc Tryz.prog W 0 (fun _=>true) true Tryz.f6.params.toList args.toList ds p:=hA0
 rw[Tryz.params6]at hA hval
 obtain⟨v0,vs0,d0,ds0,p0,q0,hargs,rfl,rfl,h0,r0⟩:=trodAll_cons hA
 obtain⟨v1,vs1,d1,ds1,p1,q1,rfl,rfl,rfl,h1,r1⟩:=trodAll_cons r0
 obtain⟨rfl,rfl,rfl⟩:=trodAll_nil r1
 obtain rfl:args = #[v0,v1]:=by cases args;simp_all
 obtain⟨rfl,rfl⟩:=trodVars_none hV
 obtain⟨a0,ha0⟩:=gO Tryz.underlying22 (jd Tryz.underlying22 (by kernel_rfl) (by decide) (kN Tryz.underlying5)) (hval 0 _ v0 rfl rfl) h0
 obtain⟨a1,ha1⟩:=gO Tryz.underlying22 (jd Tryz.underlying22 (by kernel_rfl) (by decide) (kN Tryz.underlying5)) (hval 1 _ v1 rfl rfl) h1
 obtain⟨tabs,hT,htb⟩:=tables hL
 have walk:=ep (f:=6) (W:=W) (TB:=⟨tabs,none⟩) (hno:=rfl) (vs:=#[v0,v1]) (aAb (tabs:=tabs) a0 a1) htb ⟨rfl,fun j e v he hv=>by
  match j with
  | 0=>cases he;cases hv;exact ha0
  | 1=>cases he;cases hv;exact ha1
  | j+2=>simp at he⟩
 refine walk.mono fun e W' ⟨he,hg⟩=>?_
 subst he
 exact⟨_,rfl,gq (tb:=4) laidOut (by kernel_rfl) hW' hg rfl (by kernel_rfl) Tryz.underlying4 rfl rfl⟩
def aAd:Array Value:=#[.slice none 0 0,.slice none 0 0]
theorem aAf(os:Os):laidMet Tryz.prog Rows.fnVerifyTracesRow.laid ((gm os).forCall (fun _ _=>0) ⟨#[],aAd,[]⟩).memory:=
 laidMet_of_run' 8 (by kernel_rfl) (by kernel_rfl)
theorem reads(os:Os){H:Type}(enc:TypeId×Value→H):∃ds places,DataW.whole enc Tryz.prog ((gm os).forCall (fun _ _=>0) ⟨#[],aAd,[]⟩).memory Tryz.f6.params.toList Rows.fnVerifyTracesSpec.vars false aAd.toList 8=some (ds,[],places):=
 ⟨[.nil,.nil],[],by kernel_rfl⟩
set_option maxRecDepth 100000 in
theorem lifted(os:Os)(started:os.Started)(H:Type)(enc:TypeId×Value→H)(F:Stop.Interp) :
 ReturnsInHanded {} Tryz.checked os 6 .any ((OpenSpec.ofChange Rows.fnVerifyTracesSpec).preRow enc Tryz.prog Tryz.f6 Rows.fnVerifyTracesRow.domain false Rows.fnVerifyTracesRow.laid) (((OpenSpec.ofChange Rows.fnVerifyTracesSpec).at F).post enc Tryz.prog Tryz.f6 false true false false):=by
 obtain⟨ds,places,hx⟩:=reads os enc
 refine returnsInHanded_of_row (C:=Tryz.checked) (s:=OpenSpec.ofChange Rows.fnVerifyTracesSpec) own started (by kernel_rfl) Tryz.func6
  (witness_row_at (enc:=enc) (C:=Tryz.checked) false (gm os) aAd rfl (by kernel_rfl) (by kernel_rfl) (by kernel_rfl)
   (OpenSpec.preRow_of_cond 8 hx (by kernel_rfl) (fun k hk=>by cases hk) (by kernel_rfl) (aAf os))) ?_
 intro W base args ds gs before hval hW _ _ _ hL _ _
 exact aAe H enc W base args ds gs before hval hW hL
theorem said:Rows.FnVerifyTracesSaid:=
 OpenClaim.holds_of_cond 6 Tryz.f6 rfl rfl rfl rfl rfl rfl rfl ⟨rfl,rfl,rfl,rfl,rfl⟩ rfl rfl rfl rfl rfl named Tryz.func6 closed inst wrap
  (fun os started H enc _ F=>by rw[OpenClaim.pre_eq_preRow];exact lifted os started H enc F)
theorem plain (f:FuncId) (fn:Func) (hf:Tryz.pinned.checked.prog.funcNamed "loop.example/assumeguarantee/laws.FnVerifyTraces" = some f) (hfn:Tryz.pinned.checked.prog.funcs[f]?=some fn) :
 false=Tryz.pinned.checked.prog.looks []∧∀(j:Nat) t,fn.params[j]?=some t→Tryz.pinned.checked.prog.wantsStandIn t=false:=by
 obtain rfl:f=6:=Option.some.inj ((show Tryz.prog.funcNamed "loop.example/assumeguarantee/laws.FnVerifyTraces" = some 6 by kernel_rfl).symm.trans hf) |>.symm
 obtain rfl:fn=Tryz.f6:=(Option.some.inj (Tryz.func6.symm.trans hfn)).symm
 refine⟨by kernel_rfl,fun j t ht=>?_⟩
 rw[Tryz.params6]at ht
 have hm:t∈[22,22]:=by simpa using Array.mem_of_getElem? ht
 have hall:([22,22].all fun u=>!Tryz.prog.wantsStandIn u)=true:=by kernel_rfl
 exact(show Tryz.prog.wantsStandIn t=false by simpa using List.all_eq_true.1 hall t hm)
end Go.Proofs.YtdipaikojjjebaaGreatDoor.FnVerifyTraces
namespace Go.Proofs.YtdipaikojjjebaaGreatDoor
open Go
theorem fnVerifyTraces_card:Rows.FnVerifyTracesCardSaid:=
 Claim7.holds_tied_plain_at .later [] _ _ _ _ FnVerifyTraces.said (fun _ h=>by cases h) FnVerifyTraces.wf (fun _ h=>by cases h) fnVerifyTraces_row_tie rfl ⟨rfl,rfl⟩ hO rfl FnVerifyTraces.plain FnVerifyTraces.goes
end Go.Proofs.YtdipaikojjjebaaGreatDoor
