/-
  The law laws.FnVerifyWeakest answers true at every input that can be read, and leaves its arguments as they were.
  Conditions: none but the row's own: the tables that it lists hold what the program's text lays into them.
-/
import Derived.Test.YtdipaikojjjebaaGreatDoorPart20
import Derived.Test.YtdipaikojjjebaaGreatDoorPart13
import Derived.Test.YtdipaikojjjebaaGreatDoorPart6
import Derived.Test.YtdipaikojjjebaaGreatDoorPart5
set_option linter.all false
namespace Go.Proofs.YtdipaikojjjebaaGreatDoor.FnVerifyWeakest
open Go Go.Am Go.ChangeShapes Go.WideShapes Go.ChangeAt Go.RowKit
set_option maxRecDepth 100000 in
theorem aAb(H:Type)(enc:TypeId×Value→H)(W:World)(base:Nat)(args:Array Value)(ds gs:List (DataW H))(before:List MemPlace)
 (hval:∀(j:Nat) t v,Tryz.f8.params[j]?=some t→args[j]?=some v→Value.okWide Tryz.prog W .any base t v)
 (hW:DataW.Whole enc Tryz.prog Tryz.f8.params.toList Rows.fnVerifyWeakestSpec.vars false W args.toList ds gs before) (hL:laidMetH Tryz.prog Rows.fnVerifyWeakestRow.laid W) :
 Calls Tryz.prog 8 args W fun e W'=>∃v,e=.returned v∧Rows.fnVerifyWeakestSpec.post enc Tryz.prog Tryz.f8 false true false false W args v W':=by
 have hW':=hW
 obtain⟨p,q,hA0,hV,rfl,hfz,hnd⟩:=hW
 have hA:DataW.TrodAll enc Tryz.prog W 0 (fun _=>true) true Tryz.f8.params.toList args.toList ds p:=hA0
 rw[Tryz.params8]at hA hval
 obtain⟨v0,vs0,d0,ds0,p0,q0,hargs,rfl,rfl,h0,r0⟩:=trodAll_cons hA
 obtain⟨rfl,rfl,rfl⟩:=trodAll_nil r0
 obtain rfl:args = #[v0]:=by cases args;simp_all
 obtain⟨rfl,rfl⟩:=trodVars_none hV
 obtain⟨a0,ha0⟩:=pY Tryz.underlying22 (q9 Tryz.underlying22 (by kernel_rfl) (by decide) (tt Tryz.underlying5)) (hval 0 _ v0 rfl rfl) h0
 obtain⟨tabs,hT,htb⟩:=tables hL
 have walk:=nE (f:=8) (W:=W) (TB:=⟨tabs,none⟩) (hno:=rfl) (vs:=#[v0]) (YI (tabs:=tabs) a0) htb ⟨rfl,fun j e v he hv=>by
  match j with
  | 0=>cases he;cases hv;exact ha0
  | j+1=>simp at he⟩
 refine walk.mono fun e W' ⟨he,hg⟩=>?_
 subst he
 exact⟨_,rfl,pI (tb:=4) laidOut (by kernel_rfl) hW' hg rfl (by kernel_rfl) Tryz.underlying4 rfl rfl⟩
def aAa:Array Value:=#[.slice none 0 0]
theorem aAc(os:Os):laidMet Tryz.prog Rows.fnVerifyWeakestRow.laid ((pG os).forCall (fun _ _=>0) ⟨#[],aAa,[]⟩).memory:=
 laidMet_of_run' 8 (by kernel_rfl) (by kernel_rfl)
theorem reads(os:Os){H:Type}(enc:TypeId×Value→H):∃ds places,DataW.whole enc Tryz.prog ((pG os).forCall (fun _ _=>0) ⟨#[],aAa,[]⟩).memory Tryz.f8.params.toList Rows.fnVerifyWeakestSpec.vars false aAa.toList 8=some (ds,[],places):=
 ⟨[.nil],[],by kernel_rfl⟩
set_option maxRecDepth 100000 in
theorem lifted(os:Os)(started:os.Started)(H:Type)(enc:TypeId×Value→H)(F:Stop.Interp) :
 ReturnsInHanded {} Tryz.checked os 8 .any ((OpenSpec.ofChange Rows.fnVerifyWeakestSpec).preRow enc Tryz.prog Tryz.f8 Rows.fnVerifyWeakestRow.domain false Rows.fnVerifyWeakestRow.laid) (((OpenSpec.ofChange Rows.fnVerifyWeakestSpec).at F).post enc Tryz.prog Tryz.f8 false true false false):=by
 obtain⟨ds,places,hx⟩:=reads os enc
 refine returnsInHanded_of_row (C:=Tryz.checked) (s:=OpenSpec.ofChange Rows.fnVerifyWeakestSpec) own started (by kernel_rfl) Tryz.func8
  (witness_row_at (enc:=enc) (C:=Tryz.checked) false (pG os) aAa rfl (by kernel_rfl) (by kernel_rfl) (by kernel_rfl)
   (OpenSpec.preRow_of_cond 8 hx (by kernel_rfl) (fun k hk=>by cases hk) (by kernel_rfl) (aAc os))) ?_
 intro W base args ds gs before hval hW _ _ _ hL _ _
 exact aAb H enc W base args ds gs before hval hW hL
theorem said:Rows.FnVerifyWeakestSaid:=
 OpenClaim.holds_of_cond 8 Tryz.f8 rfl rfl rfl rfl rfl rfl rfl ⟨rfl,rfl,rfl,rfl,rfl⟩ rfl rfl rfl rfl rfl named Tryz.func8 closed inst wrap
  (fun os started H enc _ F=>by rw[OpenClaim.pre_eq_preRow];exact lifted os started H enc F)
theorem plain (f:FuncId) (fn:Func) (hf:Tryz.pinned.checked.prog.funcNamed "loop.example/assumeguarantee/laws.FnVerifyWeakest" = some f) (hfn:Tryz.pinned.checked.prog.funcs[f]?=some fn) :
 false=Tryz.pinned.checked.prog.looks []∧∀(j:Nat) t,fn.params[j]?=some t→Tryz.pinned.checked.prog.wantsStandIn t=false:=by
 obtain rfl:f=8:=Option.some.inj ((show Tryz.prog.funcNamed "loop.example/assumeguarantee/laws.FnVerifyWeakest" = some 8 by kernel_rfl).symm.trans hf) |>.symm
 obtain rfl:fn=Tryz.f8:=(Option.some.inj (Tryz.func8.symm.trans hfn)).symm
 refine⟨by kernel_rfl,fun j t ht=>?_⟩
 rw[Tryz.params8]at ht
 have hm:t∈[22]:=by simpa using Array.mem_of_getElem? ht
 have hall:([22].all fun u=>!Tryz.prog.wantsStandIn u)=true:=by kernel_rfl
 exact(show Tryz.prog.wantsStandIn t=false by simpa using List.all_eq_true.1 hall t hm)
end Go.Proofs.YtdipaikojjjebaaGreatDoor.FnVerifyWeakest
namespace Go.Proofs.YtdipaikojjjebaaGreatDoor
open Go
theorem fnVerifyWeakest_card:Rows.FnVerifyWeakestCardSaid:=
 Claim7.holds_tied_plain_at .later [] _ _ _ _ FnVerifyWeakest.said (fun _ h=>by cases h) FnVerifyWeakest.wf (fun _ h=>by cases h) fnVerifyWeakest_row_tie rfl ⟨rfl,rfl⟩ qg rfl FnVerifyWeakest.plain FnVerifyWeakest.goes
end Go.Proofs.YtdipaikojjjebaaGreatDoor
