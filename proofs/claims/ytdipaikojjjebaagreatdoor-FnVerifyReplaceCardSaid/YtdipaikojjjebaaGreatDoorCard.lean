/-
  The law laws.FnVerifyReplace answers true at every input that can be read, and leaves its arguments as they were.
  Conditions: none but the row's own: the tables that it lists hold what the program's text lays into them.
-/
import Derived.Test.YtdipaikojjjebaaGreatDoorPart38
import Derived.Test.YtdipaikojjjebaaGreatDoorPart41
import Derived.Test.YtdipaikojjjebaaGreatDoorPart40
import Derived.Test.YtdipaikojjjebaaGreatDoorPart2
set_option linter.all false
namespace Go.Proofs.YtdipaikojjjebaaGreatDoor.FnVerifyReplace
open Go Go.Am Go.ChangeShapes Go.WideShapes Go.ChangeAt Go.RowKit
set_option maxRecDepth 100000 in
theorem aAd(H:Type)(enc:TypeId×Value→H)(W:World)(base:Nat)(args:Array Value)(ds gs:List (DataW H))(before:List MemPlace)
 (hval:∀(j:Nat) t v,Tryz.f4.params[j]?=some t→args[j]?=some v→Value.okWide Tryz.prog W .any base t v)
 (hW:DataW.Whole enc Tryz.prog Tryz.f4.params.toList Rows.fnVerifyReplaceSpec.vars false W args.toList ds gs before) (hL:laidMetH Tryz.prog Rows.fnVerifyReplaceRow.laid W) :
 Calls Tryz.prog 4 args W fun e W'=>∃v,e=.returned v∧Rows.fnVerifyReplaceSpec.post enc Tryz.prog Tryz.f4 false true false false W args v W':=by
 have hW':=hW
 obtain⟨p,q,hA0,hV,rfl,hfz,hnd⟩:=hW
 have hA:DataW.TrodAll enc Tryz.prog W 0 (fun _=>true) true Tryz.f4.params.toList args.toList ds p:=hA0
 rw[Tryz.params4]at hA hval
 obtain⟨v0,vs0,d0,ds0,p0,q0,hargs,rfl,rfl,h0,r0⟩:=trodAll_cons hA
 obtain⟨v1,vs1,d1,ds1,p1,q1,rfl,rfl,rfl,h1,r1⟩:=trodAll_cons r0
 obtain⟨rfl,rfl,rfl⟩:=trodAll_nil r1
 obtain rfl:args = #[v0,v1]:=by cases args;simp_all
 obtain⟨rfl,rfl⟩:=trodVars_none hV
 obtain⟨a0,ha0⟩:=gP Tryz.underlying22 (je Tryz.underlying22 (by kernel_rfl) (by decide) (kO Tryz.underlying5)) (hval 0 _ v0 rfl rfl) h0
 obtain⟨a1,ha1⟩:=gP Tryz.underlying22 (je Tryz.underlying22 (by kernel_rfl) (by decide) (kO Tryz.underlying5)) (hval 1 _ v1 rfl rfl) h1
 obtain⟨tabs,hT,htb⟩:=tables hL
 have walk:=er (f:=4) (W:=W) (TB:=⟨tabs,none⟩) (hno:=rfl) (vs:=#[v0,v1]) (aAb (tabs:=tabs) a0 a1) htb ⟨rfl,fun j e v he hv=>by
  match j with
  | 0=>cases he;cases hv;exact ha0
  | 1=>cases he;cases hv;exact ha1
  | j+2=>simp at he⟩
 refine walk.mono fun e W' ⟨he,hg⟩=>?_
 subst he
 exact⟨_,rfl,gr (tb:=4) laidOut (by kernel_rfl) hW' hg rfl (by kernel_rfl) Tryz.underlying4 rfl rfl⟩
def aAc:Array Value:=#[.slice none 0 0,.slice none 0 0]
theorem aAe(os:Os):laidMet Tryz.prog Rows.fnVerifyReplaceRow.laid ((gn os).forCall (fun _ _=>0) ⟨#[],aAc,[]⟩).memory:=
 laidMet_of_run' 8 (by kernel_rfl) (by kernel_rfl)
theorem reads(os:Os){H:Type}(enc:TypeId×Value→H):∃ds places,DataW.whole enc Tryz.prog ((gn os).forCall (fun _ _=>0) ⟨#[],aAc,[]⟩).memory Tryz.f4.params.toList Rows.fnVerifyReplaceSpec.vars false aAc.toList 8=some (ds,[],places):=
 ⟨[.nil,.nil],[],by kernel_rfl⟩
set_option maxRecDepth 100000 in
theorem lifted(os:Os)(started:os.Started)(H:Type)(enc:TypeId×Value→H)(F:Stop.Interp) :
 ReturnsInHanded {} Tryz.checked os 4 .any ((OpenSpec.ofChange Rows.fnVerifyReplaceSpec).preRow enc Tryz.prog Tryz.f4 Rows.fnVerifyReplaceRow.domain false Rows.fnVerifyReplaceRow.laid) (((OpenSpec.ofChange Rows.fnVerifyReplaceSpec).at F).post enc Tryz.prog Tryz.f4 false true false false):=by
 obtain⟨ds,places,hx⟩:=reads os enc
 refine returnsInHanded_of_row (C:=Tryz.checked) (s:=OpenSpec.ofChange Rows.fnVerifyReplaceSpec) own started (by kernel_rfl) Tryz.func4
  (witness_row_at (enc:=enc) (C:=Tryz.checked) false (gn os) aAc rfl (by kernel_rfl) (by kernel_rfl) (by kernel_rfl)
   (OpenSpec.preRow_of_cond 8 hx (by kernel_rfl) (fun k hk=>by cases hk) (by kernel_rfl) (aAe os))) ?_
 intro W base args ds gs before hval hW _ _ _ hL _ _
 exact aAd H enc W base args ds gs before hval hW hL
theorem said:Rows.FnVerifyReplaceSaid:=
 OpenClaim.holds_of_cond 4 Tryz.f4 rfl rfl rfl rfl rfl rfl rfl ⟨rfl,rfl,rfl,rfl,rfl⟩ rfl rfl rfl rfl rfl named Tryz.func4 closed inst wrap
  (fun os started H enc _ F=>by rw[OpenClaim.pre_eq_preRow];exact lifted os started H enc F)
theorem plain (f:FuncId) (fn:Func) (hf:Tryz.pinned.checked.prog.funcNamed "loop.example/assumeguarantee/laws.FnVerifyReplace" = some f) (hfn:Tryz.pinned.checked.prog.funcs[f]?=some fn) :
 false=Tryz.pinned.checked.prog.looks []∧∀(j:Nat) t,fn.params[j]?=some t→Tryz.pinned.checked.prog.wantsStandIn t=false:=by
 obtain rfl:f=4:=Option.some.inj ((show Tryz.prog.funcNamed "loop.example/assumeguarantee/laws.FnVerifyReplace" = some 4 by kernel_rfl).symm.trans hf) |>.symm
 obtain rfl:fn=Tryz.f4:=(Option.some.inj (Tryz.func4.symm.trans hfn)).symm
 refine⟨by kernel_rfl,fun j t ht=>?_⟩
 rw[Tryz.params4]at ht
 have hm:t∈[22,22]:=by simpa using Array.mem_of_getElem? ht
 have hall:([22,22].all fun u=>!Tryz.prog.wantsStandIn u)=true:=by kernel_rfl
 exact(show Tryz.prog.wantsStandIn t=false by simpa using List.all_eq_true.1 hall t hm)
end Go.Proofs.YtdipaikojjjebaaGreatDoor.FnVerifyReplace
namespace Go.Proofs.YtdipaikojjjebaaGreatDoor
open Go
theorem fnVerifyReplace_card:Rows.FnVerifyReplaceCardSaid:=
 Claim7.holds_tied_plain_at .later [] _ _ _ _ FnVerifyReplace.said (fun _ h=>by cases h) FnVerifyReplace.wf (fun _ h=>by cases h) fnVerifyReplace_row_tie rfl ⟨rfl,rfl⟩ hX rfl FnVerifyReplace.plain FnVerifyReplace.goes
end Go.Proofs.YtdipaikojjjebaaGreatDoor
