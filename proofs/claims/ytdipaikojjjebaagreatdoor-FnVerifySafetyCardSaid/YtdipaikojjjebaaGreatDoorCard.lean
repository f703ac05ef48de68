/-
  The law laws.FnVerifySafety answers true at every input that can be read, and leaves its arguments as they were.
  Conditions: none but the row's own: the tables that it lists hold what the program's text lays into them.
-/
import Derived.Test.YtdipaikojjjebaaGreatDoorPart26
import Derived.Test.YtdipaikojjjebaaGreatDoorPart40
import Derived.Test.YtdipaikojjjebaaGreatDoorPart43
import Derived.Test.YtdipaikojjjebaaGreatDoorPart42
import Derived.Test.YtdipaikojjjebaaGreatDoorPart2
set_option linter.all false
namespace Go.Proofs.YtdipaikojjjebaaGreatDoor.FnVerifySafety
open Go Go.Am Go.ChangeShapes Go.WideShapes Go.ChangeAt Go.RowKit
set_option maxRecDepth 100000 in
theorem aAq(H:Type)(enc:TypeId×Value→H)(W:World)(base:Nat)(args:Array Value)(ds gs:List (DataW H))(before:List MemPlace)
 (hval:∀(j:Nat) t v,Tryz.f3.params[j]?=some t→args[j]?=some v→Value.okWide Tryz.prog W .any base t v)
 (hW:DataW.Whole enc Tryz.prog Tryz.f3.params.toList Rows.fnVerifySafetySpec.vars false W args.toList ds gs before) (hL:laidMetH Tryz.prog Rows.fnVerifySafetyRow.laid W) :
 Calls Tryz.prog 3 args W fun e W'=>∃v,e=.returned v∧Rows.fnVerifySafetySpec.post enc Tryz.prog Tryz.f3 false true false false W args v W':=by
 have hW':=hW
 obtain⟨p,q,hA0,hV,rfl,hfz,hnd⟩:=hW
 have hA:DataW.TrodAll enc Tryz.prog W 0 (fun _=>true) true Tryz.f3.params.toList args.toList ds p:=hA0
 rw[Tryz.params3]at hA hval
 obtain⟨v0,vs0,d0,ds0,p0,q0,hargs,rfl,rfl,h0,r0⟩:=trodAll_cons hA
 obtain⟨rfl,rfl,rfl⟩:=trodAll_nil r0
 obtain rfl:args = #[v0]:=by cases args;simp_all
 obtain⟨rfl,rfl⟩:=trodVars_none hV
 obtain⟨a0,ha0⟩:=kX Tryz.underlying22 (ml Tryz.underlying22 (by kernel_rfl) (by decide) (oe Tryz.underlying5)) (hval 0 _ v0 rfl rfl) h0
 obtain⟨tabs,hT,htb⟩:=tables hL
 have walk:=jl (f:=3) (W:=W) (TB:=⟨tabs,none⟩) (hno:=rfl) (vs:=#[v0]) (aAg (tabs:=tabs) a0) htb ⟨rfl,fun j e v he hv=>by
  match j with
  | 0=>cases he;cases hv;exact ha0
  | j+1=>simp at he⟩
 refine walk.mono fun e W' ⟨he,hg⟩=>?_
 subst he
 exact⟨_,rfl,kJ (tb:=4) laidOut (by kernel_rfl) hW' hg rfl (by kernel_rfl) Tryz.underlying4 rfl rfl⟩
def aAk:Array Value:=#[.slice none 0 0]
theorem aAr(os:Os):laidMet Tryz.prog Rows.fnVerifySafetyRow.laid ((kG os).forCall (fun _ _=>0) ⟨#[],aAk,[]⟩).memory:=
 laidMet_of_run' 8 (by kernel_rfl) (by kernel_rfl)
theorem reads(os:Os){H:Type}(enc:TypeId×Value→H):∃ds places,DataW.whole enc Tryz.prog ((kG os).forCall (fun _ _=>0) ⟨#[],aAk,[]⟩).memory Tryz.f3.params.toList Rows.fnVerifySafetySpec.vars false aAk.toList 8=some (ds,[],places):=
 ⟨[.nil],[],by kernel_rfl⟩
set_option maxRecDepth 100000 in
theorem lifted(os:Os)(started:os.Started)(H:Type)(enc:TypeId×Value→H)(F:Stop.Interp) :
 ReturnsInHanded {} Tryz.checked os 3 .any ((OpenSpec.ofChange Rows.fnVerifySafetySpec).preRow enc Tryz.prog Tryz.f3 Rows.fnVerifySafetyRow.domain false Rows.fnVerifySafetyRow.laid) (((OpenSpec.ofChange Rows.fnVerifySafetySpec).at F).post enc Tryz.prog Tryz.f3 false true false false):=by
 obtain⟨ds,places,hx⟩:=reads os enc
 refine returnsInHanded_of_row (C:=Tryz.checked) (s:=OpenSpec.ofChange Rows.fnVerifySafetySpec) own started (by kernel_rfl) Tryz.func3
  (witness_row_at (enc:=enc) (C:=Tryz.checked) false (kG os) aAk rfl (by kernel_rfl) (by kernel_rfl) (by kernel_rfl)
   (OpenSpec.preRow_of_cond 8 hx (by kernel_rfl) (fun k hk=>by cases hk) (by kernel_rfl) (aAr os))) ?_
 intro W base args ds gs before hval hW _ _ _ hL _ _
 exact aAq H enc W base args ds gs before hval hW hL
theorem said:Rows.FnVerifySafetySaid:=
 OpenClaim.holds_of_cond 3 Tryz.f3 rfl rfl rfl rfl rfl rfl rfl ⟨rfl,rfl,rfl,rfl,rfl⟩ rfl rfl rfl rfl rfl named Tryz.func3 closed inst wrap
  (fun os started H enc _ F=>by rw[OpenClaim.pre_eq_preRow];exact lifted os started H enc F)
theorem plain (f:FuncId) (fn:Func) (hf:Tryz.pinned.checked.prog.funcNamed "loop.example/assumeguarantee/laws.FnVerifySafety" = some f) (hfn:Tryz.pinned.checked.prog.funcs[f]?=some fn) :
 false=Tryz.pinned.checked.prog.looks []∧∀(j:Nat) t,fn.params[j]?=some t→Tryz.pinned.checked.prog.wantsStandIn t=false:=by
 obtain rfl:f=3:=Option.some.inj ((show Tryz.prog.funcNamed "loop.example/assumeguarantee/laws.FnVerifySafety" = some 3 by kernel_rfl).symm.trans hf) |>.symm
 obtain rfl:fn=Tryz.f3:=(Option.some.inj (Tryz.func3.symm.trans hfn)).symm
 refine⟨by kernel_rfl,fun j t ht=>?_⟩
 rw[Tryz.params3]at ht
 have hm:t∈[22]:=by simpa using Array.mem_of_getElem? ht
 have hall:([22].all fun u=>!Tryz.prog.wantsStandIn u)=true:=by kernel_rfl
 exact(show Tryz.prog.wantsStandIn t=false by simpa using List.all_eq_true.1 hall t hm)
end Go.Proofs.YtdipaikojjjebaaGreatDoor.FnVerifySafety
namespace Go.Proofs.YtdipaikojjjebaaGreatDoor
open Go
theorem fnVerifySafety_card:Rows.FnVerifySafetyCardSaid:=
 Claim7.holds_tied_plain_at .later [] _ _ _ _ FnVerifySafety.said (fun _ h=>by cases h) FnVerifySafety.wf (fun _ h=>by cases h) fnVerifySafety_row_tie rfl ⟨rfl,rfl⟩ lr rfl FnVerifySafety.plain FnVerifySafety.goes
end Go.Proofs.YtdipaikojjjebaaGreatDoor
