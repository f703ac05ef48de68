/-
  The law laws.FnFaultSound answers true at every input that can be read, and leaves its arguments as they were.
  Conditions: none but the row's own: the tables that it lists hold what the program's text lays into them.
-/
import Derived.Test.YtohfiindiidcfaaGreatDoorPart35
import Derived.Test.YtohfiindiidcfaaGreatDoorPart38
import Derived.Test.YtohfiindiidcfaaGreatDoorPart37
import Derived.Test.YtohfiindiidcfaaGreatDoorPart2
set_option linter.all false
namespace Go.Proofs.YtohfiindiidcfaaGreatDoor.FnFaultSound
open Go Go.Am Go.ChangeShapes Go.WideShapes Go.ChangeAt Go.RowKit
set_option maxRecDepth 100000 in
theorem aAd(H:Type)(enc:TypeId×Value→H)(W:World)(base:Nat)(args:Array Value)(ds gs:List (DataW H))(before:List MemPlace)
 (hval:∀(j:Nat) t v,Tryz.f10.params[j]? = some t→args[j]? = some v→Value.okWide Tryz.prog W .any base t v)
 (hW:DataW.Whole enc Tryz.prog Tryz.f10.params.toList Rows.fnFaultSoundSpec.vars false W args.toList ds gs before) (hL:laidMetH Tryz.prog Rows.fnFaultSoundRow.laid W) :
 Calls Tryz.prog 10 args W fun e W'=>∃v,e=.returned v∧Rows.fnFaultSoundSpec.post enc Tryz.prog Tryz.f10 false true false false W args v W':=by
 have hW':=hW
 obtain⟨p,q,hA0,hV,rfl,hfz,hnd⟩:=hW
 have hA:DataW.TrodAll enc Tryz.prog W 0 (fun _=>true) true Tryz.f10.params.toList args.toList ds p:=hA0
 rw [Tryz.params10] at hA hval
 obtain⟨v0,vs0,d0,ds0,p0,q0,hargs,rfl,rfl,h0,r0⟩:=trodAll_cons hA
 obtain⟨rfl,rfl,rfl⟩:=trodAll_nil r0
 obtain rfl:args = #[v0]:=by cases args;simp_all
 obtain⟨rfl,rfl⟩:=trodVars_none hV
 obtain⟨a0,ha0⟩:=ed Tryz.underlying22 (fE Tryz.underlying22 (by kernel_rfl) (by decide) (im Tryz.underlying5)) (hval 0 _ v0 rfl rfl) h0
 obtain⟨tabs,hT,htb⟩:=tables hL
 have walk:=cf (f:=10) (W:=W) (TB:=⟨tabs,none⟩) (hno:=rfl) (vs:=#[v0]) (aAb (tabs:=tabs) a0) htb ⟨rfl,fun j e v he hv=>by
  match j with
  | 0=>cases he;cases hv;exact ha0
  | j+1=>simp at he⟩
 refine walk.mono fun e W' ⟨he,hg⟩=>?_
 subst he
 exact⟨_,rfl,dT (tb:=4) laidOut (by kernel_rfl) hW' hg rfl (by kernel_rfl) Tryz.underlying4 rfl rfl⟩
def aAc:Array Value:=#[.slice none 0 0]
theorem aAe(os:Os):laidMet Tryz.prog Rows.fnFaultSoundRow.laid ((dR os).forCall (fun _ _=>0) ⟨#[],aAc,[]⟩).memory:=
 laidMet_of_run' 8 (by kernel_rfl) (by kernel_rfl)
theorem reads(os:Os){H:Type}(enc:TypeId×Value→H):∃ds places,DataW.whole enc Tryz.prog ((dR os).forCall (fun _ _=>0) ⟨#[],aAc,[]⟩).memory Tryz.f10.params.toList Rows.fnFaultSoundSpec.vars false aAc.toList 8=some (ds,[],places):=
 ⟨[.nil],[],by kernel_rfl⟩
set_option maxRecDepth 100000 in
theorem lifted(os:Os)(started:os.Started)(H:Type)(enc:TypeId×Value→H)(F:Stop.Interp) :
 ReturnsInHanded {} Tryz.checked os 10 .any ((OpenSpec.ofChange Rows.fnFaultSoundSpec).preRow enc Tryz.prog Tryz.f10 Rows.fnFaultSoundRow.domain false Rows.fnFaultSoundRow.laid) (((OpenSpec.ofChange Rows.fnFaultSoundSpec).at F).post enc Tryz.prog Tryz.f10 false true false false):=by
 obtain⟨ds,places,hx⟩:=reads os enc
 refine returnsInHanded_of_row (C:=Tryz.checked) (s:=OpenSpec.ofChange Rows.fnFaultSoundSpec) own started (by kernel_rfl) Tryz.func10
  (witness_row_at (enc:=enc) (C:=Tryz.checked) false (dR os) aAc rfl (by kernel_rfl) (by kernel_rfl) (by kernel_rfl)
   (OpenSpec.preRow_of_cond 8 hx (by kernel_rfl) (fun k hk=>by cases hk) (by kernel_rfl) (aAe os))) ?_
 intro W base args ds gs before hval hW _ _ _ hL _ _
 exact aAd H enc W base args ds gs before hval hW hL
theorem said:Rows.FnFaultSoundSaid:=
 OpenClaim.holds_of_cond 10 Tryz.f10 rfl rfl rfl rfl rfl rfl rfl ⟨rfl,rfl,rfl,rfl,rfl⟩ rfl rfl rfl rfl rfl named Tryz.func10 closed inst wrap
  (fun os started H enc _ F=>by rw [OpenClaim.pre_eq_preRow];exact lifted os started H enc F)
theorem plain (f:FuncId) (fn:Func) (hf:Tryz.pinned.checked.prog.funcNamed "loop.example/assumeguarantee/laws.FnFaultSound" = some f) (hfn:Tryz.pinned.checked.prog.funcs[f]? = some fn) :
 false=Tryz.pinned.checked.prog.looks []∧∀(j:Nat) t,fn.params[j]? = some t→Tryz.pinned.checked.prog.wantsStandIn t=false:=by
 obtain rfl:f=10:=Option.some.inj ((show Tryz.prog.funcNamed "loop.example/assumeguarantee/laws.FnFaultSound" = some 10 by kernel_rfl).symm.trans hf) |>.symm
 obtain rfl:fn=Tryz.f10:=(Option.some.inj (Tryz.func10.symm.trans hfn)).symm
 refine⟨by kernel_rfl,fun j t ht=>?_⟩
 rw [Tryz.params10] at ht
 have hm:t∈[22]:=by simpa using Array.mem_of_getElem? ht
 have hall:([22].all fun u=>!Tryz.prog.wantsStandIn u)=true:=by kernel_rfl
 exact(show Tryz.prog.wantsStandIn t=false by simpa using List.all_eq_true.1 hall t hm)
end Go.Proofs.YtohfiindiidcfaaGreatDoor.FnFaultSound
namespace Go.Proofs.YtohfiindiidcfaaGreatDoor
open Go
theorem fnFaultSound_card:Rows.FnFaultSoundCardSaid:=
 Claim7.holds_tied_plain_at .later [] _ _ _ _ FnFaultSound.said (fun _ h=>by cases h) FnFaultSound.wf (fun _ h=>by cases h) fnFaultSound_row_tie rfl ⟨rfl,rfl⟩ er rfl FnFaultSound.plain FnFaultSound.goes
end Go.Proofs.YtohfiindiidcfaaGreatDoor
