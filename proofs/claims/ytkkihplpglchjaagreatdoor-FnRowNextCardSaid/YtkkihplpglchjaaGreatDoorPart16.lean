/-
  What is hidden: the call's own becomes memory that only the callees of one function value look at; and such a callee, seen from outside.
-/
import Derived.Test.YtkkihplpglchjaaGreatDoorPart14
import Derived.Test.YtkkihplpglchjaaGreatDoorPart15
import Derived.Test.YtkkihplpglchjaaGreatDoorPart13
import Derived.Test.YtkkihplpglchjaaGreatDoorPart11
set_option linter.constructorNameAsVariable false
set_option linter.unusedSimpArgs false
set_option linter.unusedVariables false
namespace Go.Am
open Go
set_option linter.unusedVariables false
section
variable {P:Program} {TB:Bc} {Γ:Ctx} {d:Option Tmp} {ty:TypeId} {pos:String} {af:Array Edge} {g:Option (Nat×Bool)} {f:Env} {σ:Ab} {nx:Nat}
theorem ZV {gg:FuncId} {x:Operand} {c:C} (hx:ev f x=some (.o c)):AU P TB Γ ⟨d,.makeFunc (.func gg) #[x] #[],ty,pos,af,g⟩ f σ nx (.o (.mv gg [c])):=
  Az fun V ρ h1 _=>by
    refine ⟨.func (.func gg) #[ρ x] #[],by simp [execOp,Instr.makeFunc,go_sem],Ay.mv rfl fun j c' v hj hv=>?_⟩
    have h2:Ay V c (ρ x):=h1.get (by simp [Op.operands]) hx
    match j with
    | 0=>simp at hj hv;subst hj;subst hv;exact h2
    | j+1=>simp at hj
theorem Xa {V:View} {gg:FuncId} {recv:List C} {v:Value} (h:A2 V (.o (.mv gg recv)) v):∃vs,v=.func (.func gg) vs #[]∧Cr V recv vs:=by
  have h:Ay V (.mv gg recv) v:=h
  generalize hc:C.mv gg recv=c at h
  cases h<;>cases hc
  rename_i vs h1 h2
  exact ⟨vs,rfl,h1,h2⟩
theorem Pe {x:Operand} {args:Array Operand} {tys:Array TypeId} {gg:FuncId} {vs:Array Value} (hf:Sr P gg) {ρ:Operand→Value} (hv:ρ x=.func (.func gg) vs #[]) (w:World) :
    (execOp ρ ⟨d,.call ⟨.value x,args,tys⟩,ty,pos,af,g⟩).run P w=.ok (.enter gg (vs++args.map ρ)) w:=by
  obtain ⟨fn,h1,h2,h3⟩:=hf
  have hb:∃c,fn.body=some c:=by cases hb:fn.body with|none=>rw [hb] at h3;cases h3|some c=>exact ⟨c,rfl⟩
  obtain ⟨c,hb⟩:=hb
  simp only [execOp,resolve,hv,Deferred.ofValue,pure_bind,invoke,callFunc]
  have h2':¬fn.name = "runtime.NumGoroutine" := by simpa using h2
  simp [Sem.run,program,h1,h2',hb,go_sem]
theorem TT {x:Operand} {args:Array Operand} {tys:Array TypeId} {gg:FuncId} {recv:List C} {es:List E} {r:E} (hx:ev f x=some (.o (.mv gg recv))) (hes:GI f args.toList=some es) (hp:(es.all E.A1 && C.Bw recv)=true)
    (hs:Pure P TB gg (recv.map .o++es) r) (hr:r.A1=true):AU P TB Γ ⟨d,.call ⟨.value x,args,tys⟩,ty,pos,af,g⟩ f σ nx r:=by
  intro V a h1 h2 h3
  have h1:=h1.E6
  unfold Oper.wp
  generalize a.eval=ρ at h1 ⊢
  obtain ⟨vs,hv,hcap⟩:=Xa (h1.get (x:=x) (by simp [Op.operands,Call.operands]) hx)
  rw [Pe hs.1 hv]
  rw [Bool.and_eq_true] at hp
  have hel:=B5 hes
  have hargs:JD { V with nx:=0 } (recv.map .o++es) (vs++args.map ρ):=by
    refine ⟨by simp [hcap.1,hel],fun j e v hj hv=>?_⟩
    have hsz:vs.size=recv.length:=hcap.1
    by_cases hlt:j < recv.length
    · rw [List.getElem?_append_left (by simpa using hlt)] at hj
      rw [Array.getElem?_append_left (by rw [hsz];exact hlt)] at hv
      simp only [List.getElem?_map,Option.map_eq_some_iff] at hj
      obtain ⟨c,hc,rfl⟩:=hj
      exact Ay.A1 (V:=V) (V':={ V with nx:=0 }) rfl rfl (hcap.2 _ c v hc hv) (DL _ hp.2 _ c hc)
    · rw [List.getElem?_append_right (by simp;omega)] at hj
      rw [Array.getElem?_append_right (by rw [hsz];omega),hsz] at hv
      simp only [List.length_map] at hj
      refine A2.A1 (V:=V) (V':={ V with nx:=0 }) rfl rfl (E2 (fun y hy e he=>h1.get (by simp [Op.operands,Call.operands];right;simpa using hy) he) hes _ e v hj (by rw [←Array.toList_map];simpa using hv)) (List.all_eq_true.1 hp.1 e (List.mem_of_getElem? hj))
  obtain ⟨S,hS,hSJ,hSB⟩:=h2.hid
  refine (hs.2 { V with nx:=0 } _ S ⟨h2.iLt,De,h2.tabs,rfl,⟨hS.r,hS.ji,hS.bi,fun b ⟨_,_,h,_⟩=>by cases h⟩⟩ hargs).mono ?_
  rintro e w' ⟨V1,v,x1,σ1,rfl,rfl,hi1,hx1,rfl⟩
  obtain ⟨hi',he'⟩:=Hp h2 hS hSJ hSB (Vc:={ V with nx:=0 }) rfl hi1 V1.I (fun b hb=>hi1.ext.i b hb) (fun b hb=>by
    rcases hi1.iNew b hb with h|h|h|h
    · exact .inl h
    · exact .inr (.inl ⟨h,hi1.iLt b hb⟩)
    · obtain ⟨_,_,h,_⟩:=h;cases h
    · exact .inr (.inr h)) (fun b hb _=>hb) (fun b hb=>hb)
  exact ⟨{ V with I:=V1.I,w:=V1.w },v,rfl,rfl,he',hi',h3,A2.A1 (V:=V1) (V':={ V with I:=V1.I,w:=V1.w }) rfl rfl hx1 hr⟩
end
abbrev Fk (r:Nat):C:=.d (.v (.pointer (some ⟨r,0,none⟩)))
theorem TQ {P:Program} {tabs:List (Nat×Obj)} {H:Hid} {r:Nat} {gg:FuncId} {k:Nat} {es:List E} {x0:E} (hf:Sr P gg) (hsc:∀e∈es,e.sc=true) (hx:x0.sc=true)
    (h:∀s,AN P ⟨tabs,none⟩ gg 1 (H.st s) H.nx (.o (.ptr 0 k 0 0)::es) (fun x σ nx=>x=x0∧nx=H.nx∧∃s',σ=H.st s')):Pure P ⟨tabs,some (H,r)⟩ gg (.o (Fk r)::es) x0:=by
  refine ⟨hf,fun V vs S hg ha=>?_⟩
  have hr:∃(s:H.S) (V0:View),V0.I=S.J∧V0.w=V.w∧V0.nx=H.nx∧EX V0 (H.st s)∧(0 < V0.nx∧V0.ρ 0=r∧¬V0.nl 0∧∀x∈(⟨tabs,some (H,r)⟩:Bc),V0.I x.1)∧∀b,S.B b↔CI V0 (H.st s) b:=hg.hid.r
  obtain ⟨s,V0,e1,e2,e3,st,⟨n0,ρ0,nl0,tb⟩,hB⟩:=hr
  have hgood:Good ⟨tabs,none⟩ V0 (H.st s) H.nx ⟨fun _=>False,fun _=>False⟩:=
    ⟨fun b hb=>by rw [e2];exact hg.iLt b (hg.hid.ji b (by rw [←e1];exact hb)),st,fun x hx=>⟨tb x hx,by rw [e2];exact (hg.tabs x hx).2⟩,e3,⟨fun _ h=>h,fun _ h=>h.elim,fun _ h=>h.elim,fun _ _ h=>h⟩⟩
  have hargs:JD V0 (.o (.ptr 0 k 0 0)::es) vs:=by
    refine ⟨ha.1,fun j e v hj hv=>?_⟩
    match j with
    | 0=>
      injection hj with hj
      subst hj
      have h1:=ha.2 0 (.o (Fk r)) v rfl hv
      have h2:v=.pointer (some ⟨r,0,none⟩):=Ay.val h1
      subst h2
      have:=Ay.ptr (V:=V0) (id:=0) (k:=k) (i:=0) (j:=0) n0 nl0
      rw [ρ0,Nat.zero_mul] at this
      exact this
    | j+1=>exact PM (ha.2 (j+1) e v hj hv) (hsc e (List.mem_of_getElem? hj))
  have hrun:=(h s).2 V0 vs _ hgood hargs
  rw [e2] at hrun
  refine hrun.mono ?_
  rintro e w' ⟨V1,v,x,σ',rfl,rfl,hi,hx1,rfl,hn,s',rfl⟩
  have hsz:V.w.heap.size≤V1.w.heap.size:=by have h9:V0.w.heap.size≤_:=hi.ext.size;rw [e2] at h9;exact h9
  have hold:∀b,b < V.w.heap.size→¬S.B b→V1.w.heap[b]? = V.w.heap[b]?:=fun b hb hn=>by
    have h9:V1.w.heap[b]? = V0.w.heap[b]?:=hi.old b (by show b < V0.w.heap.size;rw [e2];exact hb) fun h=>h.elim (fun h=>hn ((hB b).2 h)) fun h=>h
    rw [h9,e2]
  have hnew:∀b,V1.I b→S.J b∨V.w.heap.size≤b∨S.B b:=fun b hb=>by
    rcases hi.iNew b hb with h9|h9|h9|h9
    · exact .inl (by rw [←e1];exact h9)
    · have h9:V0.w.heap.size≤b:=h9
      rw [e2] at h9;exact .inr (.inl h9)
    · exact .inr (.inr ((hB b).2 h9))
    · exact h9.elim
  have hlv:∀b,CI V1 (H.st s') b→V.w.heap.size≤b∨S.B b:=fun b ⟨id,o,g1,g2,g3⟩=>by
    rcases hi.live id o g1 g2 b g3 with h9|h9|h9
    · have h9:V0.w.heap.size≤b:=h9
      rw [e2] at h9;exact .inl h9
    · exact .inr ((hB b).2 h9)
    · exact h9.elim
  have e:Ext V { V with I:=fun b=>V.I b∨V1.I b,w:=V1.w } := ⟨fun _ h=>.inl h,fun b hb=>hold b (hg.iLt b hb) fun h=>hg.hid.bi b h hb,hsz,fun _ _=>rfl,fun _ _=>rfl,fun _ _=>Iff.rfl,Nat.le_refl _⟩
  refine ⟨{ V with I:=fun b=>V.I b∨V1.I b,w:=V1.w },v,x,[],rfl,rfl,⟨?_,?_,?_,fun b hb hf=>hold b hb fun h=>hf (.inr h),fun b hb=>?_,fun b hb=>?_,e,De,fun id o ho=>(by cases ho),fun y hy=>⟨.inl (hg.tabs y hy).1,?_⟩,⟨⟨CI V1 (H.st s'),V1.I⟩,⟨?_,fun b hb=>.inr hb,fun b hb hI=>?_,fun b ⟨_,_,h,_⟩=>by cases h⟩,fun b hb=>?_,fun b hb=>?_⟩⟩,PM hx1 hx,rfl⟩
  · have h9:V1.w.os=V0.w.os:=hi.os
    rw [e2] at h9;exact h9
  · have h9:V1.w.tape=V0.w.tape:=hi.tape
    rw [e2] at h9;exact h9
  · have h9:V1.w.output=V0.w.output:=hi.output
    rw [e2] at h9;exact h9
  · rcases hb with hb|hb
    · exact Nat.lt_of_lt_of_le (hg.iLt b hb) hsz
    · exact hi.iLt b hb
  · rcases hb with hb|hb
    · exact .inl hb
    · rcases hnew b hb with h9|h9|h9
      · exact .inl (hg.hid.ji b h9)
      · exact .inr (.inl h9)
      · exact .inr (.inr (.inr h9))
  · exact (hold _ (hg.iLt _ (hg.tabs y hy).1) fun h=>hg.hid.bi _ h (hg.tabs y hy).1).trans (hg.tabs y hy).2
  · exact ⟨s',V1,rfl,rfl,hn,hi.st,⟨by rw [hn,←e3];exact n0,by rw [←ρ0];exact hi.ext.ρ 0 Nat.zero_lt_one,fun h=>nl0 ((hi.ext.nl 0 Nat.zero_lt_one).1 h),fun y hy=>hi.ext.i _ (tb y hy)⟩,fun _=>Iff.rfl⟩
  · have hb':=hb
    obtain ⟨id,o,g1,g2,g3⟩:=hb
    rcases hI with hI|hI
    · rcases hlv b hb' with h9|h9
      · have:=hg.iLt b hI;omega
      · exact hg.hid.bi b h9 hI
    · exact hi.st.free id o g1 g2 b g3 hI
  · rcases hnew b hb with h9|h9|h9
    · exact .inl h9
    · exact .inr (.inl h9)
    · exact .inr (.inr (.inr h9))
  · rcases hlv b hb with h9|h9
    · exact .inl h9
    · exact .inr (.inr h9)
inductive CH (i r:Nat):C→C→Prop
  | A0 {c:C}:CH i r c c
  | ptr {k:Nat}:CH i r (.ptr i k 0 0) (Fk r)
  | mv {gg:FuncId} {k:Nat}:CH i r (.mv gg [.ptr i k 0 0]) (.mv gg [Fk r])
theorem CH.rel {V:View} {i r:Nat} (hr:V.ρ i=r) {c c':C} {v:Value} (h:CH i r c c') (hc:Ay V c v):Ay V c' v:=by
  have hp:∀ {k:Nat} {v:Value},Ay V (.ptr i k 0 0) v→Ay V (Fk r) v:=fun {k v} hc=>by
    cases hc with
    | ptr h1 h2=>rw [Nat.zero_mul,hr];exact .d (.v rfl)
  cases h with
  | A0=>exact hc
  | ptr=>exact hp hc
  | mv =>
    cases hc with
    | mv h1 h2=>
      refine .mv (by rw [h1];rfl) fun j c v hj hv=>?_
      match j with
      | 0=>injection hj with hj;subst hj;exact hp (h2 0 _ v rfl hv)
      | j+1=>simp at hj
inductive LH (i r:Nat):List C→List C→Prop
  | nil:LH i r [] []
  | cons {c c':C} {l l':List C}:CH i r c c'→LH i r l l'→LH i r (c::l) (c'::l')
theorem LH.len {i r:Nat} {l l':List C} (h:LH i r l l'):l'.length=l.length:=by
  induction h with
  | nil=>rfl
  | cons _ _ ih=>simp [ih]
theorem LH.get {i r:Nat} {l l':List C} (h:LH i r l l'):∀(j:Nat) c',l'[j]? = some c'→∃c,l[j]? = some c∧CH i r c c':=by
  induction h with
  | nil=>intro j c' h;simp at h
  | @cons c0 c0' cs cs' h1 _ ih=>
    intro j c' hj
    cases j with
    | zero=>simp at hj;subst hj;exact ⟨c0,rfl,h1⟩
    | succ j=>exact ih j c' (by simpa using hj)
inductive EH (i r:Nat):E→E→Prop
  | A0 {e:E}:EH i r e e
  | o {c c':C}:CH i r c c'→EH i r (.o c) (.o c')
  | a {l l':List C}:LH i r l l'→EH i r (.a l) (.a l')
theorem EH.rel {V:View} {i r:Nat} (hr:V.ρ i=r) {e e':E} {v:Value} (h:EH i r e e') (hc:A2 V e v):A2 V e' v:=by
  cases h with
  | A0=>exact hc
  | o h=>exact h.rel hr hc
  | a h=>
    obtain ⟨vs,h1,h2,h3⟩:=hc
    refine ⟨vs,h1,by rw [h2,h.len],fun j c v hj hv=>?_⟩
    obtain ⟨c0,h4,h5⟩:=h.get j c hj
    exact h5.rel hr (h3 j c0 v h4 hv)
def Sp (i r:Nat) (f:Env):List (Nat×E)→Prop
  | []=>True
  | (t,e')::L=>(∃e,f t=some e∧EH i r e e')∧Sp i r f L
theorem Sp.get {i r:Nat} {f:Env}:∀ {L:List (Nat×E)},Sp i r f L→∀t e',look L t=some e'→∃e,f t=some e∧EH i r e e'
  | [],_,t,e,h=>by cases h
  | (k,x)::L,hs,t,e,h=>by
    rw [Ar] at h
    by_cases hk:k=t
    · rw [if_pos hk] at h;injection h with h;subst h;subst hk;exact hs.1
    · rw [if_neg hk] at h;exact Sp.get hs.2 t e h
def XZ (i r:Nat) (l:List Nat) (σ:Ab):Ab→Prop
  | []=>True
  | (id,o')::S=>(id∉l∧(look σ id=some o'∨∃T k rw rw',o'=.cells T k [rw']∧look σ id=some (.cells T k [rw])∧LH i r rw rw'))∧XZ i r l σ S
theorem XZ.get {i r:Nat} {l:List Nat} {σ:Ab}:∀ {S:Ab},XZ i r l σ S→∀id o',look S id=some o'→id∉l∧(look σ id=some o'∨∃T k rw rw',o'=.cells T k [rw']∧look σ id=some (.cells T k [rw])∧LH i r rw rw')
  | [],_,id,o,h=>by cases h
  | (k,x)::L,hs,id,o,h=>by
    rw [Ar] at h
    by_cases hk:k=id
    · rw [if_pos hk] at h;injection h with h;subst h;subst hk;exact hs.1
    · rw [if_neg hk] at h;exact XZ.get hs.2 id o h
section
variable {P:Program} {tabs:List (Nat×Obj)} {Γ:Ctx} {N:Nat} {σ:Ab}
theorem Inv.forget {TB:Bc} {J:Nat→Prop} {V:View} (h:Inv TB ⟨Γ.V,Γ.F,J⟩ V σ):Inv ⟨TB.tabs,none⟩ Γ V σ:=
  ⟨h.os,h.tape,h.output,h.old,h.iLt,h.iNew,h.ext,h.st,h.live,h.tabs,⟨⟨fun _=>False,fun _=>False⟩,⟨fun _ h=>h,fun _ h=>h.elim,fun _ h=>h.elim,fun _ _ h=>h⟩,fun _ h=>h.elim,fun _ h=>h.elim⟩⟩
theorem Ai.Rw {c:Code} {Q:Exit→Env→Ab→Nat→Prop} {f:Env} {nx:Nat} (H:Hid) (s:H.S) (i:Nat) (l:List Nat) (L:Nat→List (Nat×E)) (S:Nat→Ab) (hn:(i::l).Nodup) (hln:(i::l).length=H.nx) (hS:AO (nm (i::l) nx) σ (H.st s)) (h0:∃T k r rs,look (H.st s) 0=some (.cells T k (r::rs)))
    (hE:∀r,Sp i r f (L r)) (hSt:∀r,XZ i r (i::l) σ (S r)) (h:∀r Γ',Γ'.V=Γ.V→Ai P ⟨tabs,some (H,r)⟩ Γ' N c Q (look (L r)) (S r) nx):Ai P ⟨tabs,none⟩ Γ N c Q f σ nx:=by
  intro V a hr
  have hi:=hr.inv
  have hnx:=hr.nx
  subst hnx
  have hrn:∀id,nm (i::l) V.nx id < V.nx→id < (i::l).length:=fun id=>Mw
  have hidl:∀id o,look (H.st s) id=some o→id < (i::l).length:=fun id o ho=>hrn id (hi.st.lt _ _ (hS.get id o ho))
  have hmem:∀id o,look (H.st s) id=some o→nm (i::l) V.nx id∈i::l:=fun id o ho=>by
    rw [DT (hidl id o ho)];exact List.getElem_mem _
  have hS0:EX (V.AP (nm (i::l) V.nx) (i::l).length) (H.st s):=by
    refine ⟨fun id o ho=>BO.AP hrn (hi.st.obj _ _ (hS.get id o ho)),hidl,fun id o ho hnl b hb=>hi.st.free _ _ (hS.get id o ho) hnl b (BE.1 hb),?_⟩
    intro id id' o o' ho ho' hne hnl hnl' b hb hb'
    refine hi.st.inj _ _ _ _ (hS.get id o ho) (hS.get id' o' ho') ?_ hnl hnl' b (BE.1 hb) (BE.1 hb')
    have h3:=hidl id o ho
    have h4:=hidl id' o' ho'
    rw [DT h3,DT h4]
    intro he
    have hp:=List.pairwise_iff_getElem.1 hn
    rcases Nat.lt_or_gt_of_ne hne with h5|h5
    · exact hp _ _ h3 h4 h5 he
    · exact hp _ _ h4 h3 h5 he.symm
  have hnl0:¬V.nl i:=by
    obtain ⟨T,k,r,rs,h5⟩:=h0
    rcases hS0.obj 0 _ h5 with ⟨_,h6⟩|⟨h6,_⟩
    · cases h6
    · exact h6
  have hsrc:∀id o,look (S (V.ρ i)) id=some o→∃o0,look σ id=some o0∧∀b,Dn V id o b→Dn V id o0 b:=fun id o ho=>by
    obtain ⟨_,h5|⟨T,k,rw,rw',rfl,h5,_⟩⟩:=(hSt (V.ρ i)).get id o ho
    · exact ⟨o,h5,fun _ h=>h⟩
    · exact ⟨_,h5,fun _ h=>h⟩
  have hinv : Inv ⟨tabs,some (H,V.ρ i)⟩ ⟨Γ.V,Γ.F,fun _=>True⟩ V (S (V.ρ i)):=by
    refine ⟨hi.os,hi.tape,hi.output,hi.old,hi.iLt,hi.iNew,hi.ext,⟨fun id o ho=>?_,fun id o ho=>?_,fun id o ho hn b hb=>?_,fun id id' o o' ho ho' hne hn hn' b hb hb'=>?_⟩,fun id o ho hn b hb=>?_,hi.tabs,⟨⟨CI (V.AP (nm (i::l) V.nx) (i::l).length) (H.st s),V.I⟩,⟨?_,fun _ h=>h,fun b hb hI=>?_,fun b hb hB=>?_⟩,fun _ _=>.inl True.intro,fun b hb=>?_⟩⟩
    · obtain ⟨_,h5|⟨T,k,rw,rw',rfl,h5,h6⟩⟩:=(hSt (V.ρ i)).get id o ho
      · exact hi.st.obj id o h5
      · rcases hi.st.obj id _ h5 with ⟨_,h7⟩|⟨h1,cur,h2,h3,h4,h7,h8,h9⟩
        · cases h7
        · refine .inr ⟨h1,cur,h2,h3,h4,h7,fun x hx=>?_,fun i' x j c' hix hj=>?_⟩
          · simp at hx;subst hx;rw [h6.len];exact h8 rw (by simp)
          · have hi0:i'=0:=by have:=(List.getElem?_eq_some_iff.1 hix).1;simp at this;omega
            subst hi0
            simp at hix
            subst hix
            obtain ⟨c,hc,hf⟩:=h6.get j c' hj
            obtain ⟨v,h10,h11⟩:=h9 0 rw j c rfl hc
            exact ⟨v,h10,hf.rel rfl h11⟩
    · obtain ⟨o0,h5,_⟩:=hsrc id o ho;exact hi.st.lt id o0 h5
    · obtain ⟨o0,h5,h6⟩:=hsrc id o ho;exact hi.st.free id o0 h5 hn b (h6 b hb)
    · obtain ⟨o0,h5,h6⟩:=hsrc id o ho
      obtain ⟨o0',h5',h6'⟩:=hsrc id' o' ho'
      exact hi.st.inj id id' o0 o0' h5 h5' hne hn hn' b (h6 b hb) (h6' b hb')
    · obtain ⟨o0,h5,h6⟩:=hsrc id o ho;exact hi.live id o0 h5 hn b (h6 b hb)
    · exact ⟨s,V.AP (nm (i::l) V.nx) (i::l).length,rfl,rfl,hln,hS0,⟨Nat.succ_pos _,rfl,hnl0,fun x hx=>(hi.tabs x hx).1⟩,fun _=>Iff.rfl⟩
    · obtain ⟨id,o,g1,g2,g3⟩:=hb;exact hS0.free id o g1 g2 b g3 hI
    · obtain ⟨id,o,g1,g2,g3⟩:=hB
      obtain ⟨id',o',k1,k2,k3⟩:=hb
      obtain ⟨o0,h5,h6⟩:=hsrc id' o' k1
      have hnm:=((hSt (V.ρ i)).get id' o' k1).1
      exact hi.st.inj id' _ o0 _ h5 (hS.get id o g1) (fun e=>hnm (by rw [e];exact hmem id o g1)) k2 g2 b (h6 b k3) (BE.1 g3)
    · obtain ⟨id,o,g1,g2,g3⟩:=hb;exact hi.live _ _ (hS.get id o g1) g2 b (BE.1 g3)
  have hst:BJ ⟨tabs,some (H,V.ρ i)⟩ ⟨Γ.V,Γ.F,fun _=>True⟩ N V (look (L (V.ρ i))) (S (V.ρ i)) V.nx a:=by
    refine ⟨fun t x hx=>?_,fun t x hx=>?_,hr.size,hinv,rfl,hr.defers⟩
    · obtain ⟨y,h1,h2⟩:=(hE (V.ρ i)).get t x hx
      exact h2.rel rfl (hr.env t y h1)
    · obtain ⟨y,h1,_⟩:=(hE (V.ρ i)).get t x hx
      exact hr.lt t y h1
  refine wp_mono (h (V.ρ i) ⟨Γ.V,Γ.F,fun _=>True⟩ rfl V a hst) ?_
  rintro e a' w' ⟨V',f',σ',h1,h2,h3⟩
  exact ⟨V',f',σ',h1,h2,⟨h3.env,h3.lt,h3.size,Inv.forget h3.inv,h3.nx,h3.defers⟩⟩
end
end Go.Am
namespace Go.Am
open Go Go.Proofs
set_option maxHeartbeats 1000000
attribute [local irreducible] AU B3 Lex Br Ai Spec
variable {TB:Bc}
def Jm (t:B8) (ok:W→Prop) (m:EM):Prop:=Hg t ok m∧m.F[0]? = some (Cf t)
theorem Nw [DZ TB] {t:B8} {ok:W→Prop} (ht:AR t=true) (hfew:Wg t ok) {m0:EM} (hm0:Jm t ok m0) {w:W} (how:ok w) (hw:∀c∈w,0≤(c.toNat:Int) - 97∧(c.toNat:Int) - 97 < 6) (hwl:w.length≤1048576) :
    AN Tryz.prog TB 108 1 (JL t m0) 5 [.o (.ptr 0 14 0 0),eT w] (fun x σ nx=>x=eB (LS t w)∧nx=5∧∃m,Jm t ok m∧σ=JL t m):=by
  have hdr:w.drop 0=w:=rfl
  refine AN.AP (AN.NM (m:=1) (Nat.le_of_ble_eq_true rfl) Tryz.func108 rfl (by kernel_rfl) (Nat.le_of_ble_eq_true rfl) ?_);intro Γ hΓ
  (repeat first|refine tA rfl ?_ |refine aU rfl ?_ |refine Aa ?_)
  refine aB ?_
  refine aL (α:={x:Nat×Nat×EM // x.1≤w.length∧Jm t ok x.2.2∧∃F,x.2.2.F[x.2.1]? = some F∧Hm t F (w.drop x.1)=LS t w∧F=K2 t (Cf t) (w.take x.1)}) [0,1] [] rfl rfl (fun s=>[(5,eI .i64 s.1.2.1),(6,eI .i64 s.1.1)]) (fun s=>JL t s.1.2.2) 5 (fun s=>w.length - s.1.1) (⟨⟨0,0,m0⟩,by simp,hm0,Cf t,hm0.2,rfl,rfl⟩) hΓ rfl (by (simp[cX,zC,hΓ,AE])) ?_;rintro ⟨⟨i,n,m⟩,hi,hm,F,hF,hs,hrn⟩;(try dsimp only[cA,cB])
  have hi:i≤w.length:=hi
  have hm:Jm t ok m:=hm
  have hrn:F=K2 t (Cf t) (w.take i):=hrn
  have hF:m.F[n]? = some F:=hF
  have hs:Hm t F (w.drop i)=LS t w:=hs
  have hu:=hm.1.un n F hF
  have hul:=(List.getElem?_eq_some_iff.1 hu).1
  have hu':(m.un.map AL)[0+((n:Nat):Int).toNat]? = some (AL (IH t F)):=by rw [Nat.zero_add,Int.toNat_natCast];simp [hu]
  by_cases hlt:i < w.length
  · obtain ⟨c,hc⟩:=get_some hlt
    have hc':w[((i:Nat):Int).toNat]? = some c:=by simpa using hc
    have hcl:=hw c (List.mem_of_getElem? hc)
    have hla:=EI (TB:=TB) w i c hc' hcl
    have hd:=CJ hc
    have hrn1:DW t ((c.toNat:Int) - 97) F=K2 t (Cf t) (w.take (i+1)):=by
      rw [List.take_add_one,hc,OQ,←hrn];rfl
    obtain ⟨m1,j,hm1,hle,hj,haf⟩:=SB (TB:=TB) ht hfew hm.1 hF hcl (.inr ⟨w.take (i+1),w.drop (i+1),by rw [List.take_append_drop];exact how,hrn1⟩)
    rw [hd,Hm] at hs
    generalize IH t F=b at *
    (repeat' first|(refine sA rfl ?_ ?_;first|exact tI|omega) |refine t4 rfl ‹_› rfl ?_ |refine s2 rfl fun _ _hb=>?_ |refine s3 rfl ?_ ?_<;>rintro rfl |refine aU rfl ?_ |refine Aa ?_|(refine aC rfl ?_ ?_<;>rintro ⟨⟩));all_goals try contradiction
    all_goals first| (exfalso;(simp only[oZ] at *;omega);done)|skip
    · have hb:b=false:=by simpa using _hb
      subst hb
      refine aK ?_
      refine aS (aB ?_)
      (repeat first|refine tA rfl ?_ |refine sP rfl (hla) rfl ?_ |refine aU rfl ?_)
      (refine pW rfl ?_ rfl (by rfl);refine A8 [0,1,2,3,4] rfl rfl 1 (haf) (by decide) ⟨rfl,by decide,by decide⟩ rfl (by simp[cX,zC,hΓ,AE]) ?_;rintro x0 σ1 nx1 ⟨rfl,rfl,rfl⟩ _)
      (repeat first|refine tA rfl ?_)
      refine Aa ?_
      (repeat first|(refine sA rfl ?_ ?_;first|exact tI|omega) |refine aU rfl ?_ |refine Aa ?_)
      refine ⟨⟨⟨i+1,j,m1⟩,by omega,⟨hm1,hle 0 _ hm.2⟩,_,hj,by simpa using hs,hrn1⟩,by dsimp only;(omega),[0,5,6,7,8],?_⟩
      simp[cX,zC,hΓ,AE]
    · have hb:b=true:=by simpa using _hb
      subst hb
      have hs:LS t w=false:=by simpa using hs.symm
      rw [hs]
      refine aE ?_
      (repeat first|(refine sA rfl ?_ ?_;first|exact tI|omega) |refine t4 rfl ‹_› rfl ?_ |refine s2 rfl fun _ _hb=>?_ |refine aU rfl ?_ |refine Aa ?_)
      refine aR ⟨_,rfl,[0,1,2,3,4],eB false,JL t m,⟨by intro i hi;match i with|0=>rfl,by decide⟩,by subst_vars;rfl,by (simp[cX,zC,hΓ,AE]),rfl,rfl,m,hm,rfl⟩
  · obtain rfl:i=w.length:=by omega
    rw [List.drop_length,Hm] at hs
    rw [←hs]
    (repeat' first|(refine sA rfl ?_ ?_;first|exact tI|omega) |refine t4 rfl ‹_› rfl ?_ |refine s2 rfl fun _ _hb=>?_ |refine s3 rfl ?_ ?_<;>rintro rfl |refine aU rfl ?_ |refine Aa ?_|(refine aC rfl ?_ ?_<;>rintro ⟨⟩));all_goals try contradiction
    all_goals first| (exfalso;(simp only[oZ] at *;omega);done)|skip
    refine aE ?_
    (repeat first|(refine sA rfl ?_ ?_;first|exact tI|omega) |refine t4 rfl ‹_› rfl ?_ |refine s2 rfl fun _ _hb=>?_ |refine aU rfl ?_ |refine Aa ?_)
    refine aR ⟨_,rfl,[0,1,2,3,4],eB (!IH t F),JL t m,⟨by intro i hi;match i with|0=>rfl,by decide⟩,by subst_vars;rfl,by (simp[cX,zC,hΓ,AE]),rfl,rfl,m,hm,rfl⟩
def GB (t:B8) (ok:W→Prop):Hid:=⟨{m:EM // Jm t ok m},fun s=>JL t s.1,5⟩
theorem Ut {tabs:List (Nat×Obj)} [DZ ⟨tabs,none⟩] {t:B8} {ok:W→Prop} (ht:AR t=true) (hfew:Wg t ok) {r:Nat} {w:W} (how:ok w) (hw:∀c∈w,0≤(c.toNat:Int) - 97∧(c.toNat:Int) - 97 < 6) (hwl:w.length≤1048576) :
    Pure Tryz.prog ⟨tabs,some (GB t ok,r)⟩ 108 [.o (Fk r),eT w] (eB (LS t w)):=
  TQ (H:=GB t ok) (k:=14) (es:=[eT w]) ⟨_,Tryz.func108,by kernel_rfl,rfl⟩ (by intro e he;simp at he;subst he;rfl) rfl fun s=>
    ⟨(Nw (TB:=⟨tabs,none⟩) ht hfew s.2 how hw hwl).1,fun V vs S hg ha=>((Nw (TB:=⟨tabs,none⟩) ht hfew s.2 how hw hwl).2 V vs S hg ha).mono fun e w' ⟨V',v,x,σ',h1,h2,h3,h4,h5,h6,m,h7,h8⟩=>⟨V',v,x,σ',h1,h2,h3,h4,h5,h6,⟨m,h7⟩,h8⟩⟩
section
variable {P:Program} {Γ:Ctx} {d:Option Tmp} {ty:TypeId} {pos:String} {af:Array Edge} {g:Option (Nat×Bool)} {f:Env} {σ:Ab} {nx:Nat}
variable {K:E→Ab→Nat→Prop}
theorem RI {t:TypeId} {z:List Value} {fl:List (Nat×Nat)} {parts:Array (Nat×Operand)} {es:List E} {qs:List (Nat×List C)} [hz:Bz P t z] [hf:DG P t fl] (p k e q k' e' s k'' e'':Nat) (hp:z[p]? = some (.slice none 0 0)) (hp':z[q]? = some (.slice none 0 0)) (hp'':z[s]? = some (.slice none 0 0)) (hpq:p≠q∧p≠s∧q≠s) (hes:GI f (parts.toList.map (·.2))=some es) (hq:DK fl parts.toList es=some qs)
    (hok:z.all Lr=true) (hle:(qs.all fun x=>Nat.ble (x.1+x.2.length) z.length)=true) (hK:K (.a (BK qs ((((z.map zC).set p (.arr nx k 0 0)).set q (.arr (nx+1) k' 0 0)).set s (.arr (nx+2) k'' 0 0)))) ((nx+2,.cells e'' k'' [])::(nx+1,.cells e' k' [])::(nx,.cells e k [])::σ) (nx+3)):B3 P TB Γ ⟨d,.build t parts,ty,pos,af,g⟩ f σ nx K:=
  CD fun V ρ h1 h2 h3=>by
    subst h3
    obtain ⟨i,zv,hi,hzv,hzz⟩:=FP hz.out
    obtain ⟨hi1,he1⟩:=h2.alloc (c:=0) (nl:=True) (w:=V.w) (ob:=.cells e k []) rfl rfl rfl rfl (Nat.le_refl _) (fun _ _=>rfl) (.inl ⟨by simp [Al],rfl⟩)
    obtain ⟨hi2,he2⟩:=hi1.alloc (c:=0) (nl:=True) (w:=V.w) (ob:=.cells e' k' []) rfl rfl rfl rfl (Nat.le_refl _) (fun _ _=>rfl) (.inl ⟨by simp [Al],rfl⟩)
    obtain ⟨hi4,he4⟩:=hi2.alloc (c:=0) (nl:=True) (w:=V.w) (ob:=.cells e'' k'' []) rfl rfl rfl rfl (Nat.le_refl _) (fun _ _=>rfl) (.inl ⟨by simp [Al],rfl⟩)
    have he3:=(he1.trans he2).trans he4
    have hfo:=Cs (V:=Al (Al (Al V V.w.heap.size 0 True V.w) V.w.heap.size 0 True V.w) V.w.heap.size 0 True V.w) (ρ:=ρ) parts.toList es qs (fun x hx e he=>(h1.get (by simp only [Op.operands];simpa using hx) he).ext he3) hes hq
    have hzr : Cr (Al (Al (Al V V.w.heap.size 0 True V.w) V.w.heap.size 0 True V.w) V.w.heap.size 0 True V.w) ((((z.map zC).set p (.arr V.nx k 0 0)).set q (.arr (V.nx+1) k' 0 0)).set s (.arr (V.nx+2) k'' 0 0)) zv.cells:=by
      refine ⟨by rw [List.length_set,List.length_set,List.length_set,List.length_map,←hzz];simp,fun j c v hj hv=>?_⟩
      have hzj:z[j]? = some v:=by rw [←hzz,Array.getElem?_toList];exact hv
      by_cases hjs:s=j
      · subst hjs
        rw [hp''] at hzj
        injection hzj with hzj
        subst hzj
        rw [List.getElem?_set_self (by rw [List.length_set,List.length_set,List.length_map];exact (List.getElem?_eq_some_iff.1 hp'').1)] at hj
        injection hj with hj
        subst hj
        exact Ay.nil (by simp [Al]) (by simp [Al])
      · rw [List.getElem?_set_ne hjs] at hj
        by_cases hjq:q=j
        · subst hjq
          rw [hp'] at hzj
          injection hzj with hzj
          subst hzj
          rw [List.getElem?_set_self (by rw [List.length_set,List.length_map];exact (List.getElem?_eq_some_iff.1 hp').1)] at hj
          injection hj with hj
          subst hj
          exact Ay.nil (by simp [Al]) (by simp [Al])
        · rw [List.getElem?_set_ne hjq] at hj
          by_cases hjp:p=j
          · subst hjp
            rw [hp] at hzj
            injection hzj with hzj
            subst hzj
            rw [List.getElem?_set_self (by rw [List.length_map];exact (List.getElem?_eq_some_iff.1 hp).1)] at hj
            injection hj with hj
            subst hj
            exact Ay.nil (by simp [Al];omega) (by simp [Al])
          · rw [List.getElem?_set_ne hjp,List.getElem?_map,hzj] at hj
            injection hj with hj
            subst hj
            exact HJ (List.all_eq_true.1 hok v (List.mem_of_getElem? hzj))
    obtain ⟨cells,h4,h5⟩:=Ek _ _ _ _ hfo hzr (fun x hx=>by rw [List.length_set,List.length_set,List.length_set,List.length_map];exact Gl _ _ hle x hx)
    have hb:=run_build (P:=P) (ρ:=ρ) (parts:=parts) (V:=V) hi hzv hf.out h4
    refine ⟨.agg cells,_,_,_,?_,he3,hi4,(show A2 _ (.a _) _ from ⟨cells,rfl,h5⟩),hK⟩
    show ((do let v ←Instr.build t (parts.map fun (i,x)=>(i,ρ x));pure (Go.Next.value v):Sem Go.Next)).run P V.w=_
    simp only [Sem.run_bind,hb,Result.andThen_ok]
    rfl
end
theorem Gt {a b:Int} (ha:Bn a=true) (hb:Bn b=true):Af (EG .i64 a b)=(Af a).filter fun l=>!DQ b l.toNat:=by
  have key:((List.range 64).all fun x=>(List.range 64).all fun y=>decide (Af (EG .i64 (x:Nat) (y:Nat))=(Af (x:Nat)).filter fun l=>!DQ (y:Nat) l.toNat))=true:=by kernel_rfl
  unfold Bn at ha hb
  simp only [decide_eq_true_eq] at ha hb
  have h1:=List.all_eq_true.1 key a.toNat (List.mem_range.2 (by omega))
  have h2:=List.all_eq_true.1 h1 b.toNat (List.mem_range.2 (by omega))
  rw [Int.toNat_of_nonneg ha.1,Int.toNat_of_nonneg hb.1] at h2
  exact of_decide_eq_true h2
abbrev UC (t:B8):List D:=[iD t.s.al,iD t.s.st,EO t.s.es,iD t.q.al,DA t.q.nx,FT t.q.ac,iD t.al]
abbrev Gk (t:B8):E:=.a ((UC t).map .d)
theorem Oa (t:B8) (ok:W→Prop):Hg t ok ⟨[],[],[]⟩:=⟨rfl,rfl,List.nodup_nil,by simp,by simp,by simp,by simp⟩
theorem Ig [DZ TB] {t:B8} (ht:AR t=true) (ok:W→Prop):∃m,Jm t ok m∧AN Tryz.prog TB 107 0 [] 0 [Gk t] (fun x σ nx=>x=.o (.ptr 0 14 0 0)∧σ=JL t m∧nx=5):=by
  have hs:BD t.s=true:=by unfold AR at ht;simp only [Bool.and_eq_true] at ht;exact ht.1
  have hta:Bn t.al=true:=by unfold AR at ht;simp only [Bool.and_eq_true] at ht;exact ht.2.2
  have hsh:=B7 hs
  have hz:=Lp ht
  obtain ⟨m1,k,hcase,hadd⟩:=SA (TB:=TB) ht (Oa t ok) (by simp) (Jg ht)
  have hm1:m1=Hd t ⟨[],[],[]⟩ (Cf t):=by
    rcases hcase with ⟨_,h2⟩|⟨h2,_,_⟩
    · simp at h2
    · exact h2
  have hcl:=N8 (TB:=TB) ht ⟨[],[],[]⟩ hz
  refine ⟨m1,⟨by rw [hm1];exact Qd (Oa t ok) .start (.inl rfl) (by simp),by rw [hm1];rfl⟩,?_⟩
  have hmv:=PC (TB:=TB) t.s hs
  have htb:=HG (TB:=TB) t.q (Cp ht)
  have hlo:=Dp (TB:=TB) (EG .i64 t.s.al t.al)
  rw [Gt hsh.1 hta] at hlo
  have hlo:Pure Tryz.prog TB 94 [eI .i64 (EG .i64 t.s.al t.al)] (A7 (Cg t)):=hlo
  rw [show O5 t IC=Cf t from rfl] at hcl
  have hmp:mapA .u16 (LC [])=[]:=rfl
  have hpz:EK IC=[1,0,0,0,0,0,0,0,0,0,0,0]:=rfl
  refine AN.AP (AN.NM (m:=0) (Nat.le_of_ble_eq_true rfl) Tryz.func107 rfl (by kernel_rfl) (Nat.le_of_ble_eq_true rfl) ?_);intro Γ hΓ
  (repeat first|refine tA rfl ?_ |refine aU rfl ?_ |refine Aa ?_)
  refine rG (JU [(14,1),(15,1),(16,1)]) (by kernel_rfl) ?_
  (repeat first|refine tX rfl ?_ |refine sP rfl (hmv) rfl ?_|refine sP rfl (htb) rfl ?_|refine sP rfl (hlo) rfl ?_|(refine Ag rfl ?_;refine gA rfl ?_;first| refine gS (fun _ _=>TS rfl rfl rfl) ?_))
  (refine pW rfl ?_ rfl (by rfl);refine Mt ?_)
  (refine pW rfl ?_ rfl (by rfl);refine RI 10 12 147 12 6 96 13 1 4 rfl rfl rfl (by decide) rfl rfl (by rfl) (by rfl) ?_)
  (refine pW rfl ?_ rfl (by rfl);refine Es rfl rfl ?_)
  (repeat first|refine tA rfl ?_)
  refine Aa ?_
  refine Ai.Ak [] [] rfl rfl [(3,.o (.ptr 0 14 0 0))] [(0,.cells 143 14 [Us t (.arr 1 12 0 0) (.mp 2) (.arr 3 6 0 0) (.arr 4 1 0 0)]),(1,.cells 147 12 []),(2,.mp []),(3,.cells 96 6 []),(4,.cells 4 1 [])] [4,1,0,2,3] (rl hΓ rfl) (by (simp[cX,zC,hΓ,AE])) ?_;(try dsimp only[cA,cB])
  (repeat first|refine tA rfl ?_|(refine Ag rfl ?_;refine gA rfl ?_;first| refine gS (fun _ _=>Au rfl rfl (by rfl) (by rfl)) ?_) |refine aU rfl ?_)
  (refine pW rfl ?_ rfl (by rfl);refine Ac [0,1,2,3,4] rfl rfl (hcl) ⟨rfl,by decide,by decide⟩ rfl (by simp[cX,zC,hΓ,AE,hpz,hmp]) ?_;rintro x0 σ1 nx1 ⟨rfl,rfl,rfl⟩ _)
  (refine pW rfl ?_ rfl (by rfl);refine A8 [0,1,2,3,4] rfl rfl 1 (hadd) (by decide) ⟨rfl,by decide,by decide⟩ rfl (by simp[cX,zC,hΓ,AE]) ?_;rintro x0 σ1 nx1 ⟨rfl,rfl,rfl⟩ _)
  refine Aa ?_
  (repeat first|refine tA rfl ?_ |refine aU rfl ?_ |refine Aa ?_)
  refine aR ⟨_,rfl,[0,5,6,7,8],.o (.ptr 0 14 0 0),JL t m1,⟨by intro i hi;omega,by decide⟩,rfl,by (simp[cX,zC,hΓ,AE]),rfl,rfl,rfl⟩
theorem Py {es:List Dw} {l:Int} {m k:Nat} {e:Dw} (he:es[k]? = some e):BB (es.take (k+1)) l m=if e.l=l∧m.testBit e.f.toNat=true then BB (es.take k) l m ||| 2 ^ e.t.toNat else BB (es.take k) l m:=by
  unfold BB
  rw [List.take_add_one,he,List.foldl_append];rfl
theorem Ou {s:Sys} (hs:BD s=true) {l:Int} {m k:Nat}:BB (s.es.take k) l m < 65536:=GG fun j hj=>by
  obtain ⟨e,he,_,rfl⟩:=DC.1 hj
  have hb:=CE hs (List.mem_of_mem_take he)
  have hh:=B7 hs
  unfold CT at hb
  simp only [Bool.and_eq_true,decide_eq_true_eq] at hb
  omega
theorem Mm {s:Sys} (hs:BD s=true) (l:Int) {m:Nat} (hm:m < 65536):Pure Tryz.prog TB 200 [CS s,eI .i64 (m:Nat),eI .i64 l] (eI .i64 (BB s.es l m:Nat)):=by
  have hh:=B7 hs
  refine eG Tryz.func200 rfl (by kernel_rfl) rfl ?_;intro Γ hΓ
  refine Ai.bound 0 rfl fun hB0=>?_
  have hB:=hB0 (s.es.map CZ) ⟨2,_,rfl,.refl⟩
  rw [List.length_map] at hB
  (repeat first|refine tA rfl ?_ |refine aU rfl ?_ |refine Aa ?_)
  refine aB ?_
  refine aL (α:={k:Nat // k≤s.es.length}) [1,2,3] [] rfl rfl (fun ⟨k,hk⟩=>[(7,eI .i64 (BB (s.es.take k) l m:Nat)),(8,eI .i64 k)]) (fun ⟨k,hk⟩=>[]) 0 (fun ⟨k,hk⟩=>s.es.length - k) (⟨0,by omega⟩) hΓ rfl (by (simp[cX,zC,hΓ]<;>rfl)) ?_;rintro ⟨k,hk⟩;(try dsimp only[cA,cB])
  by_cases hlt:k < s.es.length
  · obtain ⟨e,he⟩:=get_some hlt
    have he':=get_map (g:=CZ) he
    have hee:(s.es.map CZ)[((k:Nat):Int).toNat]? = some (CZ e):=by rw [Int.toNat_natCast];exact he'
    have hb:=CE hs (List.mem_of_getElem? he)
    unfold CT at hb
    simp only [Bool.and_eq_true,decide_eq_true_eq] at hb
    have hst:=Py (l:=l) (m:=m) he
    have hlt1:=Ou hs (l:=l) (m:=m) (k:=k)
    have hh1:=C4 (TB:=TB) (m:Nat) e.f (by omega) (by omega)
    rw [HO (by omega) (by omega)] at hh1
    have hbt:=On (TB:=TB) e.t (by omega) (by omega)
    have hp2:2 ^ e.t.toNat < 65536:=by
      have:2 ^ e.t.toNat≤2 ^ 15:=Nat.pow_le_pow_right (by omega) (by omega)
      omega
    have hor:=JW (a:=BB (s.es.take k) l m) (b:=2 ^ e.t.toNat) (by omega) (by omega)
    generalize 2 ^ e.t.toNat=p2 at *
    (repeat first|refine sN rfl ?_ |refine tA rfl ?_ |refine s2 rfl fun _ _hb=>?_ |refine aU rfl ?_ |refine Aa ?_)
    ((refine aC rfl ?_ ?_<;>rintro ⟨⟩);all_goals try(exfalso;(simp only[oZ] at *;omega)))
    refine aK ?_
    refine aS (aB ?_)
    (repeat' first|(refine sA rfl ?_ ?_;first|exact tI|omega) |(refine s4 rfl ‹_› rfl ?_ ?_;omega) |refine s2 rfl fun _ _hb=>?_ |(refine sC rfl (hh1) ?_;intro _ _hb)|refine sP rfl (hbt) rfl ?_ |refine s3 rfl ?_ ?_<;>rintro rfl |refine aU rfl ?_ |refine Aa ?_|(refine aC rfl ?_ ?_<;>rintro ⟨⟩));all_goals try contradiction
    · refine ⟨⟨k+1,by omega⟩,by dsimp only;(omega),[],?_⟩
      have h1:BB (s.es.take (k+1)) l m=BB (s.es.take k) l m ||| p2:=by rw [hst,if_pos ⟨by simpa using ‹decide (e.l=l)=true›,_hb⟩]
      simp[cX,zC,hΓ,hor,h1]
    · have h1:BB (s.es.take (k+1)) l m=BB (s.es.take k) l m:=by rw [hst,if_neg (by simp [_hb])]
      refine aK ?_
      (repeat first|(refine sA rfl ?_ ?_;first|exact tI|omega) |refine aU rfl ?_ |refine Aa ?_)
      refine ⟨⟨k+1,by omega⟩,by dsimp only;(omega),[],?_⟩
      simp[cX,zC,hΓ,h1]
    · have h1:BB (s.es.take (k+1)) l m=BB (s.es.take k) l m:=by rw [hst,if_neg (fun h=>by simp [h.1] at _hb)]
      refine aK ?_
      (repeat first|(refine sA rfl ?_ ?_;first|exact tI|omega) |refine aU rfl ?_ |refine Aa ?_)
      refine ⟨⟨k+1,by omega⟩,by dsimp only;(omega),[],?_⟩
      simp[cX,zC,hΓ,h1]
  · obtain rfl:k=s.es.length:=by omega
    rw [List.take_length]
    (repeat first|refine sN rfl ?_ |refine tA rfl ?_ |refine s2 rfl fun _ _hb=>?_ |refine aU rfl ?_ |refine Aa ?_)
    ((refine aC rfl ?_ ?_<;>rintro ⟨⟩);all_goals try(exfalso;(simp only[oZ] at *;omega)))
    refine aE ?_
    (repeat first|refine tA rfl ?_ |refine aU rfl ?_ |refine Aa ?_)
    (subst_vars;exact aR ⟨_,rfl,rfl⟩)
abbrev I9 (n:Nat) (F:PS):List Int:=(List.range n).map fun p=>(F p:Int)
def Cl (t:B8) (G:PS) (i k:Nat):Prop:=∀p,p < t.q.nx.length→∀l∈Cg t,(p < i∨(p=i∧l∈(Cg t).take k))→∀j,(BB t.s.es l (G p)).testBit j=true→(G (Dj t.q p l).toNat).testBit j=true
structure NT (t:B8) (F0 F:PS) (i k:Nat) (G:PS) (b:Bool):Prop where
  ok:CB t G
  lo:∀p j,(F0 p).testBit j=true→(G p).testBit j=true
  hi:∀p j,(G p).testBit j=true→NI t F0 p j
  le:∀p,F p≤G p
  yes:b=true→JK G < JK F
  no:b=false→G=F∧Cl t F i k
theorem Vu {F G:PS} (h:∀p,F p≤G p):JK G≤JK F:=by
  unfold JK
  repeat' apply Nat.add_le_add
  all_goals exact Nat.sub_le_sub_left (h _) _
def PV (G:PS) (x v:Nat):PS:=fun p=>if p=x then v else G p
theorem NT.Lb {t:B8} (ht:AR t=true) {F0 F G:PS} {i k:Nat} {b:Bool} (h:NT t F0 F i k G b) (hi:i < t.q.nx.length) {l:Int} (hk:(Cg t)[k]? = some l) {x:Nat} (hx:Dj t.q i l=(x:Int)) (hne:G x ||| BB t.s.es l (G i)≠G x):NT t F0 F i (k+1) (PV G x (G x ||| BB t.s.es l (G i))) true:=by
  have hl:=List.mem_of_getElem? hk
  have hin:=FA ht hl
  have hga:=Gp (Cp ht) hi hin.1 hin.2.1
  have hss:=Gz ht (l:=l) (h.ok.lt i)
  unfold Cz at hss
  rw [if_pos hin.2.2] at hss
  have hlt:G x ||| BB t.s.es l (G i) < 65536:=by have:=Nat.or_lt_two_pow (n:=16) (h.ok.lt x) hss;omega
  have hle:∀p,G p≤PV G x (G x ||| BB t.s.es l (G i)) p:=fun p=>by
    unfold PV
    split
    · rename_i e;subst e;exact Nat.left_le_or
    · exact Nat.le_refl _
  refine ⟨⟨fun p=>?_,fun p hp=>?_⟩,fun p j hj=>?_,fun p j hj=>?_,fun p=>Nat.le_trans (h.le p) (hle p),fun _=>?_,fun h=>by cases h⟩
  · unfold PV
    split
    · exact hlt
    · exact h.ok.lt p
  · unfold PV
    rw [if_neg (by omega)];exact h.ok.z p hp
  · have:=h.lo p j hj
    unfold PV
    split
    · rename_i e;subst e;rw [Nat.testBit_or,this];rfl
    · exact this
  · unfold PV at hj
    split at hj
    · rename_i e
      subst e
      rw [Nat.testBit_or,Bool.or_eq_true] at hj
      rcases hj with hj|hj
      · exact h.hi p j hj
      · obtain ⟨e,he,⟨h3,h4⟩,h5⟩:=DC.1 hj
        subst h3
        have:=NI.step (h.hi i _ h4) he hl rfl
        rw [hx,h5] at this
        simpa using this
    · exact h.hi p j hj
  · have h1:=Vu h.le
    refine Nat.lt_of_lt_of_le (Qw h.ok.lt (fun p=>?_) hle fun he=>hne ?_) h1
    · unfold PV
      split
      · exact hlt
      · exact h.ok.lt p
    · have hn:=AX (Cp ht)
      have:=Nn he x (by omega)
      simpa [PV] using this
theorem NT.Y6 {t:B8} (ht:AR t=true) {F0 F G:PS} {i k:Nat} {b:Bool} (h:NT t F0 F i k G b) {l:Int} (hk:(Cg t)[k]? = some l) {x:Nat} (hx:Dj t.q i l=(x:Int)) (he:G x ||| BB t.s.es l (G i)=G x):NT t F0 F i (k+1) G b:=
  ⟨h.ok, h.lo,h.hi,h.le,h.yes,fun hb=>by
    obtain ⟨rfl,hc⟩:=h.no hb
    refine ⟨rfl,fun p hp l' hl' hor j hj=>?_⟩
    rcases hor with h1|⟨rfl,h1⟩
    · exact hc p hp l' hl' (.inl h1) j hj
    · rw [List.take_add_one,hk] at h1
      rcases List.mem_append.1 h1 with h1|h1
      · exact hc p hp l' hl' (.inr ⟨rfl,h1⟩) j hj
      · simp at h1
        subst h1
        rw [hx,Int.toNat_natCast,←he,Nat.testBit_or,hj,Bool.or_true]⟩
theorem NT.row {t:B8} {F0 F G:PS} {i:Nat} {b:Bool} (h:NT t F0 F i (Cg t).length G b):NT t F0 F (i+1) 0 G b:=
  ⟨h.ok,h.lo,h.hi,h.le,h.yes,fun hb=>by
    obtain ⟨rfl,hc⟩:=h.no hb
    refine ⟨rfl,fun p hp l' hl' hor j hj=>?_⟩
    rcases hor with h1|⟨rfl,h1⟩
    · rcases Nat.lt_or_ge p i with h2|h2
      · exact hc p hp l' hl' (.inl h2) j hj
      · exact hc p hp l' hl' (.inr ⟨by omega,by rw [List.take_length];exact hl'⟩) j hj
    · simp at h1⟩
theorem NT.done {t:B8} (ht:AR t=true) {F0 F G:PS} (h0:CB t F0) (h:NT t F0 F t.q.nx.length 0 G false):G=O5 t F0:=by
  obtain ⟨rfl,hc⟩:=h.no rfl
  exact SO ht h0 h.ok.z h.lo h.hi fun p l j hp hl hj=>hc p hp l hl (.inl hp) j hj
theorem VX {a b:Int} (ha:Bn a=true) (hb:Bn b=true):a - DH .i64 a b=EG .i64 a b∧0≤DH .i64 a b∧DH .i64 a b≤63:=by
  have key:((List.range 64).all fun x=>(List.range 64).all fun y=>decide (((x:Nat):Int) - DH .i64 (x:Nat) (y:Nat)=EG .i64 (x:Nat) (y:Nat)∧0≤DH .i64 (x:Nat) (y:Nat)∧DH .i64 (x:Nat) (y:Nat)≤63))=true:=by kernel_rfl
  unfold Bn at ha hb
  simp only [decide_eq_true_eq] at ha hb
  have h1:=List.all_eq_true.1 key a.toNat (List.mem_range.2 (by omega))
  have h2:=List.all_eq_true.1 h1 b.toNat (List.mem_range.2 (by omega))
  rw [Int.toNat_of_nonneg ha.1,Int.toNat_of_nonneg hb.1] at h2
  exact of_decide_eq_true h2
theorem Nm {n x v:Nat} {G:PS}:((I9 n G).map AY).set x (AY (v:Int))=(I9 n (PV G x v)).map AY:=by
  apply List.ext_getElem?
  intro i
  rw [List.getElem?_set]
  by_cases hi:i < n
  · have h1:∀H:PS,((I9 n H).map AY)[i]? = some (AY (H i:Int)):=fun H=>by simp [hi]
    rw [h1,h1]
    unfold PV
    by_cases e:x=i
    · subst e;rw [if_pos rfl,if_pos (by simpa using hi),if_pos rfl]
    · rw [if_neg e,if_neg (fun h=>e h.symm)]
  · have h1:∀H:PS,((I9 n H).map AY)[i]? = none:=fun H=>List.getElem?_eq_none (by simp;omega)
    rw [h1,h1]
    by_cases e:x=i
    · subst e;rw [if_pos rfl,if_neg (by simpa using hi)]
    · rw [if_neg e]
theorem Nl {n x:Nat} {G:PS} (h:x < n):((I9 n G).map AY)[0+((x:Nat):Int).toNat]? = some (AY (G x:Int)):=by rw [Nat.zero_add,Int.toNat_natCast];simp [h]
theorem NT.start {t:B8} {F0 F:PS} (hF:CB t F) (h1:∀p j,(F0 p).testBit j=true→(F p).testBit j=true) (h2:∀p j,(F p).testBit j=true→NI t F0 p j):NT t F0 F 0 0 F false:=
  ⟨hF,h1,h2,fun _=>Nat.le_refl _,fun h=>(by cases h),fun _=>⟨rfl,fun p _ l _ h=>by simp at h⟩⟩
theorem KA {t:B8} (ht:AR t=true) {F0:PS} (hF0:CB t F0):Spec Tryz.prog TB 199 [(0,.cells 3 1 ((I9 t.q.nx.length F0).map AY))] 1 [Gk t,.o (.arr 0 1 0 t.q.nx.length)] (fun x σ nx=>x=.o (.arr 0 1 0 t.q.nx.length)∧σ=[(0,.cells 3 1 ((I9 t.q.nx.length (O5 t F0)).map AY))]∧nx=1):=by
  have hs:BD t.s=true:=by unfold AR at ht;simp only [Bool.and_eq_true] at ht;exact ht.1
  have hta:Bn t.al=true:=by unfold AR at ht;simp only [Bool.and_eq_true] at ht;exact ht.2.2
  have hsh:=B7 hs
  have haut:=Cp ht
  have hah:=AX haut
  have hsa:=VX hsh.1 hta
  have hla:=hsh.1
  unfold Bn at hla
  simp only [decide_eq_true_eq] at hla
  have hlo:Pure Tryz.prog TB 88 [eI .i64 (t.s.al - DH .i64 t.s.al t.al)] (A7 (Cg t)):=by
    have:=BZ (TB:=TB) (t.s.al - DH .i64 t.s.al t.al)
    rw [hsa.1,Gt hsh.1 hta] at this
    rw [hsa.1];exact this
  have hll:(Cg t).length≤6:=by
    unfold Cg
    have h1:(Af t.s.al).length≤6:=AM _ _
    exact Nat.le_trans (List.length_filter_le _ _) h1
  refine eR Tryz.func199 rfl (by kernel_rfl) rfl ?_;intro Γ hΓ
  (repeat first|(refine sA rfl ?_ ?_;first|exact tI|omega) |refine sP rfl (hlo) rfl ?_ |refine aU rfl ?_ |refine Aa ?_)
  refine aB ?_
  refine aL (α:={s:PS×Bool // CB t s.1∧(∀p j,(F0 p).testBit j=true→(s.1 p).testBit j=true)∧(∀p j,(s.1 p).testBit j=true→NI t F0 p j)∧(s.2=false→s.1=O5 t F0)}) [1,2,5] [] rfl rfl (fun s=>[(6,eB s.1.2)]) (fun s=>[(0,.cells 3 1 ((I9 t.q.nx.length s.1.1).map AY))]) 1 (fun s=>(if s.1.2 then JK s.1.1+1 else 0)) (⟨⟨F0,true⟩,hF0,fun _ _ h=>h,fun _ _ h=>.base h,fun h=>by cases h⟩) hΓ rfl (by (simp[cX,zC,hΓ])) ?_;rintro ⟨⟨F,b⟩,hF,h1,h2,h3⟩;(try dsimp only[cA,cB])
  have hF:CB t F:=hF
  cases b with
  | false=>
    obtain rfl:F=O5 t F0:=h3 rfl
    (repeat first|refine tA rfl ?_ |refine aU rfl ?_ |refine Aa ?_)
    (refine aC rfl ?_ ?_<;>rintro ⟨⟩)
    refine aE ?_
    (repeat first|refine tA rfl ?_ |refine aU rfl ?_ |refine Aa ?_)
    refine aR ⟨_,rfl,[0],.o (.arr 0 1 0 t.q.nx.length),_,⟨by intro i hi;match i with|0=>rfl,by decide⟩,rfl,?_,rfl,rfl,rfl⟩
    (simp[cX,zC,hΓ])
  | true =>
    (repeat first|refine tA rfl ?_ |refine aU rfl ?_ |refine Aa ?_)
    (refine aC rfl ?_ ?_<;>rintro ⟨⟩)
    refine aK ?_
    refine aB ?_
    (repeat first|refine tA rfl ?_ |refine aU rfl ?_ |refine Aa ?_)
    refine aB ?_
    refine aL (α:={s:Nat×PS×Bool // s.1≤t.q.nx.length∧NT t F0 F s.1 0 s.2.1 s.2.2}) [1,2,5] [] rfl rfl (fun s=>[(6,eB s.1.2.2),(7,eI .i64 s.1.1)]) (fun s=>[(0,.cells 3 1 ((I9 t.q.nx.length s.1.2.1).map AY))]) 1 (fun s=>t.q.nx.length - s.1.1) (⟨⟨0,F,false⟩,by simp,.start hF h1 h2⟩) hΓ rfl (by (simp[cX,zC,hΓ])) ?_;rintro ⟨⟨i,G,b⟩,hi,hG⟩;(try dsimp only[cA,cB])
    have hi:i≤t.q.nx.length:=hi
    have hG:NT t F0 F i 0 G b:=hG
    by_cases hin:i < t.q.nx.length
    · (repeat first|refine tA rfl ?_ |refine s2 rfl fun _ _hb=>?_ |refine aU rfl ?_ |refine Aa ?_)
      ((refine aC rfl ?_ ?_<;>rintro ⟨⟩);all_goals try(exfalso;(simp only[oZ] at *;omega)))
      refine aK ?_
      refine aS (aB ?_)
      (repeat first|refine tA rfl ?_ |refine aU rfl ?_ |refine Aa ?_)
      refine aB ?_
      refine aL (α:={s:Nat×PS×Bool // s.1≤(Cg t).length∧NT t F0 F i s.1 s.2.1 s.2.2}) [1,2,5,7] [] rfl rfl (fun s=>[(6,eB s.1.2.2),(8,eI .i64 s.1.1)]) (fun s=>[(0,.cells 3 1 ((I9 t.q.nx.length s.1.2.1).map AY))]) 1 (fun s=>(Cg t).length - s.1.1) (⟨⟨0,G,b⟩,by simp,hG⟩) hΓ rfl (by (simp[cX,zC,hΓ])) ?_;rintro ⟨⟨k,G',b'⟩,hk,hG'⟩;(try dsimp only[cA,cB])
      have hk:k≤(Cg t).length:=hk
      have hG':NT t F0 F i k G' b':=hG'
      clear hG
      by_cases hkl:k < (Cg t).length
      · obtain ⟨l,hlk⟩:=get_some hkl
        have hin':=FA ht (List.mem_of_getElem? hlk)
        have hl':((Cg t).map Db)[((k:Nat):Int).toNat]? = some (Db l):=by rw [Int.toNat_natCast];simp [hlk]
        have hgo:=MW (TB:=TB) t.q haut i hin l hin'.1 hin'.2.1
        have hga:=Gp haut hin hin'.1 hin'.2.1
        obtain ⟨x,hx⟩:∃x:Nat,Dj t.q i l=x:=⟨(Dj t.q i l).toNat,by omega⟩
        rw [hx] at hgo hga
        have hst:=Mm (TB:=TB) hs l (hG'.ok.lt i)
        have hms:BB t.s.es l (G' i) < 65536:=by
          have:=Ou hs (l:=l) (m:=G' i) (k:=t.s.es.length)
          rwa [List.take_length] at this
        have r1:=Nl (n:=t.q.nx.length) (G:=G') (x:=x) (by omega)
        have r2:=Nl (n:=t.q.nx.length) (G:=G') (x:=i) hin
        have hxl:=hG'.ok.lt x
        have hor:=JW (a:=G' x) (b:=BB t.s.es l (G' i)) (by omega) (by omega)
        have hset:=Nm (n:=t.q.nx.length) (x:=x) (v:=G' x ||| BB t.s.es l (G' i)) (G:=G')
        (repeat first|refine sN rfl ?_ |refine tA rfl ?_ |refine s2 rfl fun _ _hb=>?_ |refine aU rfl ?_ |refine Aa ?_)
        ((refine aC rfl ?_ ?_<;>rintro ⟨⟩);all_goals try(exfalso;(simp only[oZ] at *;omega)))
        refine aK ?_
        refine aS (aB ?_)
        (repeat first|refine aU rfl ?_)
        refine rG (Jr []) (by kernel_rfl) ?_
        (repeat first|refine tA rfl ?_ |(refine s4 rfl ‹_› rfl ?_ ?_;omega) |refine sP rfl (hgo) rfl ?_ |refine aU rfl ?_ |refine Aa ?_)
        refine rG (Jr []) (by kernel_rfl) ?_
        (repeat first|((first|refine sA rfl ?_ ?_|refine s4 rfl ‹_› rfl ?_ ?_);first|exact tI|omega) |refine s2 rfl fun _ _hb=>?_ |refine sP rfl (hst) rfl ?_ |refine aU rfl ?_ |refine Aa ?_)
        (refine aC rfl ?_ ?_<;>rintro ⟨⟩)
        · have hne:G' x ||| BB t.s.es l (G' i)≠G' x:=by
            rw [hor] at _hb
            simp only [decide_eq_true_eq] at _hb
            omega
          (repeat first|(refine sA rfl ?_ ?_;first|exact tI|omega) |refine t4 rfl ‹_› rfl ?_ |refine aU rfl ?_ |refine Aa ?_)
          have hs1:=hG'.Lb ht hin hlk hx hne
          generalize PV G' x (G' x ||| BB t.s.es l (G' i))=G2 at *
          refine ⟨⟨⟨k+1,G2,true⟩,by omega,hs1⟩,by dsimp only;(omega),[0],?_⟩
          simp[cX,zC,hΓ,hor];simpa [Function.comp_def] using hset
        · have he:G' x ||| BB t.s.es l (G' i)=G' x:=by
            rw [hor] at _hb
            simp only [decide_eq_false_iff_not] at _hb
            omega
          refine aK ?_
          (repeat first|(refine sA rfl ?_ ?_;first|exact tI|omega) |refine aU rfl ?_ |refine Aa ?_)
          refine ⟨⟨⟨k+1,G',b'⟩,by omega,hG'.Y6 ht hlk hx he⟩,by dsimp only;(omega),[0],?_⟩
          simp[cX,zC,hΓ]
      · obtain rfl:k=(Cg t).length:=by omega
        (repeat first|refine sN rfl ?_ |refine tA rfl ?_ |refine s2 rfl fun _ _hb=>?_ |refine aU rfl ?_ |refine Aa ?_)
        ((refine aC rfl ?_ ?_<;>rintro ⟨⟩);all_goals try(exfalso;(simp only[oZ] at *;omega)))
        refine aE ?_
        (repeat first|(refine sA rfl ?_ ?_;first|exact tI|omega) |refine aU rfl ?_ |refine Aa ?_)
        refine ⟨⟨⟨i+1,G',b'⟩,by omega,hG'.row⟩,by dsimp only;(omega),[0],?_⟩
        simp[cX,zC,hΓ]
    · obtain rfl:i=t.q.nx.length:=by omega
      (repeat first|refine tA rfl ?_ |refine s2 rfl fun _ _hb=>?_ |refine aU rfl ?_ |refine Aa ?_)
      ((refine aC rfl ?_ ?_<;>rintro ⟨⟩);all_goals try(exfalso;(simp only[oZ] at *;omega)))
      refine aE ?_
      refine ⟨⟨⟨G,b⟩,hG.ok,hG.lo,hG.hi,fun hb=>by have hb:b=false:=hb;subst hb;exact hG.done ht hF0⟩,by cases b<;>simp_all [hG.yes],[0],?_⟩
      simp[cX,zC,hΓ]
structure Hn (P:Program) (TB:Bc) (gA gQ:FuncId) (t:Da) (al:Int) (A:W→Bool):Prop where
  alph:Pure P TB gA [BR t] (eI .i64 al)
  ask:∀w:W,w.length≤1099511627776→Pure P TB gQ [BR t,eT w] (eB (A w))
theorem Zy {t:Da} (hk:t.kn=true):Hn Tryz.prog TB 60 101 t (if Bh t.p then t.p.al else -1) (Gh t.p):=⟨JM t hk,Kd t hk⟩
structure NJ (t:AZ):Prop where
  rl:t.rows.length≤4194304
  cl:t.cols.length≤4194304
  rb:∀w∈t.rows,w.length≤4194304
  cb:∀w∈t.cols,w.length≤4194304
theorem Fb (l:List W) (s:W) (hl:l.length≤1099511627776):Pure Tryz.prog TB 62 [Bk l,eT s] (eB (decide (s∈l))):=by
  refine eN Tryz.func62 rfl (by kernel_rfl) rfl ?_;intro Γ hΓ
  (repeat first|refine tA rfl ?_ |refine aU rfl ?_ |refine Aa ?_)
  refine aB ?_
  refine aL (α:={k:Nat // k≤l.length∧s∉l.take k}) [0,1] [] rfl rfl (fun ⟨k,hk,hn⟩=>[(5,eI .i64 k)]) (fun ⟨k,hk,hn⟩=>[]) 0 (fun ⟨k,hk,hn⟩=>l.length - k) (⟨0,by omega,by simp⟩) hΓ rfl (by (simp[cX,zC,hΓ])) ?_;rintro ⟨k,hk,hn⟩;(try dsimp only[cA,cB])
  by_cases hlt:k < l.length
  · obtain ⟨x,hx⟩:=get_some hlt
    have hx':=get_map (g:=BI) hx
    by_cases hs:x=s
    · have hm:s∈l:=hs ▸ List.mem_of_getElem? hx
      (repeat first|refine sN rfl ?_ |refine tA rfl ?_ |refine s2 rfl fun _ _hb=>?_ |refine aU rfl ?_ |refine Aa ?_)
      (refine aC rfl ?_ ?_<;>rintro ⟨⟩)
      · (repeat' first|(refine sA rfl ?_ ?_;first|exact tI|omega) |(refine s4 rfl ‹_› rfl ?_ ?_;omega) |refine s2 rfl fun _ _hb=>?_ |refine aU rfl ?_ |refine Aa ?_|(refine aC rfl ?_ ?_<;>rintro ⟨⟩)|refine aK ?_|refine aE ?_|refine aB ?_|refine aR ⟨_,rfl,?_⟩)
        · simp [hm]
        · exfalso;simp [hs] at _hb
      · exfalso;(simp only[oZ] at *;omega)
    · have hn2:s∉l.take (k+1):=by
        rw [List.take_add_one,hx]
        intro h
        rcases List.mem_append.1 h with h|h
        · exact hn h
        · simp at h;exact hs h.symm
      (repeat first|refine sN rfl ?_ |refine tA rfl ?_ |refine s2 rfl fun _ _hb=>?_ |refine aU rfl ?_ |refine Aa ?_)
      (refine aC rfl ?_ ?_<;>rintro ⟨⟩)
      · (repeat' first|(refine sA rfl ?_ ?_;first|exact tI|omega) |(refine s4 rfl ‹_› rfl ?_ ?_;omega) |refine s2 rfl fun _ _hb=>?_ |refine aU rfl ?_ |refine Aa ?_|(refine aC rfl ?_ ?_<;>rintro ⟨⟩)|refine aK ?_|refine aE ?_|refine aB ?_|refine aR ⟨_,rfl,?_⟩)
        · exfalso;simp [hs] at _hb
        · refine ⟨⟨k+1,by omega,hn2⟩,by dsimp only;(omega),[],?_⟩
          simp[cX,zC,hΓ]
      · exfalso;(simp only[oZ] at *;omega)
  · rw [List.take_of_length_le (by omega)] at hn
    (repeat first|refine sN rfl ?_ |refine tA rfl ?_ |refine s2 rfl fun _ _hb=>?_ |refine aU rfl ?_ |refine Aa ?_)
    (refine aC rfl ?_ ?_<;>rintro ⟨⟩)
    · exfalso;(simp only[oZ] at *;omega)
    · (repeat' first|refine tA rfl ?_ |refine aU rfl ?_ |refine Aa ?_|(refine aC rfl ?_ ?_<;>rintro ⟨⟩)|refine aK ?_|refine aE ?_|refine aB ?_|refine aR ⟨_,rfl,?_⟩)
      simp [hn]
theorem PA {A:W→Bool} {cols:List W} {w c:W} {k:Nat} (hc:cols[k]? = some c):marks A (cols.take (k+1)) w=marks A (cols.take k) w++[PB (A (w++c))]:=by
  unfold marks
  rw [List.take_add_one,hc];simp
theorem RG {A:W→Bool} {cols:List W} {w:W}:(marks A cols w).length=cols.length:=by simp [marks]
theorem IT {t:Da} {al:Int} {A:W→Bool} (hT:Hn Tryz.prog TB 60 101 t al A) (cols:List W) (w:W) (hl:cols.length≤4194304) (hw:w.length≤4194305) (hb:∀x∈cols,x.length≤4194304) :
    Pure Tryz.prog TB 82 [BR t,Bk cols,eT w] (eT (marks A cols w)):=by
  refine eN Tryz.func82 rfl (by kernel_rfl) rfl ?_;intro Γ hΓ
  (repeat first|refine tA rfl ?_ |refine aU rfl ?_ |refine Aa ?_)
  refine aB ?_
  refine aL (α:={k:Nat // k≤cols.length}) [1,2,3] [] rfl rfl (fun ⟨k,hk⟩=>[(7,eT (marks A (cols.take k) w)),(8,eI .i64 k)]) (fun ⟨k,hk⟩=>[]) 0 (fun ⟨k,hk⟩=>cols.length - k) (⟨0,by omega⟩) hΓ rfl (by (simp[cX,zC,hΓ]<;>rfl)) ?_;rintro ⟨k,hk⟩;(try dsimp only[cA,cB])
  have hml:(marks A (cols.take k) w).length≤4194304:=by rw [RG,List.length_take];omega
  by_cases hlt:k < cols.length
  · obtain ⟨x,hx⟩:=get_some hlt
    have hx':=get_map (g:=BI) hx
    have hxb:=hb x (List.mem_of_getElem? hx)
    have hq:=hT.ask (w++x) (by simp;omega)
    have hst:=PA (A:=A) (w:=w) hx
    (repeat first|refine sN rfl ?_ |refine tA rfl ?_ |refine s2 rfl fun _ _hb=>?_ |refine aU rfl ?_ |refine Aa ?_)
    (refine aC rfl ?_ ?_<;>rintro ⟨⟩)
    · refine aK ?_
      refine aS (aB ?_)
      (repeat first|(refine sA rfl ?_ ?_;first|exact tI|omega) |(refine s4 rfl ‹_› rfl ?_ ?_;omega) |(refine sC rfl (hq) ?_;intro _ _hb) |refine aU rfl ?_ |refine Aa ?_ |refine rE (by kernel_rfl) ?_)
      (refine aC rfl ?_ ?_<;>rintro ⟨⟩)
      · rw [_hb] at hst
        (repeat first|(refine sA rfl ?_ ?_;first|exact tI|omega|simp only[oZ] at *;omega) |refine aU rfl ?_ |refine Aa ?_)
        refine ⟨⟨k+1,by omega⟩,by dsimp only;(omega),[],?_⟩
        simp[cX,zC,hΓ,hst,PB]
      · rw [_hb] at hst
        (repeat first|(refine sA rfl ?_ ?_;first|exact tI|omega|simp only[oZ] at *;omega) |refine aU rfl ?_ |refine Aa ?_)
        refine ⟨⟨k+1,by omega⟩,by dsimp only;(omega),[],?_⟩
        simp[cX,zC,hΓ,hst,PB]
    · exfalso;(simp only[oZ] at *;omega)
  · obtain rfl:k=cols.length:=by omega
    rw [List.take_length]
    (repeat first|refine sN rfl ?_ |refine tA rfl ?_ |refine s2 rfl fun _ _hb=>?_ |refine aU rfl ?_ |refine Aa ?_)
    (refine aC rfl ?_ ?_<;>rintro ⟨⟩)
    · exfalso;(simp only[oZ] at *;omega)
    · (repeat' first|refine tA rfl ?_ |refine aU rfl ?_ |refine Aa ?_|(refine aC rfl ?_ ?_<;>rintro ⟨⟩)|refine aK ?_|refine aE ?_|refine aB ?_|refine aR ⟨_,rfl,?_⟩)
      rfl
theorem MJ {n:Nat}:List.replicate n (AY 0)=(I9 n fun _=>0).map AY:=by
  apply List.ext_getElem?
  intro i
  by_cases h:i < n
  · simp [h]
  · rw [List.getElem?_eq_none (by simp;omega),List.getElem?_eq_none (by simp;omega)]
theorem PR {n:Nat}:(List.replicate n (AY 0)).set 0 (AY 1)=(I9 n IC).map AY:=by
  rw [MJ]
  have:=Nm (n:=n) (x:=0) (v:=1) (G:=fun _=>0)
  have e:PV (fun _=>0) 0 1=IC:=by funext p;rfl
  rw [e] at this
  exact this
theorem Pw {t:B8} (ht:AR t=true):Pure Tryz.prog TB 172 [Gk t] (A7 (I9 t.q.nx.length (Cf t))):=by
  have hah:=AX (Cp ht)
  have hcl:=KA (TB:=TB) ht (Lp ht)
  rw [show O5 t IC=Cf t from rfl] at hcl
  have hst:=PR (n:=t.q.nx.length)
  have hr0:(List.replicate t.q.nx.length (AY 0))[0+(0:Int).toNat]? = some (AY 0):=by rw [List.getElem?_replicate,if_pos];simp;omega
  refine eG Tryz.func172 rfl (by kernel_rfl) rfl ?_;intro Γ hΓ
  (repeat first|refine sN rfl ?_ |refine tA rfl ?_ |refine aU rfl ?_ |refine Aa ?_)
  (refine pW rfl ?_ rfl (by rfl);refine KG rfl rfl (by rfl) (by rfl) (Nat.le_of_ble_eq_true rfl) (by omega) (by omega) (by omega) ?_)
  (repeat first|(refine sA rfl ?_ ?_;first|exact tI|omega) |refine t4 rfl ‹_› rfl ?_ |refine aU rfl ?_ |refine Aa ?_)
  (refine pW rfl ?_ rfl (by rfl);refine Ac [0] rfl rfl (hcl) ⟨rfl,by decide,by decide⟩ rfl (by simp[cX,zC,hΓ,hst]) ?_;rintro x0 σ1 nx1 ⟨rfl,rfl,rfl⟩ _)
  (repeat first|refine tA rfl ?_)
  refine Aa ?_
  refine Ai.Ak [] [] rfl rfl [(2,.o (.arr 0 1 0 t.q.nx.length))] [(0,.cells 3 1 ((I9 t.q.nx.length (Cf t)).map AY))] [0] (rl hΓ rfl) (by (simp[cX,zC,hΓ,hst])) ?_;(try dsimp only[cA,cB])
  refine Ai.settle [(2,A7 (I9 t.q.nx.length (Cf t)))] ⟨⟨_,rfl,.o (.full rfl (by simp [Function.comp_def]) (by simp))⟩,trivial⟩ ?_
  refine aR ⟨_,rfl,rfl⟩
theorem Tw {t:B8} (ht:AR t=true) {F:PS}:Pure Tryz.prog TB 173 [Gk t,A7 (I9 t.q.nx.length F)] (eB (IH t F)):=by
  have hah:=AX (Cp ht)
  have hpl:(I9 t.q.nx.length F).length=t.q.nx.length:=by simp
  have hdef:IH t F=E4 t F t.q.nx.length:=rfl
  refine eG Tryz.func173 rfl (by kernel_rfl) rfl ?_;intro Γ hΓ
  (repeat first|refine tA rfl ?_ |refine aU rfl ?_ |refine Aa ?_)
  refine aB ?_
  refine aL (α:={k:Nat // k≤t.q.nx.length∧E4 t F k=false}) [1,2] [] rfl rfl (fun ⟨k,hk,hb⟩=>[(5,eI .i64 k)]) (fun ⟨k,hk,hb⟩=>[]) 0 (fun ⟨k,hk,hb⟩=>t.q.nx.length - k) (⟨0,by omega,rfl⟩) hΓ rfl (by (simp[cX,zC,hΓ])) ?_;rintro ⟨k,hk,hb⟩;(try dsimp only[cA,cB])
  by_cases hlt:k < t.q.nx.length
  · have hr:((I9 t.q.nx.length F).map Db)[((k:Nat):Int).toNat]? = some (Db (F k:Int)):=by rw [Int.toNat_natCast];simp [hlt]
    obtain ⟨b,hb1⟩:=get_some (l:=t.q.ac) (k:=((k:Nat):Int).toNat) (by omega)
    have hb':=get_map (g:=Lv) hb1
    have hgd:t.q.ac.getD k false=b:=by rw [Int.toNat_natCast] at hb1;simp [List.getD,hb1]
    have hs:=Hr (t:=t) (F:=F) (k:=k)
    rw [hgd,hb] at hs
    (repeat first|refine sN rfl ?_ |refine tA rfl ?_ |refine s2 rfl fun _ _hb=>?_ |refine aU rfl ?_ |refine Aa ?_)
    ((refine aC rfl ?_ ?_<;>rintro ⟨⟩);all_goals try(exfalso;(simp only[oZ] at *;omega)))
    refine aK ?_
    refine aS (aB ?_)
    (repeat' first|refine tA rfl ?_ |(refine s4 rfl ‹_› rfl ?_ ?_;omega) |refine s2 rfl fun _ _hb=>?_ |refine s3 rfl ?_ ?_<;>rintro rfl |refine aU rfl ?_ |refine Aa ?_|(refine aC rfl ?_ ?_<;>rintro ⟨⟩));all_goals try contradiction
    · have hbt:IH t F=true:=by
        have h7:=of_decide_eq_true ‹decide ((F k:Int)≠0)=true›
        have h8:F k≠0:=by omega
        rw [hdef]
        unfold E4
        exact List.any_eq_true.2 ⟨k,List.mem_range.2 hlt,by rw [hgd,_hb];simp [h8]⟩
      rw [hbt]
      (subst_vars;exact aR ⟨_,rfl,rfl⟩)
    · have hk1:E4 t F (k+1)=false:=by rw [hs];simp_all
      refine aK ?_
      (repeat first|(refine sA rfl ?_ ?_;first|exact tI|omega) |refine aU rfl ?_ |refine Aa ?_)
      refine ⟨⟨k+1,by omega,hk1⟩,by dsimp only;(omega),[],?_⟩
      simp[cX,zC,hΓ]
    · have hk1:E4 t F (k+1)=false:=by rw [hs];simp at _hb;simp;omega
      refine aK ?_
      (repeat first|(refine sA rfl ?_ ?_;first|exact tI|omega) |refine aU rfl ?_ |refine Aa ?_)
      refine ⟨⟨k+1,by omega,hk1⟩,by dsimp only;(omega),[],?_⟩
      simp[cX,zC,hΓ]
  · obtain rfl:k=t.q.nx.length:=by omega
    rw [hdef,hb]
    (repeat first|refine sN rfl ?_ |refine tA rfl ?_ |refine s2 rfl fun _ _hb=>?_ |refine aU rfl ?_ |refine Aa ?_)
    ((refine aC rfl ?_ ?_<;>rintro ⟨⟩);all_goals try(exfalso;(simp only[oZ] at *;omega)))
    refine aE ?_
    (repeat first|refine tA rfl ?_ |refine aU rfl ?_ |refine Aa ?_)
    (subst_vars;exact aR ⟨_,rfl,rfl⟩)
theorem Vx {t:B8} {l:Int} {F:PS} {k x:Nat} (h:Dj t.q k l=(x:Int)):C5 t l F (k+1)=PV (C5 t l F k) x (C5 t l F k x ||| Cz t.s l (F k)):=by
  rw [GQ]
  funext p
  unfold PV
  rw [h]
  by_cases e:p=x
  · subst e;simp
  · rw [if_neg e,if_neg (by omega)]
theorem RC {t:B8} (ht:AR t=true) {F:PS} (hF:CB t F) {l:Int} (hl:0≤l∧l < 6):Pure Tryz.prog TB 174 [Gk t,A7 (I9 t.q.nx.length F),eI .i64 l] (A7 (I9 t.q.nx.length (DW t l F))):=by
  have hs:BD t.s=true:=by unfold AR at ht;simp only [Bool.and_eq_true] at ht;exact ht.1
  have haut:=Cp ht
  have hah:=AX haut
  have hcl:=KA (TB:=TB) ht (I0 ht hl hF)
  rw [show O5 t (Qy t l F)=DW t l F from rfl] at hcl
  have hpl:(I9 t.q.nx.length F).length=t.q.nx.length:=by simp
  have h0:List.replicate t.q.nx.length (AY 0)=(I9 t.q.nx.length (C5 t l F 0)).map AY:=MJ
  have hz0:[zC (Value.int IntKind.i64 0)]=AY 0:=rfl
  have hhas:=C4 (TB:=TB) t.s.al l hl.1 (by omega)
  refine eG Tryz.func174 rfl (by kernel_rfl) rfl ?_;intro Γ hΓ
  (repeat first|refine sN rfl ?_ |refine tA rfl ?_ |refine aU rfl ?_ |refine Aa ?_)
  (refine pW rfl ?_ rfl (by rfl);refine KG rfl rfl (by rfl) (by rfl) (Nat.le_of_ble_eq_true rfl) (by omega) (by omega) (by omega) ?_)
  (repeat first|refine tA rfl ?_ |refine aU rfl ?_ |refine Aa ?_)
  refine aB ?_
  refine aL (α:={k:Nat // k≤t.q.nx.length}) [1,2,3] [] rfl rfl (fun s=>[(7,.o (.arr 0 1 0 t.q.nx.length)),(8,eI .i64 s.1)]) (fun s=>[(0,.cells 3 1 ((I9 t.q.nx.length (C5 t l F s.1)).map AY))]) 1 (fun s=>t.q.nx.length - s.1) (⟨0,by omega⟩) hΓ rfl (by (simp[cX,zC,hΓ,h0,hz0])) ?_;rintro ⟨k,hk⟩;(try dsimp only[cA,cB])
  by_cases hkl:k < t.q.nx.length
  · have hr:((I9 t.q.nx.length F).map Db)[((k:Nat):Int).toNat]? = some (Db (F k:Int)):=by rw [Int.toNat_natCast];simp [hkl]
    have hgo:=MW (TB:=TB) t.q haut k hkl l hl.1 hl.2
    have hga:=Gp haut hkl hl.1 hl.2
    obtain ⟨x,hx⟩:∃x:Nat,Dj t.q k l=x:=⟨(Dj t.q k l).toNat,by omega⟩
    have hnx:=Vx (F:=F) hx
    rw [hx] at hgo hga
    have hst:=Mm (TB:=TB) hs l (hF.lt k)
    have r1:=Nl (n:=t.q.nx.length) (G:=C5 t l F k) (x:=x) (by omega)
    have hml:=Qz ht (l:=l) hF k x
    have hss:=Gz ht (l:=l) (hF.lt k)
    have hor:=JW (a:=C5 t l F k x) (b:=Cz t.s l (F k)) (by omega) (by omega)
    have hset:=Nm (n:=t.q.nx.length) (x:=x) (v:=C5 t l F k x ||| Cz t.s l (F k)) (G:=C5 t l F k)
    rw [←hnx] at hset
    (repeat first|refine sN rfl ?_ |refine tA rfl ?_ |refine s2 rfl fun _ _hb=>?_ |refine aU rfl ?_ |refine Aa ?_)
    ((refine aC rfl ?_ ?_<;>rintro ⟨⟩);all_goals try(exfalso;(simp only[oZ] at *;omega)))
    refine aK ?_
    refine aS (aB ?_)
    (repeat first|refine tA rfl ?_ |(refine s4 rfl ‹_› rfl ?_ ?_;omega) |(refine sC rfl (hhas) ?_;intro _ _hb) |refine aU rfl ?_ |refine Aa ?_)
    (refine aC rfl ?_ ?_<;>rintro ⟨⟩)
    · have hsm:Cz t.s l (F k)=BB t.s.es l (F k):=by unfold Cz;rw [if_pos _hb]
      rw [←hsm] at hst
      (repeat first|(refine sA rfl ?_ ?_;first|exact tI|omega) |refine t4 rfl ‹_› rfl ?_ |refine sP rfl (hst) rfl ?_|refine sP rfl (hgo) rfl ?_ |refine aU rfl ?_ |refine Aa ?_)
      refine ⟨⟨k+1,by omega⟩,by dsimp only;(omega),[0],?_⟩
      simp[cX,zC,hΓ,hor];simpa [Function.comp_def] using hset
    · have hsm:Cz t.s l (F k)=F k:=by unfold Cz;rw [if_neg (by simp [_hb])]
      rw [hsm] at hor hset
      refine aK ?_
      (repeat first|(refine sA rfl ?_ ?_;first|exact tI|omega) |refine t4 rfl ‹_› rfl ?_ |refine sP rfl (hgo) rfl ?_ |refine aU rfl ?_ |refine Aa ?_)
      refine ⟨⟨k+1,by omega⟩,by dsimp only;(omega),[0],?_⟩
      simp[cX,zC,hΓ,hor];simpa [Function.comp_def] using hset
  · obtain rfl:k=t.q.nx.length:=by omega
    rw [show C5 t l F t.q.nx.length=Qy t l F from rfl]
    (repeat first|refine sN rfl ?_ |refine tA rfl ?_ |refine s2 rfl fun _ _hb=>?_ |refine aU rfl ?_ |refine Aa ?_)
    ((refine aC rfl ?_ ?_<;>rintro ⟨⟩);all_goals try(exfalso;(simp only[oZ] at *;omega)))
    refine aE ?_
    (repeat first|refine tA rfl ?_ |refine aU rfl ?_)
    (refine pW rfl ?_ rfl (by rfl);refine Ac [0] rfl rfl (hcl) ⟨rfl,by decide,by decide⟩ rfl (by simp[cX,zC,hΓ]) ?_;rintro x0 σ1 nx1 ⟨rfl,rfl,rfl⟩ _)
    (repeat first|refine tA rfl ?_)
    refine Aa ?_
    refine Ai.Ak [] [] rfl rfl [(6,.o (.arr 0 1 0 t.q.nx.length))] [(0,.cells 3 1 ((I9 t.q.nx.length (DW t l F)).map AY))] [0] (rl hΓ rfl) (by (simp[cX,zC,hΓ])) ?_;(try dsimp only[cA,cB])
    refine Ai.settle [(6,A7 (I9 t.q.nx.length (DW t l F)))] ⟨⟨_,rfl,.o (.full rfl (by simp [Function.comp_def]) (by simp))⟩,trivial⟩ ?_
    refine aR ⟨_,rfl,rfl⟩
theorem Fo (t:B8):Pure Tryz.prog TB 113 [Gk t] (eB (AR t)):=by
  unfold AR
  refine eN Tryz.func113 rfl (by kernel_rfl) rfl ?_;intro Γ hΓ
  (repeat' first|refine tA rfl ?_ |(refine sC rfl (Cm t.s) ?_;intro _ _hb)|(refine sC rfl (Bt t.q) ?_;intro _ _hb)|(refine sC rfl (C3 t.al) ?_;intro _ _hb) |refine s3 rfl ?_ ?_<;>rintro rfl |refine aU rfl ?_ |refine Aa ?_|(refine aC rfl ?_ ?_<;>rintro ⟨⟩)|refine aK ?_|refine aE ?_|refine aB ?_|refine aR ⟨_,rfl,?_⟩)
  all_goals (show E.o _=E.o _;simp_all)
noncomputable def Ev (t:B8) (w:W):Bool:=AR t && (within w t.al && LS t w)
theorem Lo {w:W} {al:Int} (h:within w al=true):∀c∈w,0≤(c.toNat:Int) - 97∧(c.toNat:Int) - 97 < 6:=fun c hc=>GO (Cq h c hc)
theorem OS (t:B8) (w:W) (hl:w.length≤1099511627776):Pure Tryz.prog TB 133 [Gk t,eT w] (eB (Ev t w)):=by
  have hv:=Fo (TB:=TB) t
  have hw:=C8 (TB:=TB) w t.al hl
  by_cases h:(AR t && within w t.al)=true
  · have ht:AR t=true:=by revert h;cases AR t<;>simp
    have hwi:within w t.al=true:=by revert h;cases within w t.al<;>simp
    have hn:=Lo hwi
    have hA:Ev t w=LS t w:=by unfold Ev;rw [ht,hwi];rfl
    rw [hA]
    rw [ht] at hv
    rw [hwi] at hw
    have hst:=Pw (TB:=TB) ht
    refine eG Tryz.func133 rfl (by kernel_rfl) rfl ?_;intro Γ hΓ
    (repeat' first|refine tA rfl ?_ |refine s2 rfl fun _ _hb=>?_ |refine sP rfl (hv) rfl ?_|refine sP rfl (hw) rfl ?_|refine sP rfl (hst) rfl ?_ |refine s3 rfl ?_ ?_<;>rintro rfl |refine aU rfl ?_ |refine Aa ?_|(refine aC rfl ?_ ?_<;>rintro ⟨⟩));all_goals try contradiction
    refine aK ?_
    (repeat first|refine tA rfl ?_ |refine sP rfl (hst) rfl ?_ |refine aU rfl ?_ |refine Aa ?_)
    refine aB ?_
    refine aL (α:={x:Nat×PS // x.1≤w.length∧CB t x.2∧Hm t x.2 (w.drop x.1)=LS t w}) [1,2] [] rfl rfl (fun s=>[(5,A7 (I9 t.q.nx.length s.1.2)),(6,eI .i64 s.1.1)]) (fun s=>[]) 0 (fun s=>w.length - s.1.1) (⟨⟨0,Cf t⟩,by simp,Jg ht,rfl⟩) hΓ rfl (by (simp[cX,zC,hΓ])) ?_;rintro ⟨⟨i,F⟩,hi,hF,hs⟩;(try dsimp only[cA,cB])
    have hi:i≤w.length:=hi
    have hF:CB t F:=hF
    have hs:Hm t F (w.drop i)=LS t w:=hs
    have hbd:=Tw (TB:=TB) ht (F:=F)
    by_cases hlt:i < w.length
    · obtain ⟨c,hc⟩:=get_some hlt
      have hc':w[((i:Nat):Int).toNat]? = some c:=by simpa using hc
      have hcl:=hn c (List.mem_of_getElem? hc)
      have hla:=HX (TB:=TB) w i c hc'
      have hmv:=RC (TB:=TB) ht hF hcl
      have hno:=KH ht hcl hF
      rw [CJ hc,Hm] at hs
      generalize IH t F=b at *
      (repeat' first|refine tA rfl ?_ |refine s2 rfl fun _ _hb=>?_ |refine sP rfl (hbd) rfl ?_ |refine s3 rfl ?_ ?_<;>rintro rfl |refine aU rfl ?_ |refine Aa ?_|(refine aC rfl ?_ ?_<;>rintro ⟨⟩));all_goals try contradiction
      all_goals first| (exfalso;(simp only[oZ] at *;omega);done)|skip
      · have hb:b=false:=by simpa using _hb
        subst hb
        refine aK ?_
        refine aS (aB ?_)
        refine rG (Jr []) (by kernel_rfl) ?_
        (repeat first|(refine sA rfl ?_ ?_;first|exact tI|omega) |refine sP rfl (hla) rfl ?_|refine sP rfl (hmv) rfl ?_ |refine aU rfl ?_ |refine Aa ?_)
        refine ⟨⟨⟨i+1,DW t ((c.toNat:Int) - 97) F⟩,by omega,hno,by simpa using hs⟩,by dsimp only;(omega),[],?_⟩
        simp[cX,zC,hΓ]
      · have hb:b=true:=by simpa using _hb
        subst hb
        have hs:LS t w=false:=by simpa using hs.symm
        rw [hs]
        refine aE ?_
        (repeat first|refine tA rfl ?_ |refine s2 rfl fun _ _hb=>?_ |refine sP rfl (hbd) rfl ?_ |refine aU rfl ?_ |refine Aa ?_)
        (subst_vars;exact aR ⟨_,rfl,rfl⟩)
    · obtain rfl:i=w.length:=by omega
      rw [List.drop_length,Hm] at hs
      rw [←hs]
      (repeat' first|refine tA rfl ?_ |refine s2 rfl fun _ _hb=>?_ |refine sP rfl (hbd) rfl ?_ |refine s3 rfl ?_ ?_<;>rintro rfl |refine aU rfl ?_ |refine Aa ?_|(refine aC rfl ?_ ?_<;>rintro ⟨⟩));all_goals try contradiction
      all_goals first| (exfalso;(simp only[oZ] at *;omega);done)|skip
      refine aE ?_
      (repeat first|refine tA rfl ?_ |refine s2 rfl fun _ _hb=>?_ |refine sP rfl (hbd) rfl ?_ |refine aU rfl ?_ |refine Aa ?_)
      (subst_vars;exact aR ⟨_,rfl,rfl⟩)
  · have hA:Ev t w=false:=by unfold Ev;revert h;cases AR t<;>cases within w t.al<;>simp
    rw [hA]
    refine eG Tryz.func133 rfl (by kernel_rfl) rfl ?_;intro Γ hΓ
    (repeat' first|refine tA rfl ?_ |refine s2 rfl fun _ _hb=>?_ |(refine sC rfl (hv) ?_;intro _ _hb)|(refine sC rfl (hw) ?_;intro _ _hb) |refine s3 rfl ?_ ?_<;>rintro rfl |refine aU rfl ?_ |refine Aa ?_|(refine aC rfl ?_ ?_<;>rintro ⟨⟩));all_goals try contradiction
    all_goals first
      | (subst_vars;exact aR ⟨_,rfl,rfl⟩)
      | (exfalso;simp_all;done)
theorem JN (t:Da) (hk:t.kn=false):Pure Tryz.prog TB 60 [BR t] (eI .i64 (if AR ⟨t.s,t.q,t.al⟩ then t.al else -1)):=by
  obtain ⟨kn,p,s,q,al⟩:=t
  dsimp only at hk
  subst hk
  have hv:=Fo (TB:=TB) ⟨s,q,al⟩
  refine eN Tryz.func60 rfl (by kernel_rfl) rfl ?_;intro Γ hΓ
  (repeat' first|refine tA rfl ?_ |refine s2 rfl fun _ _hb=>?_ |(refine sC rfl (hv) ?_;intro _ _hb) |refine s3 rfl ?_ ?_<;>rintro rfl |refine aU rfl ?_ |refine Aa ?_|(refine aC rfl ?_ ?_<;>rintro ⟨⟩)|refine aK ?_|refine aE ?_|refine aB ?_|refine aR ⟨_,rfl,?_⟩)
  all_goals first
    | (show E.o _=E.o _;congr;grind)
    | (exfalso;simp at *;done)
theorem Ke (t:Da) (hk:t.kn=false) (w:W) (hl:w.length≤1099511627776):Pure Tryz.prog TB 101 [BR t,eT w] (eB (Ev ⟨t.s,t.q,t.al⟩ w)):=by
  obtain ⟨kn,p,s,q,al⟩:=t
  dsimp only at hk
  subst hk
  have h1:=OS (TB:=TB) ⟨s,q,al⟩ w hl
  refine eN Tryz.func101 rfl (by kernel_rfl) rfl ?_;intro Γ hΓ
  (repeat' first|refine tA rfl ?_ |refine sP rfl (h1) rfl ?_ |refine aU rfl ?_ |refine Aa ?_|(refine aC rfl ?_ ?_<;>rintro ⟨⟩)|refine aK ?_|refine aE ?_|refine aB ?_|refine aR ⟨_,rfl,?_⟩)
  all_goals rfl
theorem WI {t:Da} (hk:t.kn=false):Hn Tryz.prog TB 60 101 t (if AR ⟨t.s,t.q,t.al⟩ then t.al else -1) (Ev ⟨t.s,t.q,t.al⟩):=⟨JN t hk,Ke t hk⟩
end Go.Am
