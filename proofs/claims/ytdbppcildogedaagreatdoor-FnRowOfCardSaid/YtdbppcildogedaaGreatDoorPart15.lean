/-
  What is hidden: the call's own becomes memory that only the callees of one function value look at; and such a callee, seen from outside.
-/
import Derived.Test.YtdbppcildogedaaGreatDoorPart13
import Derived.Test.YtdbppcildogedaaGreatDoorPart14
import Derived.Test.YtdbppcildogedaaGreatDoorPart12
import Derived.Test.YtdbppcildogedaaGreatDoorPart11
set_option linter.constructorNameAsVariable false
set_option linter.unusedSimpArgs false
set_option linter.unusedVariables false
namespace Go.Am
open Go
set_option linter.unusedVariables false
section
variable {P:Program} {TB:A7} {Γ:Ctx} {d:Option Tmp} {ty:TypeId} {pos:String} {af:Array Edge} {g:Option (Nat×Bool)} {f:Env} {σ:Ab} {nx:Nat}
theorem XZ {gg:FuncId} {x:Operand} {c:C} (hx:ev f x=some (.o c)):AU P TB Γ ⟨d,.makeFunc (.func gg) #[x] #[],ty,pos,af,g⟩ f σ nx (.o (.mv gg [c])):=
  Ax fun V ρ h1 _=>by
    refine ⟨.func (.func gg) #[ρ x] #[],by simp [execOp,Instr.makeFunc,go_sem],Aw.mv rfl fun j c' v hj hv=>?_⟩
    have h2:Aw V c (ρ x):=h1.get (by simp [Op.operands]) hx
    match j with
    | 0=>simp at hj hv;subst hj;subst hv;exact h2
    | j+1=>simp at hj
theorem Vi {V:View} {gg:FuncId} {recv:List C} {v:Value} (h:AV V (.o (.mv gg recv)) v):∃vs,v=.func (.func gg) vs #[]∧Cf V recv vs:=by
  have h:Aw V (.mv gg recv) v:=h
  generalize hc:C.mv gg recv=c at h
  cases h<;>cases hc
  rename_i vs h1 h2
  exact ⟨vs,rfl,h1,h2⟩
theorem N8 {x:Operand} {args:Array Operand} {tys:Array TypeId} {gg:FuncId} {vs:Array Value} (hf:QZ P gg) {ρ:Operand→Value} (hv:ρ x=.func (.func gg) vs #[]) (w:World) :
    (execOp ρ ⟨d,.call ⟨.value x,args,tys⟩,ty,pos,af,g⟩).run P w=.ok (.enter gg (vs++args.map ρ)) w:=by
  obtain ⟨fn,h1,h2,h3⟩:=hf
  have hb:∃c,fn.body=some c:=by cases hb:fn.body with|none=>rw [hb] at h3;cases h3|some c=>exact ⟨c,rfl⟩
  obtain ⟨c,hb⟩:=hb
  simp only [execOp,resolve,hv,Deferred.ofValue,pure_bind,invoke,callFunc]
  have h2':¬fn.name = "runtime.NumGoroutine" := by simpa using h2
  simp [Sem.run,program,h1,h2',hb,go_sem]
theorem Si {x:Operand} {args:Array Operand} {tys:Array TypeId} {gg:FuncId} {recv:List C} {es:List E} {r:E} (hx:ev f x=some (.o (.mv gg recv))) (hes:Gd f args.toList=some es) (hp:(es.all E.A9 && C.BL recv)=true)
    (hs:Pure P TB gg (recv.map .o++es) r) (hr:r.A9=true):AU P TB Γ ⟨d,.call ⟨.value x,args,tys⟩,ty,pos,af,g⟩ f σ nx r:=by
  intro V a h1 h2 h3
  have h1:=h1.EN
  unfold Oper.wp
  generalize a.eval=ρ at h1 ⊢
  obtain ⟨vs,hv,hcap⟩:=Vi (h1.get (x:=x) (by simp [Op.operands,Call.operands]) hx)
  rw [N8 hs.1 hv]
  rw [Bool.and_eq_true] at hp
  have hel:=BW hes
  have hargs:IT { V with nx:=0 } (recv.map .o++es) (vs++args.map ρ):=by
    refine ⟨by simp [hcap.1,hel],fun j e v hj hv=>?_⟩
    have hsz:vs.size=recv.length:=hcap.1
    by_cases hlt:j < recv.length
    · rw [List.getElem?_append_left (by simpa using hlt)] at hj
      rw [Array.getElem?_append_left (by rw [hsz];exact hlt)] at hv
      simp only [List.getElem?_map,Option.map_eq_some_iff] at hj
      obtain ⟨c,hc,rfl⟩:=hj
      exact Aw.A9 (V:=V) (V':={ V with nx:=0 }) rfl rfl (hcap.2 _ c v hc hv) (Dy _ hp.2 _ c hc)
    · rw [List.getElem?_append_right (by simp;omega)] at hj
      rw [Array.getElem?_append_right (by rw [hsz];omega),hsz] at hv
      simp only [List.length_map] at hj
      refine AV.A9 (V:=V) (V':={ V with nx:=0 }) rfl rfl (EJ (fun y hy e he=>h1.get (by simp [Op.operands,Call.operands];right;simpa using hy) he) hes _ e v hj (by rw [←Array.toList_map];simpa using hv)) (List.all_eq_true.1 hp.1 e (List.mem_of_getElem? hj))
  obtain ⟨S,hS,hSJ,hSB⟩:=h2.hid
  refine (hs.2 { V with nx:=0 } _ S ⟨h2.iLt,C3,h2.tabs,rfl,⟨hS.r,hS.ji,hS.bi,fun b ⟨_,_,h,_⟩=>by cases h⟩⟩ hargs).mono ?_
  rintro e w' ⟨V1,v,x1,σ1,rfl,rfl,hi1,hx1,rfl⟩
  obtain ⟨hi',he'⟩:=GI h2 hS hSJ hSB (Vc:={ V with nx:=0 }) rfl hi1 V1.I (fun b hb=>hi1.ext.i b hb) (fun b hb=>by
    rcases hi1.iNew b hb with h|h|h|h
    · exact .inl h
    · exact .inr (.inl ⟨h,hi1.iLt b hb⟩)
    · obtain ⟨_,_,h,_⟩:=h;cases h
    · exact .inr (.inr h)) (fun b hb _=>hb) (fun b hb=>hb)
  exact ⟨{ V with I:=V1.I,w:=V1.w },v,rfl,rfl,he',hi',h3,AV.A9 (V:=V1) (V':={ V with I:=V1.I,w:=V1.w }) rfl rfl hx1 hr⟩
end
abbrev Fw (r:Nat):C:=.d (.v (.pointer (some ⟨r,0,none⟩)))
theorem Sf {P:Program} {tabs:List (Nat×Obj)} {H:Hid} {r:Nat} {gg:FuncId} {k:Nat} {es:List E} {x0:E} (hf:QZ P gg) (hsc:∀e∈es,e.sc=true) (hx:x0.sc=true)
    (h:∀s,AP P ⟨tabs,none⟩ gg 1 (H.st s) H.nx (.o (.ptr 0 k 0 0)::es) (fun x σ nx=>x=x0∧nx=H.nx∧∃s',σ=H.st s')):Pure P ⟨tabs,some (H,r)⟩ gg (.o (Fw r)::es) x0:=by
  refine ⟨hf,fun V vs S hg ha=>?_⟩
  have hr:∃(s:H.S) (V0:View),V0.I=S.J∧V0.w=V.w∧V0.nx=H.nx∧EE V0 (H.st s)∧(0 < V0.nx∧V0.ρ 0=r∧¬V0.nl 0∧∀x∈(⟨tabs,some (H,r)⟩:A7),V0.I x.1)∧∀b,S.B b↔Cz V0 (H.st s) b:=hg.hid.r
  obtain ⟨s,V0,e1,e2,e3,st,⟨n0,ρ0,nl0,tb⟩,hB⟩:=hr
  have hgood:Good ⟨tabs,none⟩ V0 (H.st s) H.nx ⟨fun _=>False,fun _=>False⟩:=
    ⟨fun b hb=>by rw [e2];exact hg.iLt b (hg.hid.ji b (by rw [←e1];exact hb)),st,fun x hx=>⟨tb x hx,by rw [e2];exact (hg.tabs x hx).2⟩,e3,⟨fun _ h=>h,fun _ h=>h.elim,fun _ h=>h.elim,fun _ _ h=>h⟩⟩
  have hargs:IT V0 (.o (.ptr 0 k 0 0)::es) vs:=by
    refine ⟨ha.1,fun j e v hj hv=>?_⟩
    match j with
    | 0=>
      injection hj with hj
      subst hj
      have h1:=ha.2 0 (.o (Fw r)) v rfl hv
      have h2:v=.pointer (some ⟨r,0,none⟩):=Aw.val h1
      subst h2
      have:=Aw.ptr (V:=V0) (id:=0) (k:=k) (i:=0) (j:=0) n0 nl0
      rw [ρ0,Nat.zero_mul] at this
      exact this
    | j+1=>exact OH (ha.2 (j+1) e v hj hv) (hsc e (List.mem_of_getElem? hj))
  have hrun:=(h s).2 V0 vs _ hgood hargs
  rw [e2] at hrun
  refine hrun.mono ?_
  rintro e w' ⟨V1,v,x,σ',rfl,rfl,hi,hx1,rfl,hn,s',rfl⟩
  have hsz:V.w.heap.size≤V1.w.heap.size:=by have h9:V0.w.heap.size≤_:=hi.ext.size;rw [e2] at h9;exact h9
  have hold:∀b,b < V.w.heap.size→¬S.B b→V1.w.heap[b]? = V.w.heap[b]?:=fun b hb hn=>by
    have h9:V1.w.heap[b]? = V0.w.heap[b]?:=hi.old b (by show b < V0.w.heap.size;rw [e2];exact hb) fun h=>h.elim (fun h=>hn ((hB b).2 h)) fun h=>h
    rw [h9,e2]
  have hnew:∀b,V1.I b→S.J b∨V.w.heap.size≤b∨S.B b:=fun b hb=>by
    rcases hi.iNew b hb with h9|h9|h9|h9
    · exact .inl (by rw [←e1];exact h9)
    · have h9:V0.w.heap.size≤b:=h9
      rw [e2] at h9;exact .inr (.inl h9)
    · exact .inr (.inr ((hB b).2 h9))
    · exact h9.elim
  have hlv:∀b,Cz V1 (H.st s') b→V.w.heap.size≤b∨S.B b:=fun b ⟨id,o,g1,g2,g3⟩=>by
    rcases hi.live id o g1 g2 b g3 with h9|h9|h9
    · have h9:V0.w.heap.size≤b:=h9
      rw [e2] at h9;exact .inl h9
    · exact .inr ((hB b).2 h9)
    · exact h9.elim
  have e:Ext V { V with I:=fun b=>V.I b∨V1.I b,w:=V1.w } := ⟨fun _ h=>.inl h,fun b hb=>hold b (hg.iLt b hb) fun h=>hg.hid.bi b h hb,hsz,fun _ _=>rfl,fun _ _=>rfl,fun _ _=>Iff.rfl,Nat.le_refl _⟩
  refine ⟨{ V with I:=fun b=>V.I b∨V1.I b,w:=V1.w },v,x,[],rfl,rfl,⟨?_,?_,?_,fun b hb hf=>hold b hb fun h=>hf (.inr h),fun b hb=>?_,fun b hb=>?_,e,C3,fun id o ho=>(by cases ho),fun y hy=>⟨.inl (hg.tabs y hy).1,?_⟩,⟨⟨Cz V1 (H.st s'),V1.I⟩,⟨?_,fun b hb=>.inr hb,fun b hb hI=>?_,fun b ⟨_,_,h,_⟩=>by cases h⟩,fun b hb=>?_,fun b hb=>?_⟩⟩,OH hx1 hx,rfl⟩
  · have h9:V1.w.os=V0.w.os:=hi.os
    rw [e2] at h9;exact h9
  · have h9:V1.w.tape=V0.w.tape:=hi.tape
    rw [e2] at h9;exact h9
  · have h9:V1.w.output=V0.w.output:=hi.output
    rw [e2] at h9;exact h9
  · rcases hb with hb|hb
    · exact Nat.lt_of_lt_of_le (hg.iLt b hb) hsz
    · exact hi.iLt b hb
  · rcases hb with hb|hb
    · exact .inl hb
    · rcases hnew b hb with h9|h9|h9
      · exact .inl (hg.hid.ji b h9)
      · exact .inr (.inl h9)
      · exact .inr (.inr (.inr h9))
  · exact (hold _ (hg.iLt _ (hg.tabs y hy).1) fun h=>hg.hid.bi _ h (hg.tabs y hy).1).trans (hg.tabs y hy).2
  · exact ⟨s',V1,rfl,rfl,hn,hi.st,⟨by rw [hn,←e3];exact n0,by rw [←ρ0];exact hi.ext.ρ 0 Nat.zero_lt_one,fun h=>nl0 ((hi.ext.nl 0 Nat.zero_lt_one).1 h),fun y hy=>hi.ext.i _ (tb y hy)⟩,fun _=>Iff.rfl⟩
  · have hb':=hb
    obtain ⟨id,o,g1,g2,g3⟩:=hb
    rcases hI with hI|hI
    · rcases hlv b hb' with h9|h9
      · have:=hg.iLt b hI;omega
      · exact hg.hid.bi b h9 hI
    · exact hi.st.free id o g1 g2 b g3 hI
  · rcases hnew b hb with h9|h9|h9
    · exact .inl h9
    · exact .inr (.inl h9)
    · exact .inr (.inr (.inr h9))
  · rcases hlv b hb with h9|h9
    · exact .inl h9
    · exact .inr (.inr h9)
inductive CH (i r:Nat):C→C→Prop
  | Bi {c:C}:CH i r c c
  | ptr {k:Nat}:CH i r (.ptr i k 0 0) (Fw r)
  | mv {gg:FuncId} {k:Nat}:CH i r (.mv gg [.ptr i k 0 0]) (.mv gg [Fw r])
theorem CH.rel {V:View} {i r:Nat} (hr:V.ρ i=r) {c c':C} {v:Value} (h:CH i r c c') (hc:Aw V c v):Aw V c' v:=by
  have hp:∀ {k:Nat} {v:Value},Aw V (.ptr i k 0 0) v→Aw V (Fw r) v:=fun {k v} hc=>by
    cases hc with
    | ptr h1 h2=>rw [Nat.zero_mul,hr];exact .d (.v rfl)
  cases h with
  | Bi=>exact hc
  | ptr=>exact hp hc
  | mv =>
    cases hc with
    | mv h1 h2=>
      refine .mv (by rw [h1];rfl) fun j c v hj hv=>?_
      match j with
      | 0=>injection hj with hj;subst hj;exact hp (h2 0 _ v rfl hv)
      | j+1=>simp at hj
inductive LH (i r:Nat):List C→List C→Prop
  | nil:LH i r [] []
  | cons {c c':C} {l l':List C}:CH i r c c'→LH i r l l'→LH i r (c::l) (c'::l')
theorem LH.len {i r:Nat} {l l':List C} (h:LH i r l l'):l'.length=l.length:=by
  induction h with
  | nil=>rfl
  | cons _ _ ih=>simp [ih]
theorem LH.get {i r:Nat} {l l':List C} (h:LH i r l l'):∀(j:Nat) c',l'[j]? = some c'→∃c,l[j]? = some c∧CH i r c c':=by
  induction h with
  | nil=>intro j c' h;simp at h
  | @cons c0 c0' cs cs' h1 _ ih=>
    intro j c' hj
    cases j with
    | zero=>simp at hj;subst hj;exact ⟨c0,rfl,h1⟩
    | succ j=>exact ih j c' (by simpa using hj)
inductive EH (i r:Nat):E→E→Prop
  | Bi {e:E}:EH i r e e
  | o {c c':C}:CH i r c c'→EH i r (.o c) (.o c')
  | a {l l':List C}:LH i r l l'→EH i r (.a l) (.a l')
theorem EH.rel {V:View} {i r:Nat} (hr:V.ρ i=r) {e e':E} {v:Value} (h:EH i r e e') (hc:AV V e v):AV V e' v:=by
  cases h with
  | Bi=>exact hc
  | o h=>exact h.rel hr hc
  | a h=>
    obtain ⟨vs,h1,h2,h3⟩:=hc
    refine ⟨vs,h1,by rw [h2,h.len],fun j c v hj hv=>?_⟩
    obtain ⟨c0,h4,h5⟩:=h.get j c hj
    exact h5.rel hr (h3 j c0 v h4 hv)
def QX (i r:Nat) (f:Env):List (Nat×E)→Prop
  | []=>True
  | (t,e')::L=>(∃e,f t=some e∧EH i r e e')∧QX i r f L
theorem QX.get {i r:Nat} {f:Env}:∀ {L:List (Nat×E)},QX i r f L→∀t e',look L t=some e'→∃e,f t=some e∧EH i r e e'
  | [],_,t,e,h=>by cases h
  | (k,x)::L,hs,t,e,h=>by
    rw [Ar] at h
    by_cases hk:k=t
    · rw [if_pos hk] at h;injection h with h;subst h;subst hk;exact hs.1
    · rw [if_neg hk] at h;exact QX.get hs.2 t e h
def VY (i r:Nat) (l:List Nat) (σ:Ab):Ab→Prop
  | []=>True
  | (id,o')::S=>(id∉l∧(look σ id=some o'∨∃T k rw rw',o'=.cells T k [rw']∧look σ id=some (.cells T k [rw])∧LH i r rw rw'))∧VY i r l σ S
theorem VY.get {i r:Nat} {l:List Nat} {σ:Ab}:∀ {S:Ab},VY i r l σ S→∀id o',look S id=some o'→id∉l∧(look σ id=some o'∨∃T k rw rw',o'=.cells T k [rw']∧look σ id=some (.cells T k [rw])∧LH i r rw rw')
  | [],_,id,o,h=>by cases h
  | (k,x)::L,hs,id,o,h=>by
    rw [Ar] at h
    by_cases hk:k=id
    · rw [if_pos hk] at h;injection h with h;subst h;subst hk;exact hs.1
    · rw [if_neg hk] at h;exact VY.get hs.2 id o h
section
variable {P:Program} {tabs:List (Nat×Obj)} {Γ:Ctx} {N:Nat} {σ:Ab}
theorem Inv.forget {TB:A7} {J:Nat→Prop} {V:View} (h:Inv TB ⟨Γ.V,Γ.F,J⟩ V σ):Inv ⟨TB.tabs,none⟩ Γ V σ:=
  ⟨h.os,h.tape,h.output,h.old,h.iLt,h.iNew,h.ext,h.st,h.live,h.tabs,⟨⟨fun _=>False,fun _=>False⟩,⟨fun _ h=>h,fun _ h=>h.elim,fun _ h=>h.elim,fun _ _ h=>h⟩,fun _ h=>h.elim,fun _ h=>h.elim⟩⟩
theorem Ak.RF {c:Code} {Q:Exit→Env→Ab→Nat→Prop} {f:Env} {nx:Nat} (H:Hid) (s:H.S) (i:Nat) (l:List Nat) (L:Nat→List (Nat×E)) (S:Nat→Ab) (hn:(i::l).Nodup) (hln:(i::l).length=H.nx) (hS:AM (nm (i::l) nx) σ (H.st s)) (h0:∃T k r rs,look (H.st s) 0=some (.cells T k (r::rs)))
    (hE:∀r,QX i r f (L r)) (hSt:∀r,VY i r (i::l) σ (S r)) (h:∀r Γ',Γ'.V=Γ.V→Ak P ⟨tabs,some (H,r)⟩ Γ' N c Q (look (L r)) (S r) nx):Ak P ⟨tabs,none⟩ Γ N c Q f σ nx:=by
  intro V a hr
  have hi:=hr.inv
  have hnx:=hr.nx
  subst hnx
  have hrn:∀id,nm (i::l) V.nx id < V.nx→id < (i::l).length:=fun id=>Lr
  have hidl:∀id o,look (H.st s) id=some o→id < (i::l).length:=fun id o ho=>hrn id (hi.st.lt _ _ (hS.get id o ho))
  have hmem:∀id o,look (H.st s) id=some o→nm (i::l) V.nx id∈i::l:=fun id o ho=>by
    rw [DB (hidl id o ho)];exact List.getElem_mem _
  have hS0:EE (V.AQ (nm (i::l) V.nx) (i::l).length) (H.st s):=by
    refine ⟨fun id o ho=>BH.AQ hrn (hi.st.obj _ _ (hS.get id o ho)),hidl,fun id o ho hnl b hb=>hi.st.free _ _ (hS.get id o ho) hnl b (Bv.1 hb),?_⟩
    intro id id' o o' ho ho' hne hnl hnl' b hb hb'
    refine hi.st.inj _ _ _ _ (hS.get id o ho) (hS.get id' o' ho') ?_ hnl hnl' b (Bv.1 hb) (Bv.1 hb')
    have h3:=hidl id o ho
    have h4:=hidl id' o' ho'
    rw [DB h3,DB h4]
    intro he
    have hp:=List.pairwise_iff_getElem.1 hn
    rcases Nat.lt_or_gt_of_ne hne with h5|h5
    · exact hp _ _ h3 h4 h5 he
    · exact hp _ _ h4 h3 h5 he.symm
  have hnl0:¬V.nl i:=by
    obtain ⟨T,k,r,rs,h5⟩:=h0
    rcases hS0.obj 0 _ h5 with ⟨_,h6⟩|⟨h6,_⟩
    · cases h6
    · exact h6
  have hsrc:∀id o,look (S (V.ρ i)) id=some o→∃o0,look σ id=some o0∧∀b,De V id o b→De V id o0 b:=fun id o ho=>by
    obtain ⟨_,h5|⟨T,k,rw,rw',rfl,h5,_⟩⟩:=(hSt (V.ρ i)).get id o ho
    · exact ⟨o,h5,fun _ h=>h⟩
    · exact ⟨_,h5,fun _ h=>h⟩
  have hinv : Inv ⟨tabs,some (H,V.ρ i)⟩ ⟨Γ.V,Γ.F,fun _=>True⟩ V (S (V.ρ i)):=by
    refine ⟨hi.os,hi.tape,hi.output,hi.old,hi.iLt,hi.iNew,hi.ext,⟨fun id o ho=>?_,fun id o ho=>?_,fun id o ho hn b hb=>?_,fun id id' o o' ho ho' hne hn hn' b hb hb'=>?_⟩,fun id o ho hn b hb=>?_,hi.tabs,⟨⟨Cz (V.AQ (nm (i::l) V.nx) (i::l).length) (H.st s),V.I⟩,⟨?_,fun _ h=>h,fun b hb hI=>?_,fun b hb hB=>?_⟩,fun _ _=>.inl True.intro,fun b hb=>?_⟩⟩
    · obtain ⟨_,h5|⟨T,k,rw,rw',rfl,h5,h6⟩⟩:=(hSt (V.ρ i)).get id o ho
      · exact hi.st.obj id o h5
      · rcases hi.st.obj id _ h5 with ⟨_,h7⟩|⟨h1,cur,h2,h3,h4,h7,h8,h9⟩
        · cases h7
        · refine .inr ⟨h1,cur,h2,h3,h4,h7,fun x hx=>?_,fun i' x j c' hix hj=>?_⟩
          · simp at hx;subst hx;rw [h6.len];exact h8 rw (by simp)
          · have hi0:i'=0:=by have:=(List.getElem?_eq_some_iff.1 hix).1;simp at this;omega
            subst hi0
            simp at hix
            subst hix
            obtain ⟨c,hc,hf⟩:=h6.get j c' hj
            obtain ⟨v,h10,h11⟩:=h9 0 rw j c rfl hc
            exact ⟨v,h10,hf.rel rfl h11⟩
    · obtain ⟨o0,h5,_⟩:=hsrc id o ho;exact hi.st.lt id o0 h5
    · obtain ⟨o0,h5,h6⟩:=hsrc id o ho;exact hi.st.free id o0 h5 hn b (h6 b hb)
    · obtain ⟨o0,h5,h6⟩:=hsrc id o ho
      obtain ⟨o0',h5',h6'⟩:=hsrc id' o' ho'
      exact hi.st.inj id id' o0 o0' h5 h5' hne hn hn' b (h6 b hb) (h6' b hb')
    · obtain ⟨o0,h5,h6⟩:=hsrc id o ho;exact hi.live id o0 h5 hn b (h6 b hb)
    · exact ⟨s,V.AQ (nm (i::l) V.nx) (i::l).length,rfl,rfl,hln,hS0,⟨Nat.succ_pos _,rfl,hnl0,fun x hx=>(hi.tabs x hx).1⟩,fun _=>Iff.rfl⟩
    · obtain ⟨id,o,g1,g2,g3⟩:=hb;exact hS0.free id o g1 g2 b g3 hI
    · obtain ⟨id,o,g1,g2,g3⟩:=hB
      obtain ⟨id',o',k1,k2,k3⟩:=hb
      obtain ⟨o0,h5,h6⟩:=hsrc id' o' k1
      have hnm:=((hSt (V.ρ i)).get id' o' k1).1
      exact hi.st.inj id' _ o0 _ h5 (hS.get id o g1) (fun e=>hnm (by rw [e];exact hmem id o g1)) k2 g2 b (h6 b k3) (Bv.1 g3)
    · obtain ⟨id,o,g1,g2,g3⟩:=hb;exact hi.live _ _ (hS.get id o g1) g2 b (Bv.1 g3)
  have hst:BC ⟨tabs,some (H,V.ρ i)⟩ ⟨Γ.V,Γ.F,fun _=>True⟩ N V (look (L (V.ρ i))) (S (V.ρ i)) V.nx a:=by
    refine ⟨fun t x hx=>?_,fun t x hx=>?_,hr.size,hinv,rfl,hr.defers⟩
    · obtain ⟨y,h1,h2⟩:=(hE (V.ρ i)).get t x hx
      exact h2.rel rfl (hr.env t y h1)
    · obtain ⟨y,h1,_⟩:=(hE (V.ρ i)).get t x hx
      exact hr.lt t y h1
  refine wp_mono (h (V.ρ i) ⟨Γ.V,Γ.F,fun _=>True⟩ rfl V a hst) ?_
  rintro e a' w' ⟨V',f',σ',h1,h2,h3⟩
  exact ⟨V',f',σ',h1,h2,⟨h3.env,h3.lt,h3.size,Inv.forget h3.inv,h3.nx,h3.defers⟩⟩
end
end Go.Am
namespace Go.Am
open Go Go.Proofs
set_option maxHeartbeats 1000000
attribute [local irreducible] AU B0 Lex Bo Ak Spec
variable {TB:A7}
def Ix (t:BY) (ok:W→Prop) (m:Ex):Prop:=Gx t ok m∧m.F[0]? = some (B3 t)
theorem Ms [DG TB] {t:BY} {ok:W→Prop} (ht:AR t=true) (hfew:Uo t ok) {m0:Ex} (hm0:Ix t ok m0) {w:W} (how:ok w) (hw:∀c∈w,0≤(c.toNat:Int) - 97∧(c.toNat:Int) - 97 < 6) (hwl:w.length≤1048576) :
    AP Tryz.prog TB 92 1 (I7 t m0) 5 [.o (.ptr 0 14 0 0),eT w] (fun x σ nx=>x=eB (LS t w)∧nx=5∧∃m,Ix t ok m∧σ=I7 t m):=by
  have hdr:w.drop 0=w:=rfl
  refine AP.AQ (AP.MD (m:=1) (Nat.le_of_ble_eq_true rfl) Tryz.func92 rfl (by kernel_rfl) (Nat.le_of_ble_eq_true rfl) ?_);intro Γ hΓ
  (repeat first|refine tA rfl ?_ |refine aU rfl ?_ |refine Aa ?_)
  refine aB ?_
  refine aL (α:={x:Nat×Nat×Ex // x.1≤w.length∧Ix t ok x.2.2∧∃F,x.2.2.F[x.2.1]? = some F∧GD t F (w.drop x.1)=LS t w∧F=Kk t (B3 t) (w.take x.1)}) [0,1] [] rfl rfl (fun s=>[(5,eI .i64 s.1.2.1),(6,eI .i64 s.1.1)]) (fun s=>I7 t s.1.2.2) 5 (fun s=>w.length - s.1.1) (⟨⟨0,0,m0⟩,by simp,hm0,B3 t,hm0.2,rfl,rfl⟩) hΓ rfl (by (simp[cX,zC,hΓ,AB])) ?_;rintro ⟨⟨i,n,m⟩,hi,hm,F,hF,hs,hrn⟩;(try dsimp only[cA,cB])
  have hi:i≤w.length:=hi
  have hm:Ix t ok m:=hm
  have hrn:F=Kk t (B3 t) (w.take i):=hrn
  have hF:m.F[n]? = some F:=hF
  have hs:GD t F (w.drop i)=LS t w:=hs
  have hu:=hm.1.un n F hF
  have hul:=(List.getElem?_eq_some_iff.1 hu).1
  have hu':(m.un.map AL)[0+((n:Nat):Int).toNat]? = some (AL (HP t F)):=by rw [Nat.zero_add,Int.toNat_natCast];simp [hu]
  by_cases hlt:i < w.length
  · obtain ⟨c,hc⟩:=get_some hlt
    have hc':w[((i:Nat):Int).toNat]? = some c:=by simpa using hc
    have hcl:=hw c (List.mem_of_getElem? hc)
    have hla:=Es (TB:=TB) w i c hc' hcl
    have hd:=C6 hc
    have hrn1:DF t ((c.toNat:Int) - 97) F=Kk t (B3 t) (w.take (i+1)):=by
      rw [List.take_add_one,hc,NG,←hrn];rfl
    obtain ⟨m1,j,hm1,hle,hj,haf⟩:=Rh (TB:=TB) ht hfew hm.1 hF hcl (.inr ⟨w.take (i+1),w.drop (i+1),by rw [List.take_append_drop];exact how,hrn1⟩)
    rw [hd,GD] at hs
    generalize HP t F=b at *
    (repeat' first|(refine sA rfl ?_ ?_;first|exact tI|omega) |refine t4 rfl ‹_› rfl ?_ |refine s2 rfl fun _ _hb=>?_ |refine s3 rfl ?_ ?_<;>rintro rfl |refine aU rfl ?_ |refine Aa ?_|(refine aC rfl ?_ ?_<;>rintro ⟨⟩));all_goals try contradiction
    all_goals first| (exfalso;(simp only[oZ] at *;omega);done)|skip
    · have hb:b=false:=by simpa using _hb
      subst hb
      refine aK ?_
      refine aS (aB ?_)
      (repeat first|refine tA rfl ?_ |refine sP rfl (hla) rfl ?_ |refine aU rfl ?_)
      (refine pW rfl ?_ rfl (by rfl);refine Ba [0,1,2,3,4] rfl rfl 1 (haf) (by decide) ⟨rfl,by decide,by decide⟩ rfl (by simp[cX,zC,hΓ,AB]) ?_;rintro x0 σ1 nx1 ⟨rfl,rfl,rfl⟩ _)
      (repeat first|refine tA rfl ?_)
      refine Aa ?_
      (repeat first|(refine sA rfl ?_ ?_;first|exact tI|omega) |refine aU rfl ?_ |refine Aa ?_)
      refine ⟨⟨⟨i+1,j,m1⟩,by omega,⟨hm1,hle 0 _ hm.2⟩,_,hj,by simpa using hs,hrn1⟩,by dsimp only;(omega),[0,5,6,7,8],?_⟩
      simp[cX,zC,hΓ,AB]
    · have hb:b=true:=by simpa using _hb
      subst hb
      have hs:LS t w=false:=by simpa using hs.symm
      rw [hs]
      refine aE ?_
      (repeat first|(refine sA rfl ?_ ?_;first|exact tI|omega) |refine t4 rfl ‹_› rfl ?_ |refine s2 rfl fun _ _hb=>?_ |refine aU rfl ?_ |refine Aa ?_)
      refine aR ⟨_,rfl,[0,1,2,3,4],eB false,I7 t m,⟨by intro i hi;match i with|0=>rfl,by decide⟩,by subst_vars;rfl,by (simp[cX,zC,hΓ,AB]),rfl,rfl,m,hm,rfl⟩
  · obtain rfl:i=w.length:=by omega
    rw [List.drop_length,GD] at hs
    rw [←hs]
    (repeat' first|(refine sA rfl ?_ ?_;first|exact tI|omega) |refine t4 rfl ‹_› rfl ?_ |refine s2 rfl fun _ _hb=>?_ |refine s3 rfl ?_ ?_<;>rintro rfl |refine aU rfl ?_ |refine Aa ?_|(refine aC rfl ?_ ?_<;>rintro ⟨⟩));all_goals try contradiction
    all_goals first| (exfalso;(simp only[oZ] at *;omega);done)|skip
    refine aE ?_
    (repeat first|(refine sA rfl ?_ ?_;first|exact tI|omega) |refine t4 rfl ‹_› rfl ?_ |refine s2 rfl fun _ _hb=>?_ |refine aU rfl ?_ |refine Aa ?_)
    refine aR ⟨_,rfl,[0,1,2,3,4],eB (!HP t F),I7 t m,⟨by intro i hi;match i with|0=>rfl,by decide⟩,by subst_vars;rfl,by (simp[cX,zC,hΓ,AB]),rfl,rfl,m,hm,rfl⟩
def GF (t:BY) (ok:W→Prop):Hid:=⟨{m:Ex // Ix t ok m},fun s=>I7 t s.1,5⟩
theorem SS {tabs:List (Nat×Obj)} [DG ⟨tabs,none⟩] {t:BY} {ok:W→Prop} (ht:AR t=true) (hfew:Uo t ok) {r:Nat} {w:W} (how:ok w) (hw:∀c∈w,0≤(c.toNat:Int) - 97∧(c.toNat:Int) - 97 < 6) (hwl:w.length≤1048576) :
    Pure Tryz.prog ⟨tabs,some (GF t ok,r)⟩ 92 [.o (Fw r),eT w] (eB (LS t w)):=
  Sf (H:=GF t ok) (k:=14) (es:=[eT w]) ⟨_,Tryz.func92,by kernel_rfl,rfl⟩ (by intro e he;simp at he;subst he;rfl) rfl fun s=>
    ⟨(Ms (TB:=⟨tabs,none⟩) ht hfew s.2 how hw hwl).1,fun V vs S hg ha=>((Ms (TB:=⟨tabs,none⟩) ht hfew s.2 how hw hwl).2 V vs S hg ha).mono fun e w' ⟨V',v,x,σ',h1,h2,h3,h4,h5,h6,m,h7,h8⟩=>⟨V',v,x,σ',h1,h2,h3,h4,h5,h6,⟨m,h7⟩,h8⟩⟩
section
variable {P:Program} {Γ:Ctx} {d:Option Tmp} {ty:TypeId} {pos:String} {af:Array Edge} {g:Option (Nat×Bool)} {f:Env} {σ:Ab} {nx:Nat}
variable {K:E→Ab→Nat→Prop}
theorem Qr {t:TypeId} {z:List Value} {fl:List (Nat×Nat)} {parts:Array (Nat×Operand)} {es:List E} {qs:List (Nat×List C)} [hz:Bz P t z] [hf:DE P t fl] (p k e q k' e' s k'' e'':Nat) (hp:z[p]? = some (.slice none 0 0)) (hp':z[q]? = some (.slice none 0 0)) (hp'':z[s]? = some (.slice none 0 0)) (hpq:p≠q∧p≠s∧q≠s) (hes:Gd f (parts.toList.map (·.2))=some es) (hq:Dx fl parts.toList es=some qs)
    (hok:z.all KF=true) (hle:(qs.all fun x=>Nat.ble (x.1+x.2.length) z.length)=true) (hK:K (.a (BQ qs ((((z.map zC).set p (.arr nx k 0 0)).set q (.arr (nx+1) k' 0 0)).set s (.arr (nx+2) k'' 0 0)))) ((nx+2,.cells e'' k'' [])::(nx+1,.cells e' k' [])::(nx,.cells e k [])::σ) (nx+3)):B0 P TB Γ ⟨d,.build t parts,ty,pos,af,g⟩ f σ nx K:=
  CT fun V ρ h1 h2 h3=>by
    subst h3
    obtain ⟨i,zv,hi,hzv,hzz⟩:=FW hz.out
    obtain ⟨hi1,he1⟩:=h2.alloc (c:=0) (nl:=True) (w:=V.w) (ob:=.cells e k []) rfl rfl rfl rfl (Nat.le_refl _) (fun _ _=>rfl) (.inl ⟨by simp [Al],rfl⟩)
    obtain ⟨hi2,he2⟩:=hi1.alloc (c:=0) (nl:=True) (w:=V.w) (ob:=.cells e' k' []) rfl rfl rfl rfl (Nat.le_refl _) (fun _ _=>rfl) (.inl ⟨by simp [Al],rfl⟩)
    obtain ⟨hi4,he4⟩:=hi2.alloc (c:=0) (nl:=True) (w:=V.w) (ob:=.cells e'' k'' []) rfl rfl rfl rfl (Nat.le_refl _) (fun _ _=>rfl) (.inl ⟨by simp [Al],rfl⟩)
    have he3:=(he1.trans he2).trans he4
    have hfo:=Ce (V:=Al (Al (Al V V.w.heap.size 0 True V.w) V.w.heap.size 0 True V.w) V.w.heap.size 0 True V.w) (ρ:=ρ) parts.toList es qs (fun x hx e he=>(h1.get (by simp only [Op.operands];simpa using hx) he).ext he3) hes hq
    have hzr : Cf (Al (Al (Al V V.w.heap.size 0 True V.w) V.w.heap.size 0 True V.w) V.w.heap.size 0 True V.w) ((((z.map zC).set p (.arr V.nx k 0 0)).set q (.arr (V.nx+1) k' 0 0)).set s (.arr (V.nx+2) k'' 0 0)) zv.cells:=by
      refine ⟨by rw [List.length_set,List.length_set,List.length_set,List.length_map,←hzz];simp,fun j c v hj hv=>?_⟩
      have hzj:z[j]? = some v:=by rw [←hzz,Array.getElem?_toList];exact hv
      by_cases hjs:s=j
      · subst hjs
        rw [hp''] at hzj
        injection hzj with hzj
        subst hzj
        rw [List.getElem?_set_self (by rw [List.length_set,List.length_set,List.length_map];exact (List.getElem?_eq_some_iff.1 hp'').1)] at hj
        injection hj with hj
        subst hj
        exact Aw.nil (by simp [Al]) (by simp [Al])
      · rw [List.getElem?_set_ne hjs] at hj
        by_cases hjq:q=j
        · subst hjq
          rw [hp'] at hzj
          injection hzj with hzj
          subst hzj
          rw [List.getElem?_set_self (by rw [List.length_set,List.length_map];exact (List.getElem?_eq_some_iff.1 hp').1)] at hj
          injection hj with hj
          subst hj
          exact Aw.nil (by simp [Al]) (by simp [Al])
        · rw [List.getElem?_set_ne hjq] at hj
          by_cases hjp:p=j
          · subst hjp
            rw [hp] at hzj
            injection hzj with hzj
            subst hzj
            rw [List.getElem?_set_self (by rw [List.length_map];exact (List.getElem?_eq_some_iff.1 hp).1)] at hj
            injection hj with hj
            subst hj
            exact Aw.nil (by simp [Al];omega) (by simp [Al])
          · rw [List.getElem?_set_ne hjp,List.getElem?_map,hzj] at hj
            injection hj with hj
            subst hj
            exact Ha (List.all_eq_true.1 hok v (List.mem_of_getElem? hzj))
    obtain ⟨cells,h4,h5⟩:=DY _ _ _ _ hfo hzr (fun x hx=>by rw [List.length_set,List.length_set,List.length_set,List.length_map];exact FB _ _ hle x hx)
    have hb:=run_build (P:=P) (ρ:=ρ) (parts:=parts) (V:=V) hi hzv hf.out h4
    refine ⟨.agg cells,_,_,_,?_,he3,hi4,(show AV _ (.a _) _ from ⟨cells,rfl,h5⟩),hK⟩
    show ((do let v ←Instr.build t (parts.map fun (i,x)=>(i,ρ x));pure (Go.Next.value v):Sem Go.Next)).run P V.w=_
    simp only [Sem.run_bind,hb,Result.andThen_ok]
    rfl
end
theorem FM {a b:Int} (ha:Bk a=true) (hb:Bk b=true):Ag (Er .i64 a b)=(Ag a).filter fun l=>!DJ b l.toNat:=by
  have key:((List.range 64).all fun x=>(List.range 64).all fun y=>decide (Ag (Er .i64 (x:Nat) (y:Nat))=(Ag (x:Nat)).filter fun l=>!DJ (y:Nat) l.toNat))=true:=by kernel_rfl
  unfold Bk at ha hb
  simp only [decide_eq_true_eq] at ha hb
  have h1:=List.all_eq_true.1 key a.toNat (List.mem_range.2 (by omega))
  have h2:=List.all_eq_true.1 h1 b.toNat (List.mem_range.2 (by omega))
  rw [Int.toNat_of_nonneg ha.1,Int.toNat_of_nonneg hb.1] at h2
  exact of_decide_eq_true h2
abbrev Tb (t:BY):List D:=[iD t.s.al,iD t.s.st,Ey t.s.es,iD t.q.al,Ez t.q.nx,Iz t.q.ac,iD t.al]
abbrev FA (t:BY):E:=.a ((Tb t).map .d)
theorem MY (t:BY) (ok:W→Prop):Gx t ok ⟨[],[],[]⟩:=⟨rfl,rfl,List.nodup_nil,by simp,by simp,by simp,by simp⟩
theorem Hs [DG TB] {t:BY} (ht:AR t=true) (ok:W→Prop):∃m,Ix t ok m∧AP Tryz.prog TB 91 0 [] 0 [FA t] (fun x σ nx=>x=.o (.ptr 0 14 0 0)∧σ=I7 t m∧nx=5):=by
  have hs:Bu t.s=true:=by unfold AR at ht;simp only [Bool.and_eq_true] at ht;exact ht.1
  have hta:Bk t.al=true:=by unfold AR at ht;simp only [Bool.and_eq_true] at ht;exact ht.2.2
  have hsh:=BX hs
  have hz:=KC ht
  obtain ⟨m1,k,hcase,hadd⟩:=Rg (TB:=TB) ht (MY t ok) (by simp) (Ir ht)
  have hm1:m1=Gs t ⟨[],[],[]⟩ (B3 t):=by
    rcases hcase with ⟨_,h2⟩|⟨h2,_,_⟩
    · simp at h2
    · exact h2
  have hcl:=MV (TB:=TB) ht ⟨[],[],[]⟩ hz
  refine ⟨m1,⟨by rw [hm1];exact O0 (MY t ok) .start (.inl rfl) (by simp),by rw [hm1];rfl⟩,?_⟩
  have hmv:=Ox (TB:=TB) t.s hs
  have htb:=GZ (TB:=TB) t.q (Cb ht)
  have hlo:=DL (TB:=TB) (Er .i64 t.s.al t.al)
  rw [FM hsh.1 hta] at hlo
  have hlo:Pure Tryz.prog TB 88 [eI .i64 (Er .i64 t.s.al t.al)] (BP (B4 t)):=hlo
  rw [show NT t HK=B3 t from rfl] at hcl
  have hmp:mapA .u16 (KR [])=[]:=rfl
  have hpz:Eu HK=[1,0,0,0,0,0,0,0,0,0,0,0]:=rfl
  refine AP.AQ (AP.MD (m:=0) (Nat.le_of_ble_eq_true rfl) Tryz.func91 rfl (by kernel_rfl) (Nat.le_of_ble_eq_true rfl) ?_);intro Γ hΓ
  (repeat first|refine tA rfl ?_ |refine aU rfl ?_ |refine Aa ?_)
  refine rG (JJ [(14,1),(15,1),(16,1)]) (by kernel_rfl) ?_
  (repeat first|refine tX rfl ?_ |refine sP rfl (hmv) rfl ?_|refine sP rfl (htb) rfl ?_|refine sP rfl (hlo) rfl ?_|(refine Af rfl ?_;refine gA rfl ?_;first| refine gS (fun _ _=>Sh rfl rfl rfl) ?_))
  (refine pW rfl ?_ rfl (by rfl);refine Lq ?_)
  (refine pW rfl ?_ rfl (by rfl);refine Qr 10 12 132 12 6 97 13 1 4 rfl rfl rfl (by decide) rfl rfl (by rfl) (by rfl) ?_)
  (refine pW rfl ?_ rfl (by rfl);refine Fq rfl rfl ?_)
  (repeat first|refine tA rfl ?_)
  refine Aa ?_
  refine Ak.Aj [] [] rfl rfl [(3,.o (.ptr 0 14 0 0))] [(0,.cells 128 14 [SQ t (.arr 1 12 0 0) (.mp 2) (.arr 3 6 0 0) (.arr 4 1 0 0)]),(1,.cells 132 12 []),(2,.mp []),(3,.cells 97 6 []),(4,.cells 4 1 [])] [4,1,0,2,3] (rl hΓ rfl) (by (simp[cX,zC,hΓ,AB])) ?_;(try dsimp only[cA,cB])
  (repeat first|refine tA rfl ?_|(refine Af rfl ?_;refine gA rfl ?_;first| refine gS (fun _ _=>AD rfl rfl (by rfl) (by rfl)) ?_) |refine aU rfl ?_)
  (refine pW rfl ?_ rfl (by rfl);refine Ac [0,1,2,3,4] rfl rfl (hcl) ⟨rfl,by decide,by decide⟩ rfl (by simp[cX,zC,hΓ,AB,hpz,hmp]) ?_;rintro x0 σ1 nx1 ⟨rfl,rfl,rfl⟩ _)
  (refine pW rfl ?_ rfl (by rfl);refine Ba [0,1,2,3,4] rfl rfl 1 (hadd) (by decide) ⟨rfl,by decide,by decide⟩ rfl (by simp[cX,zC,hΓ,AB]) ?_;rintro x0 σ1 nx1 ⟨rfl,rfl,rfl⟩ _)
  refine Aa ?_
  (repeat first|refine tA rfl ?_ |refine aU rfl ?_ |refine Aa ?_)
  refine aR ⟨_,rfl,[0,5,6,7,8],.o (.ptr 0 14 0 0),I7 t m1,⟨by intro i hi;omega,by decide⟩,rfl,by (simp[cX,zC,hΓ,AB]),rfl,rfl,rfl⟩
theorem Ou {es:List Dm} {l:Int} {m k:Nat} {e:Dm} (he:es[k]? = some e):Bs (es.take (k+1)) l m=if e.l=l∧m.testBit e.f.toNat=true then Bs (es.take k) l m ||| 2 ^ e.t.toNat else Bs (es.take k) l m:=by
  unfold Bs
  rw [List.take_add_one,he,List.foldl_append];rfl
theorem Nn {s:Sys} (hs:Bu s=true) {l:Int} {m k:Nat}:Bs (s.es.take k) l m < 65536:=Gb fun j hj=>by
  obtain ⟨e,he,_,rfl⟩:=Dq.1 hj
  have hb:=Cx hs (List.mem_of_mem_take he)
  have hh:=BX hs
  unfold CJ at hb
  simp only [Bool.and_eq_true,decide_eq_true_eq] at hb
  omega
theorem Lj {s:Sys} (hs:Bu s=true) (l:Int) {m:Nat} (hm:m < 65536):Pure Tryz.prog TB 169 [CI s,eI .i64 (m:Nat),eI .i64 l] (eI .i64 (Bs s.es l m:Nat)):=by
  have hh:=BX hs
  refine eG Tryz.func169 rfl (by kernel_rfl) rfl ?_;intro Γ hΓ
  refine Ak.bound 0 rfl fun hB0=>?_
  have hB:=hB0 (s.es.map CL) ⟨2,_,rfl,.refl⟩
  rw [List.length_map] at hB
  (repeat first|refine tA rfl ?_ |refine aU rfl ?_ |refine Aa ?_)
  refine aB ?_
  refine aL (α:={k:Nat // k≤s.es.length}) [1,2,3] [] rfl rfl (fun ⟨k,hk⟩=>[(7,eI .i64 (Bs (s.es.take k) l m:Nat)),(8,eI .i64 k)]) (fun ⟨k,hk⟩=>[]) 0 (fun ⟨k,hk⟩=>s.es.length - k) (⟨0,by omega⟩) hΓ rfl (by (simp[cX,zC,hΓ]<;>rfl)) ?_;rintro ⟨k,hk⟩;(try dsimp only[cA,cB])
  by_cases hlt:k < s.es.length
  · obtain ⟨e,he⟩:=get_some hlt
    have he':=get_map (g:=CL) he
    have hee:(s.es.map CL)[((k:Nat):Int).toNat]? = some (CL e):=by rw [Int.toNat_natCast];exact he'
    have hb:=Cx hs (List.mem_of_getElem? he)
    unfold CJ at hb
    simp only [Bool.and_eq_true,decide_eq_true_eq] at hb
    have hst:=Ou (l:=l) (m:=m) he
    have hlt1:=Nn hs (l:=l) (m:=m) (k:=k)
    have hh1:=CQ (TB:=TB) (m:Nat) e.f (by omega) (by omega)
    rw [Hg (by omega) (by omega)] at hh1
    have hbt:=Nl (TB:=TB) e.t (by omega) (by omega)
    have hp2:2 ^ e.t.toNat < 65536:=by
      have:2 ^ e.t.toNat≤2 ^ 15:=Nat.pow_le_pow_right (by omega) (by omega)
      omega
    have hor:=Ji (a:=Bs (s.es.take k) l m) (b:=2 ^ e.t.toNat) (by omega) (by omega)
    generalize 2 ^ e.t.toNat=p2 at *
    (repeat first|refine sN rfl ?_ |refine tA rfl ?_ |refine s2 rfl fun _ _hb=>?_ |refine aU rfl ?_ |refine Aa ?_)
    ((refine aC rfl ?_ ?_<;>rintro ⟨⟩);all_goals try(exfalso;(simp only[oZ] at *;omega)))
    refine aK ?_
    refine aS (aB ?_)
    (repeat' first|(refine sA rfl ?_ ?_;first|exact tI|omega) |(refine s4 rfl ‹_› rfl ?_ ?_;omega) |refine s2 rfl fun _ _hb=>?_ |(refine sC rfl (hh1) ?_;intro _ _hb)|refine sP rfl (hbt) rfl ?_ |refine s3 rfl ?_ ?_<;>rintro rfl |refine aU rfl ?_ |refine Aa ?_|(refine aC rfl ?_ ?_<;>rintro ⟨⟩));all_goals try contradiction
    · refine ⟨⟨k+1,by omega⟩,by dsimp only;(omega),[],?_⟩
      have h1:Bs (s.es.take (k+1)) l m=Bs (s.es.take k) l m ||| p2:=by rw [hst,if_pos ⟨by simpa using ‹decide (e.l=l)=true›,_hb⟩]
      simp[cX,zC,hΓ,hor,h1]
    · have h1:Bs (s.es.take (k+1)) l m=Bs (s.es.take k) l m:=by rw [hst,if_neg (by simp [_hb])]
      refine aK ?_
      (repeat first|(refine sA rfl ?_ ?_;first|exact tI|omega) |refine aU rfl ?_ |refine Aa ?_)
      refine ⟨⟨k+1,by omega⟩,by dsimp only;(omega),[],?_⟩
      simp[cX,zC,hΓ,h1]
    · have h1:Bs (s.es.take (k+1)) l m=Bs (s.es.take k) l m:=by rw [hst,if_neg (fun h=>by simp [h.1] at _hb)]
      refine aK ?_
      (repeat first|(refine sA rfl ?_ ?_;first|exact tI|omega) |refine aU rfl ?_ |refine Aa ?_)
      refine ⟨⟨k+1,by omega⟩,by dsimp only;(omega),[],?_⟩
      simp[cX,zC,hΓ,h1]
  · obtain rfl:k=s.es.length:=by omega
    rw [List.take_length]
    (repeat first|refine sN rfl ?_ |refine tA rfl ?_ |refine s2 rfl fun _ _hb=>?_ |refine aU rfl ?_ |refine Aa ?_)
    ((refine aC rfl ?_ ?_<;>rintro ⟨⟩);all_goals try(exfalso;(simp only[oZ] at *;omega)))
    refine aE ?_
    (repeat first|refine tA rfl ?_ |refine aU rfl ?_ |refine Aa ?_)
    (subst_vars;exact aR ⟨_,rfl,rfl⟩)
abbrev Ik (n:Nat) (F:PS):List Int:=(List.range n).map fun p=>(F p:Int)
def Cl (t:BY) (G:PS) (i k:Nat):Prop:=∀p,p < t.q.nx.length→∀l∈B4 t,(p < i∨(p=i∧l∈(B4 t).take k))→∀j,(Bs t.s.es l (G p)).testBit j=true→(G (Dl t.q p l).toNat).testBit j=true
structure MI (t:BY) (F0 F:PS) (i k:Nat) (G:PS) (b:Bool):Prop where
  ok:Cr t G
  lo:∀p j,(F0 p).testBit j=true→(G p).testBit j=true
  hi:∀p j,(G p).testBit j=true→MC t F0 p j
  le:∀p,F p≤G p
  yes:b=true→I6 G < I6 F
  no:b=false→G=F∧Cl t F i k
theorem TM {F G:PS} (h:∀p,F p≤G p):I6 G≤I6 F:=by
  unfold I6
  repeat' apply Nat.add_le_add
  all_goals exact Nat.sub_le_sub_left (h _) _
def OP (G:PS) (x v:Nat):PS:=fun p=>if p=x then v else G p
theorem MI.Ks {t:BY} (ht:AR t=true) {F0 F G:PS} {i k:Nat} {b:Bool} (h:MI t F0 F i k G b) (hi:i < t.q.nx.length) {l:Int} (hk:(B4 t)[k]? = some l) {x:Nat} (hx:Dl t.q i l=(x:Int)) (hne:G x ||| Bs t.s.es l (G i)≠G x):MI t F0 F i (k+1) (OP G x (G x ||| Bs t.s.es l (G i))) true:=by
  have hl:=List.mem_of_getElem? hk
  have hin:=E9 ht hl
  have hga:=FG (Cb ht) hi hin.1 hin.2.1
  have hss:=FT ht (l:=l) (h.ok.lt i)
  unfold Cn at hss
  rw [if_pos hin.2.2] at hss
  have hlt:G x ||| Bs t.s.es l (G i) < 65536:=by have:=Nat.or_lt_two_pow (n:=16) (h.ok.lt x) hss;omega
  have hle:∀p,G p≤OP G x (G x ||| Bs t.s.es l (G i)) p:=fun p=>by
    unfold OP
    split
    · rename_i e;subst e;exact Nat.left_le_or
    · exact Nat.le_refl _
  refine ⟨⟨fun p=>?_,fun p hp=>?_⟩,fun p j hj=>?_,fun p j hj=>?_,fun p=>Nat.le_trans (h.le p) (hle p),fun _=>?_,fun h=>by cases h⟩
  · unfold OP
    split
    · exact hlt
    · exact h.ok.lt p
  · unfold OP
    rw [if_neg (by omega)];exact h.ok.z p hp
  · have:=h.lo p j hj
    unfold OP
    split
    · rename_i e;subst e;rw [Nat.testBit_or,this];rfl
    · exact this
  · unfold OP at hj
    split at hj
    · rename_i e
      subst e
      rw [Nat.testBit_or,Bool.or_eq_true] at hj
      rcases hj with hj|hj
      · exact h.hi p j hj
      · obtain ⟨e,he,⟨h3,h4⟩,h5⟩:=Dq.1 hj
        subst h3
        have:=MC.step (h.hi i _ h4) he hl rfl
        rw [hx,h5] at this
        simpa using this
    · exact h.hi p j hj
  · have h1:=TM h.le
    refine Nat.lt_of_lt_of_le (Pn h.ok.lt (fun p=>?_) hle fun he=>hne ?_) h1
    · unfold OP
      split
      · exact hlt
      · exact h.ok.lt p
    · have hn:=AN (Cb ht)
      have:=Mk he x (by omega)
      simpa [OP] using this
theorem MI.Xc {t:BY} (ht:AR t=true) {F0 F G:PS} {i k:Nat} {b:Bool} (h:MI t F0 F i k G b) {l:Int} (hk:(B4 t)[k]? = some l) {x:Nat} (hx:Dl t.q i l=(x:Int)) (he:G x ||| Bs t.s.es l (G i)=G x):MI t F0 F i (k+1) G b:=
  ⟨h.ok, h.lo,h.hi,h.le,h.yes,fun hb=>by
    obtain ⟨rfl,hc⟩:=h.no hb
    refine ⟨rfl,fun p hp l' hl' hor j hj=>?_⟩
    rcases hor with h1|⟨rfl,h1⟩
    · exact hc p hp l' hl' (.inl h1) j hj
    · rw [List.take_add_one,hk] at h1
      rcases List.mem_append.1 h1 with h1|h1
      · exact hc p hp l' hl' (.inr ⟨rfl,h1⟩) j hj
      · simp at h1
        subst h1
        rw [hx,Int.toNat_natCast,←he,Nat.testBit_or,hj,Bool.or_true]⟩
theorem MI.row {t:BY} {F0 F G:PS} {i:Nat} {b:Bool} (h:MI t F0 F i (B4 t).length G b):MI t F0 F (i+1) 0 G b:=
  ⟨h.ok,h.lo,h.hi,h.le,h.yes,fun hb=>by
    obtain ⟨rfl,hc⟩:=h.no hb
    refine ⟨rfl,fun p hp l' hl' hor j hj=>?_⟩
    rcases hor with h1|⟨rfl,h1⟩
    · rcases Nat.lt_or_ge p i with h2|h2
      · exact hc p hp l' hl' (.inl h2) j hj
      · exact hc p hp l' hl' (.inr ⟨by omega,by rw [List.take_length];exact hl'⟩) j hj
    · simp at h1⟩
theorem MI.done {t:BY} (ht:AR t=true) {F0 F G:PS} (h0:Cr t F0) (h:MI t F0 F t.q.nx.length 0 G false):G=NT t F0:=by
  obtain ⟨rfl,hc⟩:=h.no rfl
  exact Rs ht h0 h.ok.z h.lo h.hi fun p l j hp hl hj=>hc p hp l hl (.inl hp) j hj
theorem Uh {a b:Int} (ha:Bk a=true) (hb:Bk b=true):a - Du .i64 a b=Er .i64 a b∧0≤Du .i64 a b∧Du .i64 a b≤63:=by
  have key:((List.range 64).all fun x=>(List.range 64).all fun y=>decide (((x:Nat):Int) - Du .i64 (x:Nat) (y:Nat)=Er .i64 (x:Nat) (y:Nat)∧0≤Du .i64 (x:Nat) (y:Nat)∧Du .i64 (x:Nat) (y:Nat)≤63))=true:=by kernel_rfl
  unfold Bk at ha hb
  simp only [decide_eq_true_eq] at ha hb
  have h1:=List.all_eq_true.1 key a.toNat (List.mem_range.2 (by omega))
  have h2:=List.all_eq_true.1 h1 b.toNat (List.mem_range.2 (by omega))
  rw [Int.toNat_of_nonneg ha.1,Int.toNat_of_nonneg hb.1] at h2
  exact of_decide_eq_true h2
theorem Mj {n x v:Nat} {G:PS}:((Ik n G).map AY).set x (AY (v:Int))=(Ik n (OP G x v)).map AY:=by
  apply List.ext_getElem?
  intro i
  rw [List.getElem?_set]
  by_cases hi:i < n
  · have h1:∀H:PS,((Ik n H).map AY)[i]? = some (AY (H i:Int)):=fun H=>by simp [hi]
    rw [h1,h1]
    unfold OP
    by_cases e:x=i
    · subst e;rw [if_pos rfl,if_pos (by simpa using hi),if_pos rfl]
    · rw [if_neg e,if_neg (fun h=>e h.symm)]
  · have h1:∀H:PS,((Ik n H).map AY)[i]? = none:=fun H=>List.getElem?_eq_none (by simp;omega)
    rw [h1,h1]
    by_cases e:x=i
    · subst e;rw [if_pos rfl,if_neg (by simpa using hi)]
    · rw [if_neg e]
theorem Mi {n x:Nat} {G:PS} (h:x < n):((Ik n G).map AY)[0+((x:Nat):Int).toNat]? = some (AY (G x:Int)):=by rw [Nat.zero_add,Int.toNat_natCast];simp [h]
theorem MI.start {t:BY} {F0 F:PS} (hF:Cr t F) (h1:∀p j,(F0 p).testBit j=true→(F p).testBit j=true) (h2:∀p j,(F p).testBit j=true→MC t F0 p j):MI t F0 F 0 0 F false:=
  ⟨hF,h1,h2,fun _=>Nat.le_refl _,fun h=>(by cases h),fun _=>⟨rfl,fun p _ l _ h=>by simp at h⟩⟩
theorem JS {t:BY} (ht:AR t=true) {F0:PS} (hF0:Cr t F0):Spec Tryz.prog TB 168 [(0,.cells 3 1 ((Ik t.q.nx.length F0).map AY))] 1 [FA t,.o (.arr 0 1 0 t.q.nx.length)] (fun x σ nx=>x=.o (.arr 0 1 0 t.q.nx.length)∧σ=[(0,.cells 3 1 ((Ik t.q.nx.length (NT t F0)).map AY))]∧nx=1):=by
  have hs:Bu t.s=true:=by unfold AR at ht;simp only [Bool.and_eq_true] at ht;exact ht.1
  have hta:Bk t.al=true:=by unfold AR at ht;simp only [Bool.and_eq_true] at ht;exact ht.2.2
  have hsh:=BX hs
  have haut:=Cb ht
  have hah:=AN haut
  have hsa:=Uh hsh.1 hta
  have hla:=hsh.1
  unfold Bk at hla
  simp only [decide_eq_true_eq] at hla
  have hlo:Pure Tryz.prog TB 83 [eI .i64 (t.s.al - Du .i64 t.s.al t.al)] (BP (B4 t)):=by
    have:=B7 (TB:=TB) (t.s.al - Du .i64 t.s.al t.al)
    rw [hsa.1,FM hsh.1 hta] at this
    rw [hsa.1];exact this
  have hll:(B4 t).length≤6:=by
    unfold B4
    have h1:(Ag t.s.al).length≤6:=AO _ _
    exact Nat.le_trans (List.length_filter_le _ _) h1
  refine eR Tryz.func168 rfl (by kernel_rfl) rfl ?_;intro Γ hΓ
  (repeat first|(refine sA rfl ?_ ?_;first|exact tI|omega) |refine sP rfl (hlo) rfl ?_ |refine aU rfl ?_ |refine Aa ?_)
  refine aB ?_
  refine aL (α:={s:PS×Bool // Cr t s.1∧(∀p j,(F0 p).testBit j=true→(s.1 p).testBit j=true)∧(∀p j,(s.1 p).testBit j=true→MC t F0 p j)∧(s.2=false→s.1=NT t F0)}) [1,2,5] [] rfl rfl (fun s=>[(6,eB s.1.2)]) (fun s=>[(0,.cells 3 1 ((Ik t.q.nx.length s.1.1).map AY))]) 1 (fun s=>(if s.1.2 then I6 s.1.1+1 else 0)) (⟨⟨F0,true⟩,hF0,fun _ _ h=>h,fun _ _ h=>.base h,fun h=>by cases h⟩) hΓ rfl (by (simp[cX,zC,hΓ])) ?_;rintro ⟨⟨F,b⟩,hF,h1,h2,h3⟩;(try dsimp only[cA,cB])
  have hF:Cr t F:=hF
  cases b with
  | false=>
    obtain rfl:F=NT t F0:=h3 rfl
    (repeat first|refine tA rfl ?_ |refine aU rfl ?_ |refine Aa ?_)
    (refine aC rfl ?_ ?_<;>rintro ⟨⟩)
    refine aE ?_
    (repeat first|refine tA rfl ?_ |refine aU rfl ?_ |refine Aa ?_)
    refine aR ⟨_,rfl,[0],.o (.arr 0 1 0 t.q.nx.length),_,⟨by intro i hi;match i with|0=>rfl,by decide⟩,rfl,?_,rfl,rfl,rfl⟩
    (simp[cX,zC,hΓ])
  | true =>
    (repeat first|refine tA rfl ?_ |refine aU rfl ?_ |refine Aa ?_)
    (refine aC rfl ?_ ?_<;>rintro ⟨⟩)
    refine aK ?_
    refine aB ?_
    (repeat first|refine tA rfl ?_ |refine aU rfl ?_ |refine Aa ?_)
    refine aB ?_
    refine aL (α:={s:Nat×PS×Bool // s.1≤t.q.nx.length∧MI t F0 F s.1 0 s.2.1 s.2.2}) [1,2,5] [] rfl rfl (fun s=>[(6,eB s.1.2.2),(7,eI .i64 s.1.1)]) (fun s=>[(0,.cells 3 1 ((Ik t.q.nx.length s.1.2.1).map AY))]) 1 (fun s=>t.q.nx.length - s.1.1) (⟨⟨0,F,false⟩,by simp,.start hF h1 h2⟩) hΓ rfl (by (simp[cX,zC,hΓ])) ?_;rintro ⟨⟨i,G,b⟩,hi,hG⟩;(try dsimp only[cA,cB])
    have hi:i≤t.q.nx.length:=hi
    have hG:MI t F0 F i 0 G b:=hG
    by_cases hin:i < t.q.nx.length
    · (repeat first|refine tA rfl ?_ |refine s2 rfl fun _ _hb=>?_ |refine aU rfl ?_ |refine Aa ?_)
      ((refine aC rfl ?_ ?_<;>rintro ⟨⟩);all_goals try(exfalso;(simp only[oZ] at *;omega)))
      refine aK ?_
      refine aS (aB ?_)
      (repeat first|refine tA rfl ?_ |refine aU rfl ?_ |refine Aa ?_)
      refine aB ?_
      refine aL (α:={s:Nat×PS×Bool // s.1≤(B4 t).length∧MI t F0 F i s.1 s.2.1 s.2.2}) [1,2,5,7] [] rfl rfl (fun s=>[(6,eB s.1.2.2),(8,eI .i64 s.1.1)]) (fun s=>[(0,.cells 3 1 ((Ik t.q.nx.length s.1.2.1).map AY))]) 1 (fun s=>(B4 t).length - s.1.1) (⟨⟨0,G,b⟩,by simp,hG⟩) hΓ rfl (by (simp[cX,zC,hΓ])) ?_;rintro ⟨⟨k,G',b'⟩,hk,hG'⟩;(try dsimp only[cA,cB])
      have hk:k≤(B4 t).length:=hk
      have hG':MI t F0 F i k G' b':=hG'
      clear hG
      by_cases hkl:k < (B4 t).length
      · obtain ⟨l,hlk⟩:=get_some hkl
        have hin':=E9 ht (List.mem_of_getElem? hlk)
        have hl':((B4 t).map Dv)[((k:Nat):Int).toNat]? = some (Dv l):=by rw [Int.toNat_natCast];simp [hlk]
        have hgo:=LW (TB:=TB) t.q haut i hin l hin'.1 hin'.2.1
        have hga:=FG haut hin hin'.1 hin'.2.1
        obtain ⟨x,hx⟩:∃x:Nat,Dl t.q i l=x:=⟨(Dl t.q i l).toNat,by omega⟩
        rw [hx] at hgo hga
        have hst:=Lj (TB:=TB) hs l (hG'.ok.lt i)
        have hms:Bs t.s.es l (G' i) < 65536:=by
          have:=Nn hs (l:=l) (m:=G' i) (k:=t.s.es.length)
          rwa [List.take_length] at this
        have r1:=Mi (n:=t.q.nx.length) (G:=G') (x:=x) (by omega)
        have r2:=Mi (n:=t.q.nx.length) (G:=G') (x:=i) hin
        have hxl:=hG'.ok.lt x
        have hor:=Ji (a:=G' x) (b:=Bs t.s.es l (G' i)) (by omega) (by omega)
        have hset:=Mj (n:=t.q.nx.length) (x:=x) (v:=G' x ||| Bs t.s.es l (G' i)) (G:=G')
        (repeat first|refine sN rfl ?_ |refine tA rfl ?_ |refine s2 rfl fun _ _hb=>?_ |refine aU rfl ?_ |refine Aa ?_)
        ((refine aC rfl ?_ ?_<;>rintro ⟨⟩);all_goals try(exfalso;(simp only[oZ] at *;omega)))
        refine aK ?_
        refine aS (aB ?_)
        (repeat first|refine aU rfl ?_)
        refine rG (KD []) (by kernel_rfl) ?_
        (repeat first|refine tA rfl ?_ |(refine s4 rfl ‹_› rfl ?_ ?_;omega) |refine sP rfl (hgo) rfl ?_ |refine aU rfl ?_ |refine Aa ?_)
        refine rG (KD []) (by kernel_rfl) ?_
        (repeat first|((first|refine sA rfl ?_ ?_|refine s4 rfl ‹_› rfl ?_ ?_);first|exact tI|omega) |refine s2 rfl fun _ _hb=>?_ |refine sP rfl (hst) rfl ?_ |refine aU rfl ?_ |refine Aa ?_)
        (refine aC rfl ?_ ?_<;>rintro ⟨⟩)
        · have hne:G' x ||| Bs t.s.es l (G' i)≠G' x:=by
            rw [hor] at _hb
            simp only [decide_eq_true_eq] at _hb
            omega
          (repeat first|(refine sA rfl ?_ ?_;first|exact tI|omega) |refine t4 rfl ‹_› rfl ?_ |refine aU rfl ?_ |refine Aa ?_)
          have hs1:=hG'.Ks ht hin hlk hx hne
          generalize OP G' x (G' x ||| Bs t.s.es l (G' i))=G2 at *
          refine ⟨⟨⟨k+1,G2,true⟩,by omega,hs1⟩,by dsimp only;(omega),[0],?_⟩
          simp[cX,zC,hΓ,hor];simpa [Function.comp_def] using hset
        · have he:G' x ||| Bs t.s.es l (G' i)=G' x:=by
            rw [hor] at _hb
            simp only [decide_eq_false_iff_not] at _hb
            omega
          refine aK ?_
          (repeat first|(refine sA rfl ?_ ?_;first|exact tI|omega) |refine aU rfl ?_ |refine Aa ?_)
          refine ⟨⟨⟨k+1,G',b'⟩,by omega,hG'.Xc ht hlk hx he⟩,by dsimp only;(omega),[0],?_⟩
          simp[cX,zC,hΓ]
      · obtain rfl:k=(B4 t).length:=by omega
        (repeat first|refine sN rfl ?_ |refine tA rfl ?_ |refine s2 rfl fun _ _hb=>?_ |refine aU rfl ?_ |refine Aa ?_)
        ((refine aC rfl ?_ ?_<;>rintro ⟨⟩);all_goals try(exfalso;(simp only[oZ] at *;omega)))
        refine aE ?_
        (repeat first|(refine sA rfl ?_ ?_;first|exact tI|omega) |refine aU rfl ?_ |refine Aa ?_)
        refine ⟨⟨⟨i+1,G',b'⟩,by omega,hG'.row⟩,by dsimp only;(omega),[0],?_⟩
        simp[cX,zC,hΓ]
    · obtain rfl:i=t.q.nx.length:=by omega
      (repeat first|refine tA rfl ?_ |refine s2 rfl fun _ _hb=>?_ |refine aU rfl ?_ |refine Aa ?_)
      ((refine aC rfl ?_ ?_<;>rintro ⟨⟩);all_goals try(exfalso;(simp only[oZ] at *;omega)))
      refine aE ?_
      refine ⟨⟨⟨G,b⟩,hG.ok,hG.lo,hG.hi,fun hb=>by have hb:b=false:=hb;subst hb;exact hG.done ht hF0⟩,by cases b<;>simp_all [hG.yes],[0],?_⟩
      simp[cX,zC,hΓ]
structure IU (P:Program) (TB:A7) (gA gQ:FuncId) (t:C5) (al:Int) (A:W→Bool):Prop where
  alph:Pure P TB gA [Cq t] (eI .i64 al)
  ask:∀w:W,w.length≤1099511627776→Pure P TB gQ [Cq t,eT w] (eB (A w))
theorem XF {t:C5} (hk:t.kn=true):IU Tryz.prog TB 53 99 t (if Bf t.p then t.p.al else -1) (GH t.p):=⟨I8 t hk,Jt t hk⟩
structure NZ (t:A2):Prop where
  rl:t.rows.length≤4194304
  cl:t.cols.length≤4194304
  rb:∀w∈t.rows,w.length≤4194304
  cb:∀w∈t.cols,w.length≤4194304
theorem FJ (l:List W) (s:W) (hl:l.length≤1099511627776):Pure Tryz.prog TB 55 [Bx l,eT s] (eB (decide (s∈l))):=by
  refine eN Tryz.func55 rfl (by kernel_rfl) rfl ?_;intro Γ hΓ
  (repeat first|refine tA rfl ?_ |refine aU rfl ?_ |refine Aa ?_)
  refine aB ?_
  refine aL (α:={k:Nat // k≤l.length∧s∉l.take k}) [0,1] [] rfl rfl (fun ⟨k,hk,hn⟩=>[(5,eI .i64 k)]) (fun ⟨k,hk,hn⟩=>[]) 0 (fun ⟨k,hk,hn⟩=>l.length - k) (⟨0,by omega,by simp⟩) hΓ rfl (by (simp[cX,zC,hΓ])) ?_;rintro ⟨k,hk,hn⟩;(try dsimp only[cA,cB])
  by_cases hlt:k < l.length
  · obtain ⟨x,hx⟩:=get_some hlt
    have hx':=get_map (g:=BM) hx
    by_cases hs:x=s
    · have hm:s∈l:=hs ▸ List.mem_of_getElem? hx
      (repeat first|refine sN rfl ?_ |refine tA rfl ?_ |refine s2 rfl fun _ _hb=>?_ |refine aU rfl ?_ |refine Aa ?_)
      (refine aC rfl ?_ ?_<;>rintro ⟨⟩)
      · (repeat' first|(refine sA rfl ?_ ?_;first|exact tI|omega) |(refine s4 rfl ‹_› rfl ?_ ?_;omega) |refine s2 rfl fun _ _hb=>?_ |refine aU rfl ?_ |refine Aa ?_|(refine aC rfl ?_ ?_<;>rintro ⟨⟩)|refine aK ?_|refine aE ?_|refine aB ?_|refine aR ⟨_,rfl,?_⟩)
        · simp [hm]
        · exfalso;simp [hs] at _hb
      · exfalso;(simp only[oZ] at *;omega)
    · have hn2:s∉l.take (k+1):=by
        rw [List.take_add_one,hx]
        intro h
        rcases List.mem_append.1 h with h|h
        · exact hn h
        · simp at h;exact hs h.symm
      (repeat first|refine sN rfl ?_ |refine tA rfl ?_ |refine s2 rfl fun _ _hb=>?_ |refine aU rfl ?_ |refine Aa ?_)
      (refine aC rfl ?_ ?_<;>rintro ⟨⟩)
      · (repeat' first|(refine sA rfl ?_ ?_;first|exact tI|omega) |(refine s4 rfl ‹_› rfl ?_ ?_;omega) |refine s2 rfl fun _ _hb=>?_ |refine aU rfl ?_ |refine Aa ?_|(refine aC rfl ?_ ?_<;>rintro ⟨⟩)|refine aK ?_|refine aE ?_|refine aB ?_|refine aR ⟨_,rfl,?_⟩)
        · exfalso;simp [hs] at _hb
        · refine ⟨⟨k+1,by omega,hn2⟩,by dsimp only;(omega),[],?_⟩
          simp[cX,zC,hΓ]
      · exfalso;(simp only[oZ] at *;omega)
  · rw [List.take_of_length_le (by omega)] at hn
    (repeat first|refine sN rfl ?_ |refine tA rfl ?_ |refine s2 rfl fun _ _hb=>?_ |refine aU rfl ?_ |refine Aa ?_)
    (refine aC rfl ?_ ?_<;>rintro ⟨⟩)
    · exfalso;(simp only[oZ] at *;omega)
    · (repeat' first|refine tA rfl ?_ |refine aU rfl ?_ |refine Aa ?_|(refine aC rfl ?_ ?_<;>rintro ⟨⟩)|refine aK ?_|refine aE ?_|refine aB ?_|refine aR ⟨_,rfl,?_⟩)
      simp [hn]
theorem Ow {A:W→Bool} {cols:List W} {w c:W} {k:Nat} (hc:cols[k]? = some c):marks A (cols.take (k+1)) w=marks A (cols.take k) w++[Qq (A (w++c))]:=by
  unfold marks
  rw [List.take_add_one,hc];simp
theorem Qo {A:W→Bool} {cols:List W} {w:W}:(marks A cols w).length=cols.length:=by simp [marks]
theorem Le {t:C5} {al:Int} {A:W→Bool} (hT:IU Tryz.prog TB 53 99 t al A) (cols:List W) (w:W) (hl:cols.length≤4194304) (hw:w.length≤4194305) (hb:∀x∈cols,x.length≤4194304) :
    Pure Tryz.prog TB 66 [Cq t,Bx cols,eT w] (eT (marks A cols w)):=by
  refine eN Tryz.func66 rfl (by kernel_rfl) rfl ?_;intro Γ hΓ
  (repeat first|refine tA rfl ?_ |refine aU rfl ?_ |refine Aa ?_)
  refine aB ?_
  refine aL (α:={k:Nat // k≤cols.length}) [1,2,3] [] rfl rfl (fun ⟨k,hk⟩=>[(7,eT (marks A (cols.take k) w)),(8,eI .i64 k)]) (fun ⟨k,hk⟩=>[]) 0 (fun ⟨k,hk⟩=>cols.length - k) (⟨0,by omega⟩) hΓ rfl (by (simp[cX,zC,hΓ]<;>rfl)) ?_;rintro ⟨k,hk⟩;(try dsimp only[cA,cB])
  have hml:(marks A (cols.take k) w).length≤4194304:=by rw [Qo,List.length_take];omega
  by_cases hlt:k < cols.length
  · obtain ⟨x,hx⟩:=get_some hlt
    have hx':=get_map (g:=BM) hx
    have hxb:=hb x (List.mem_of_getElem? hx)
    have hq:=hT.ask (w++x) (by simp;omega)
    have hst:=Ow (A:=A) (w:=w) hx
    (repeat first|refine sN rfl ?_ |refine tA rfl ?_ |refine s2 rfl fun _ _hb=>?_ |refine aU rfl ?_ |refine Aa ?_)
    (refine aC rfl ?_ ?_<;>rintro ⟨⟩)
    · refine aK ?_
      refine aS (aB ?_)
      (repeat first|(refine sA rfl ?_ ?_;first|exact tI|omega) |(refine s4 rfl ‹_› rfl ?_ ?_;omega) |(refine sC rfl (hq) ?_;intro _ _hb) |refine aU rfl ?_ |refine Aa ?_ |refine rE (by kernel_rfl) ?_)
      (refine aC rfl ?_ ?_<;>rintro ⟨⟩)
      · rw [_hb] at hst
        (repeat first|(refine sA rfl ?_ ?_;first|exact tI|omega|simp only[oZ] at *;omega) |refine aU rfl ?_ |refine Aa ?_)
        refine ⟨⟨k+1,by omega⟩,by dsimp only;(omega),[],?_⟩
        simp[cX,zC,hΓ,hst,Qq]
      · rw [_hb] at hst
        (repeat first|(refine sA rfl ?_ ?_;first|exact tI|omega|simp only[oZ] at *;omega) |refine aU rfl ?_ |refine Aa ?_)
        refine ⟨⟨k+1,by omega⟩,by dsimp only;(omega),[],?_⟩
        simp[cX,zC,hΓ,hst,Qq]
    · exfalso;(simp only[oZ] at *;omega)
  · obtain rfl:k=cols.length:=by omega
    rw [List.take_length]
    (repeat first|refine sN rfl ?_ |refine tA rfl ?_ |refine s2 rfl fun _ _hb=>?_ |refine aU rfl ?_ |refine Aa ?_)
    (refine aC rfl ?_ ?_<;>rintro ⟨⟩)
    · exfalso;(simp only[oZ] at *;omega)
    · (repeat' first|refine tA rfl ?_ |refine aU rfl ?_ |refine Aa ?_|(refine aC rfl ?_ ?_<;>rintro ⟨⟩)|refine aK ?_|refine aE ?_|refine aB ?_|refine aR ⟨_,rfl,?_⟩)
      rfl
theorem LG {n:Nat}:List.replicate n (AY 0)=(Ik n fun _=>0).map AY:=by
  apply List.ext_getElem?
  intro i
  by_cases h:i < n
  · simp [h]
  · rw [List.getElem?_eq_none (by simp;omega),List.getElem?_eq_none (by simp;omega)]
theorem OL {n:Nat}:(List.replicate n (AY 0)).set 0 (AY 1)=(Ik n HK).map AY:=by
  rw [LG]
  have:=Mj (n:=n) (x:=0) (v:=1) (G:=fun _=>0)
  have e:OP (fun _=>0) 0 1=HK:=by funext p;rfl
  rw [e] at this
  exact this
theorem Ot {t:BY} (ht:AR t=true):Pure Tryz.prog TB 147 [FA t] (BP (Ik t.q.nx.length (B3 t))):=by
  have hah:=AN (Cb ht)
  have hcl:=JS (TB:=TB) ht (KC ht)
  rw [show NT t HK=B3 t from rfl] at hcl
  have hst:=OL (n:=t.q.nx.length)
  have hr0:(List.replicate t.q.nx.length (AY 0))[0+(0:Int).toNat]? = some (AY 0):=by rw [List.getElem?_replicate,if_pos];simp;omega
  refine eG Tryz.func147 rfl (by kernel_rfl) rfl ?_;intro Γ hΓ
  (repeat first|refine sN rfl ?_ |refine tA rfl ?_ |refine aU rfl ?_ |refine Aa ?_)
  (refine pW rfl ?_ rfl (by rfl);refine Mb rfl rfl (by rfl) (by rfl) (Nat.le_of_ble_eq_true rfl) (by omega) (by omega) (by omega) ?_)
  (repeat first|(refine sA rfl ?_ ?_;first|exact tI|omega) |refine t4 rfl ‹_› rfl ?_ |refine aU rfl ?_ |refine Aa ?_)
  (refine pW rfl ?_ rfl (by rfl);refine Ac [0] rfl rfl (hcl) ⟨rfl,by decide,by decide⟩ rfl (by simp[cX,zC,hΓ,hst]) ?_;rintro x0 σ1 nx1 ⟨rfl,rfl,rfl⟩ _)
  (repeat first|refine tA rfl ?_)
  refine Aa ?_
  refine Ak.Aj [] [] rfl rfl [(2,.o (.arr 0 1 0 t.q.nx.length))] [(0,.cells 3 1 ((Ik t.q.nx.length (B3 t)).map AY))] [0] (rl hΓ rfl) (by (simp[cX,zC,hΓ,hst])) ?_;(try dsimp only[cA,cB])
  refine Ak.settle [(2,BP (Ik t.q.nx.length (B3 t)))] ⟨⟨_,rfl,.o (.full rfl (by simp [Function.comp_def]) (by simp))⟩,trivial⟩ ?_
  refine aR ⟨_,rfl,rfl⟩
theorem RS {t:BY} (ht:AR t=true) {F:PS}:Pure Tryz.prog TB 148 [FA t,BP (Ik t.q.nx.length F)] (eB (HP t F)):=by
  have hah:=AN (Cb ht)
  have hpl:(Ik t.q.nx.length F).length=t.q.nx.length:=by simp
  have hdef:HP t F=EL t F t.q.nx.length:=rfl
  refine eG Tryz.func148 rfl (by kernel_rfl) rfl ?_;intro Γ hΓ
  (repeat first|refine tA rfl ?_ |refine aU rfl ?_ |refine Aa ?_)
  refine aB ?_
  refine aL (α:={k:Nat // k≤t.q.nx.length∧EL t F k=false}) [1,2] [] rfl rfl (fun ⟨k,hk,hb⟩=>[(5,eI .i64 k)]) (fun ⟨k,hk,hb⟩=>[]) 0 (fun ⟨k,hk,hb⟩=>t.q.nx.length - k) (⟨0,by omega,rfl⟩) hΓ rfl (by (simp[cX,zC,hΓ])) ?_;rintro ⟨k,hk,hb⟩;(try dsimp only[cA,cB])
  by_cases hlt:k < t.q.nx.length
  · have hr:((Ik t.q.nx.length F).map Dv)[((k:Nat):Int).toNat]? = some (Dv (F k:Int)):=by rw [Int.toNat_natCast];simp [hlt]
    obtain ⟨b,hb1⟩:=get_some (l:=t.q.ac) (k:=((k:Nat):Int).toNat) (by omega)
    have hb':=get_map (g:=KI) hb1
    have hgd:t.q.ac.getD k false=b:=by rw [Int.toNat_natCast] at hb1;simp [List.getD,hb1]
    have hs:=GK (t:=t) (F:=F) (k:=k)
    rw [hgd,hb] at hs
    (repeat first|refine sN rfl ?_ |refine tA rfl ?_ |refine s2 rfl fun _ _hb=>?_ |refine aU rfl ?_ |refine Aa ?_)
    ((refine aC rfl ?_ ?_<;>rintro ⟨⟩);all_goals try(exfalso;(simp only[oZ] at *;omega)))
    refine aK ?_
    refine aS (aB ?_)
    (repeat' first|refine tA rfl ?_ |(refine s4 rfl ‹_› rfl ?_ ?_;omega) |refine s2 rfl fun _ _hb=>?_ |refine s3 rfl ?_ ?_<;>rintro rfl |refine aU rfl ?_ |refine Aa ?_|(refine aC rfl ?_ ?_<;>rintro ⟨⟩));all_goals try contradiction
    · have hbt:HP t F=true:=by
        have h7:=of_decide_eq_true ‹decide ((F k:Int)≠0)=true›
        have h8:F k≠0:=by omega
        rw [hdef]
        unfold EL
        exact List.any_eq_true.2 ⟨k,List.mem_range.2 hlt,by rw [hgd,_hb];simp [h8]⟩
      rw [hbt]
      (subst_vars;exact aR ⟨_,rfl,rfl⟩)
    · have hk1:EL t F (k+1)=false:=by rw [hs];simp_all
      refine aK ?_
      (repeat first|(refine sA rfl ?_ ?_;first|exact tI|omega) |refine aU rfl ?_ |refine Aa ?_)
      refine ⟨⟨k+1,by omega,hk1⟩,by dsimp only;(omega),[],?_⟩
      simp[cX,zC,hΓ]
    · have hk1:EL t F (k+1)=false:=by rw [hs];simp at _hb;simp;omega
      refine aK ?_
      (repeat first|(refine sA rfl ?_ ?_;first|exact tI|omega) |refine aU rfl ?_ |refine Aa ?_)
      refine ⟨⟨k+1,by omega,hk1⟩,by dsimp only;(omega),[],?_⟩
      simp[cX,zC,hΓ]
  · obtain rfl:k=t.q.nx.length:=by omega
    rw [hdef,hb]
    (repeat first|refine sN rfl ?_ |refine tA rfl ?_ |refine s2 rfl fun _ _hb=>?_ |refine aU rfl ?_ |refine Aa ?_)
    ((refine aC rfl ?_ ?_<;>rintro ⟨⟩);all_goals try(exfalso;(simp only[oZ] at *;omega)))
    refine aE ?_
    (repeat first|refine tA rfl ?_ |refine aU rfl ?_ |refine Aa ?_)
    (subst_vars;exact aR ⟨_,rfl,rfl⟩)
theorem TQ {t:BY} {l:Int} {F:PS} {k x:Nat} (h:Dl t.q k l=(x:Int)):CS t l F (k+1)=OP (CS t l F k) x (CS t l F k x ||| Cn t.s l (F k)):=by
  rw [Gk]
  funext p
  unfold OP
  rw [h]
  by_cases e:p=x
  · subst e;simp
  · rw [if_neg e,if_neg (by omega)]
theorem Qm {t:BY} (ht:AR t=true) {F:PS} (hF:Cr t F) {l:Int} (hl:0≤l∧l < 6):Pure Tryz.prog TB 149 [FA t,BP (Ik t.q.nx.length F),eI .i64 l] (BP (Ik t.q.nx.length (DF t l F))):=by
  have hs:Bu t.s=true:=by unfold AR at ht;simp only [Bool.and_eq_true] at ht;exact ht.1
  have haut:=Cb ht
  have hah:=AN haut
  have hcl:=JS (TB:=TB) ht (Ig ht hl hF)
  rw [show NT t (Pp t l F)=DF t l F from rfl] at hcl
  have hpl:(Ik t.q.nx.length F).length=t.q.nx.length:=by simp
  have h0:List.replicate t.q.nx.length (AY 0)=(Ik t.q.nx.length (CS t l F 0)).map AY:=LG
  have hz0:[zC (Value.int IntKind.i64 0)]=AY 0:=rfl
  have hhas:=CQ (TB:=TB) t.s.al l hl.1 (by omega)
  refine eG Tryz.func149 rfl (by kernel_rfl) rfl ?_;intro Γ hΓ
  (repeat first|refine sN rfl ?_ |refine tA rfl ?_ |refine aU rfl ?_ |refine Aa ?_)
  (refine pW rfl ?_ rfl (by rfl);refine Mb rfl rfl (by rfl) (by rfl) (Nat.le_of_ble_eq_true rfl) (by omega) (by omega) (by omega) ?_)
  (repeat first|refine tA rfl ?_ |refine aU rfl ?_ |refine Aa ?_)
  refine aB ?_
  refine aL (α:={k:Nat // k≤t.q.nx.length}) [1,2,3] [] rfl rfl (fun s=>[(7,.o (.arr 0 1 0 t.q.nx.length)),(8,eI .i64 s.1)]) (fun s=>[(0,.cells 3 1 ((Ik t.q.nx.length (CS t l F s.1)).map AY))]) 1 (fun s=>t.q.nx.length - s.1) (⟨0,by omega⟩) hΓ rfl (by (simp[cX,zC,hΓ,h0,hz0])) ?_;rintro ⟨k,hk⟩;(try dsimp only[cA,cB])
  by_cases hkl:k < t.q.nx.length
  · have hr:((Ik t.q.nx.length F).map Dv)[((k:Nat):Int).toNat]? = some (Dv (F k:Int)):=by rw [Int.toNat_natCast];simp [hkl]
    have hgo:=LW (TB:=TB) t.q haut k hkl l hl.1 hl.2
    have hga:=FG haut hkl hl.1 hl.2
    obtain ⟨x,hx⟩:∃x:Nat,Dl t.q k l=x:=⟨(Dl t.q k l).toNat,by omega⟩
    have hnx:=TQ (F:=F) hx
    rw [hx] at hgo hga
    have hst:=Lj (TB:=TB) hs l (hF.lt k)
    have r1:=Mi (n:=t.q.nx.length) (G:=CS t l F k) (x:=x) (by omega)
    have hml:=Pq ht (l:=l) hF k x
    have hss:=FT ht (l:=l) (hF.lt k)
    have hor:=Ji (a:=CS t l F k x) (b:=Cn t.s l (F k)) (by omega) (by omega)
    have hset:=Mj (n:=t.q.nx.length) (x:=x) (v:=CS t l F k x ||| Cn t.s l (F k)) (G:=CS t l F k)
    rw [←hnx] at hset
    (repeat first|refine sN rfl ?_ |refine tA rfl ?_ |refine s2 rfl fun _ _hb=>?_ |refine aU rfl ?_ |refine Aa ?_)
    ((refine aC rfl ?_ ?_<;>rintro ⟨⟩);all_goals try(exfalso;(simp only[oZ] at *;omega)))
    refine aK ?_
    refine aS (aB ?_)
    (repeat first|refine tA rfl ?_ |(refine s4 rfl ‹_› rfl ?_ ?_;omega) |(refine sC rfl (hhas) ?_;intro _ _hb) |refine aU rfl ?_ |refine Aa ?_)
    (refine aC rfl ?_ ?_<;>rintro ⟨⟩)
    · have hsm:Cn t.s l (F k)=Bs t.s.es l (F k):=by unfold Cn;rw [if_pos _hb]
      rw [←hsm] at hst
      (repeat first|(refine sA rfl ?_ ?_;first|exact tI|omega) |refine t4 rfl ‹_› rfl ?_ |refine sP rfl (hst) rfl ?_|refine sP rfl (hgo) rfl ?_ |refine aU rfl ?_ |refine Aa ?_)
      refine ⟨⟨k+1,by omega⟩,by dsimp only;(omega),[0],?_⟩
      simp[cX,zC,hΓ,hor];simpa [Function.comp_def] using hset
    · have hsm:Cn t.s l (F k)=F k:=by unfold Cn;rw [if_neg (by simp [_hb])]
      rw [hsm] at hor hset
      refine aK ?_
      (repeat first|(refine sA rfl ?_ ?_;first|exact tI|omega) |refine t4 rfl ‹_› rfl ?_ |refine sP rfl (hgo) rfl ?_ |refine aU rfl ?_ |refine Aa ?_)
      refine ⟨⟨k+1,by omega⟩,by dsimp only;(omega),[0],?_⟩
      simp[cX,zC,hΓ,hor];simpa [Function.comp_def] using hset
  · obtain rfl:k=t.q.nx.length:=by omega
    rw [show CS t l F t.q.nx.length=Pp t l F from rfl]
    (repeat first|refine sN rfl ?_ |refine tA rfl ?_ |refine s2 rfl fun _ _hb=>?_ |refine aU rfl ?_ |refine Aa ?_)
    ((refine aC rfl ?_ ?_<;>rintro ⟨⟩);all_goals try(exfalso;(simp only[oZ] at *;omega)))
    refine aE ?_
    (repeat first|refine tA rfl ?_ |refine aU rfl ?_)
    (refine pW rfl ?_ rfl (by rfl);refine Ac [0] rfl rfl (hcl) ⟨rfl,by decide,by decide⟩ rfl (by simp[cX,zC,hΓ]) ?_;rintro x0 σ1 nx1 ⟨rfl,rfl,rfl⟩ _)
    (repeat first|refine tA rfl ?_)
    refine Aa ?_
    refine Ak.Aj [] [] rfl rfl [(6,.o (.arr 0 1 0 t.q.nx.length))] [(0,.cells 3 1 ((Ik t.q.nx.length (DF t l F)).map AY))] [0] (rl hΓ rfl) (by (simp[cX,zC,hΓ])) ?_;(try dsimp only[cA,cB])
    refine Ak.settle [(6,BP (Ik t.q.nx.length (DF t l F)))] ⟨⟨_,rfl,.o (.full rfl (by simp [Function.comp_def]) (by simp))⟩,trivial⟩ ?_
    refine aR ⟨_,rfl,rfl⟩
theorem E0 (t:BY):Pure Tryz.prog TB 97 [FA t] (eB (AR t)):=by
  unfold AR
  refine eN Tryz.func97 rfl (by kernel_rfl) rfl ?_;intro Γ hΓ
  (repeat' first|refine tA rfl ?_ |(refine sC rfl (B8 t.s) ?_;intro _ _hb)|(refine sC rfl (Bn t.q) ?_;intro _ _hb)|(refine sC rfl (CP t.al) ?_;intro _ _hb) |refine s3 rfl ?_ ?_<;>rintro rfl |refine aU rfl ?_ |refine Aa ?_|(refine aC rfl ?_ ?_<;>rintro ⟨⟩)|refine aK ?_|refine aE ?_|refine aB ?_|refine aR ⟨_,rfl,?_⟩)
  all_goals (show E.o _=E.o _;simp_all)
noncomputable def Ef (t:BY) (w:W):Bool:=AR t && (within w t.al && LS t w)
theorem KB {w:W} {al:Int} (h:within w al=true):∀c∈w,0≤(c.toNat:Int) - 97∧(c.toNat:Int) - 97 < 6:=fun c hc=>Gi (Cd h c hc)
theorem NI (t:BY) (w:W) (hl:w.length≤1099511627776):Pure Tryz.prog TB 120 [FA t,eT w] (eB (Ef t w)):=by
  have hv:=E0 (TB:=TB) t
  have hw:=CW (TB:=TB) w t.al hl
  by_cases h:(AR t && within w t.al)=true
  · have ht:AR t=true:=by revert h;cases AR t<;>simp
    have hwi:within w t.al=true:=by revert h;cases within w t.al<;>simp
    have hn:=KB hwi
    have hA:Ef t w=LS t w:=by unfold Ef;rw [ht,hwi];rfl
    rw [hA]
    rw [ht] at hv
    rw [hwi] at hw
    have hst:=Ot (TB:=TB) ht
    refine eG Tryz.func120 rfl (by kernel_rfl) rfl ?_;intro Γ hΓ
    (repeat' first|refine tA rfl ?_ |refine s2 rfl fun _ _hb=>?_ |refine sP rfl (hv) rfl ?_|refine sP rfl (hw) rfl ?_|refine sP rfl (hst) rfl ?_ |refine s3 rfl ?_ ?_<;>rintro rfl |refine aU rfl ?_ |refine Aa ?_|(refine aC rfl ?_ ?_<;>rintro ⟨⟩));all_goals try contradiction
    refine aK ?_
    (repeat first|refine tA rfl ?_ |refine sP rfl (hst) rfl ?_ |refine aU rfl ?_ |refine Aa ?_)
    refine aB ?_
    refine aL (α:={x:Nat×PS // x.1≤w.length∧Cr t x.2∧GD t x.2 (w.drop x.1)=LS t w}) [1,2] [] rfl rfl (fun s=>[(5,BP (Ik t.q.nx.length s.1.2)),(6,eI .i64 s.1.1)]) (fun s=>[]) 0 (fun s=>w.length - s.1.1) (⟨⟨0,B3 t⟩,by simp,Ir ht,rfl⟩) hΓ rfl (by (simp[cX,zC,hΓ])) ?_;rintro ⟨⟨i,F⟩,hi,hF,hs⟩;(try dsimp only[cA,cB])
    have hi:i≤w.length:=hi
    have hF:Cr t F:=hF
    have hs:GD t F (w.drop i)=LS t w:=hs
    have hbd:=RS (TB:=TB) ht (F:=F)
    by_cases hlt:i < w.length
    · obtain ⟨c,hc⟩:=get_some hlt
      have hc':w[((i:Nat):Int).toNat]? = some c:=by simpa using hc
      have hcl:=hn c (List.mem_of_getElem? hc)
      have hla:=Hm (TB:=TB) w i c hc'
      have hmv:=Qm (TB:=TB) ht hF hcl
      have hno:=JY ht hcl hF
      rw [C6 hc,GD] at hs
      generalize HP t F=b at *
      (repeat' first|refine tA rfl ?_ |refine s2 rfl fun _ _hb=>?_ |refine sP rfl (hbd) rfl ?_ |refine s3 rfl ?_ ?_<;>rintro rfl |refine aU rfl ?_ |refine Aa ?_|(refine aC rfl ?_ ?_<;>rintro ⟨⟩));all_goals try contradiction
      all_goals first| (exfalso;(simp only[oZ] at *;omega);done)|skip
      · have hb:b=false:=by simpa using _hb
        subst hb
        refine aK ?_
        refine aS (aB ?_)
        refine rG (KD []) (by kernel_rfl) ?_
        (repeat first|(refine sA rfl ?_ ?_;first|exact tI|omega) |refine sP rfl (hla) rfl ?_|refine sP rfl (hmv) rfl ?_ |refine aU rfl ?_ |refine Aa ?_)
        refine ⟨⟨⟨i+1,DF t ((c.toNat:Int) - 97) F⟩,by omega,hno,by simpa using hs⟩,by dsimp only;(omega),[],?_⟩
        simp[cX,zC,hΓ]
      · have hb:b=true:=by simpa using _hb
        subst hb
        have hs:LS t w=false:=by simpa using hs.symm
        rw [hs]
        refine aE ?_
        (repeat first|refine tA rfl ?_ |refine s2 rfl fun _ _hb=>?_ |refine sP rfl (hbd) rfl ?_ |refine aU rfl ?_ |refine Aa ?_)
        (subst_vars;exact aR ⟨_,rfl,rfl⟩)
    · obtain rfl:i=w.length:=by omega
      rw [List.drop_length,GD] at hs
      rw [←hs]
      (repeat' first|refine tA rfl ?_ |refine s2 rfl fun _ _hb=>?_ |refine sP rfl (hbd) rfl ?_ |refine s3 rfl ?_ ?_<;>rintro rfl |refine aU rfl ?_ |refine Aa ?_|(refine aC rfl ?_ ?_<;>rintro ⟨⟩));all_goals try contradiction
      all_goals first| (exfalso;(simp only[oZ] at *;omega);done)|skip
      refine aE ?_
      (repeat first|refine tA rfl ?_ |refine s2 rfl fun _ _hb=>?_ |refine sP rfl (hbd) rfl ?_ |refine aU rfl ?_ |refine Aa ?_)
      (subst_vars;exact aR ⟨_,rfl,rfl⟩)
  · have hA:Ef t w=false:=by unfold Ef;revert h;cases AR t<;>cases within w t.al<;>simp
    rw [hA]
    refine eG Tryz.func120 rfl (by kernel_rfl) rfl ?_;intro Γ hΓ
    (repeat' first|refine tA rfl ?_ |refine s2 rfl fun _ _hb=>?_ |(refine sC rfl (hv) ?_;intro _ _hb)|(refine sC rfl (hw) ?_;intro _ _hb) |refine s3 rfl ?_ ?_<;>rintro rfl |refine aU rfl ?_ |refine Aa ?_|(refine aC rfl ?_ ?_<;>rintro ⟨⟩));all_goals try contradiction
    all_goals first
      | (subst_vars;exact aR ⟨_,rfl,rfl⟩)
      | (exfalso;simp_all;done)
theorem I9 (t:C5) (hk:t.kn=false):Pure Tryz.prog TB 53 [Cq t] (eI .i64 (if AR ⟨t.s,t.q,t.al⟩ then t.al else -1)):=by
  obtain ⟨kn,p,s,q,al⟩:=t
  dsimp only at hk
  subst hk
  have hv:=E0 (TB:=TB) ⟨s,q,al⟩
  refine eN Tryz.func53 rfl (by kernel_rfl) rfl ?_;intro Γ hΓ
  (repeat' first|refine tA rfl ?_ |refine s2 rfl fun _ _hb=>?_ |(refine sC rfl (hv) ?_;intro _ _hb) |refine s3 rfl ?_ ?_<;>rintro rfl |refine aU rfl ?_ |refine Aa ?_|(refine aC rfl ?_ ?_<;>rintro ⟨⟩)|refine aK ?_|refine aE ?_|refine aB ?_|refine aR ⟨_,rfl,?_⟩)
  all_goals first
    | (show E.o _=E.o _;congr;grind)
    | (exfalso;simp at *;done)
theorem Ju (t:C5) (hk:t.kn=false) (w:W) (hl:w.length≤1099511627776):Pure Tryz.prog TB 99 [Cq t,eT w] (eB (Ef ⟨t.s,t.q,t.al⟩ w)):=by
  obtain ⟨kn,p,s,q,al⟩:=t
  dsimp only at hk
  subst hk
  have h1:=NI (TB:=TB) ⟨s,q,al⟩ w hl
  refine eN Tryz.func99 rfl (by kernel_rfl) rfl ?_;intro Γ hΓ
  (repeat' first|refine tA rfl ?_ |refine sP rfl (h1) rfl ?_ |refine aU rfl ?_ |refine Aa ?_|(refine aC rfl ?_ ?_<;>rintro ⟨⟩)|refine aK ?_|refine aE ?_|refine aB ?_|refine aR ⟨_,rfl,?_⟩)
  all_goals rfl
theorem UL {t:C5} (hk:t.kn=false):IU Tryz.prog TB 53 99 t (if AR ⟨t.s,t.q,t.al⟩ then t.al else -1) (Ef ⟨t.s,t.q,t.al⟩):=⟨I9 t hk,Ju t hk⟩
end Go.Am
